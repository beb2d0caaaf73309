/- Documents: kids, parents, the whole. -/
import Derived.Test.YtbifbljdmndjbaaDoorDoa
import Derived.Test.YtbifbljdmndjbaaDoorByt
namespace Go.Proofs.YtbifbljdmndjbaaDoor.Do
open Go Go.Eng Go.RowKit Ti
set_option maxHeartbeats 4000000
set_option maxRecDepth 100000
set_option linter.unusedSimpArgs false
set_option linter.unusedVariables false
abbrev ND := Int × Bs × (List (Bs × Bs)) × Bs × Int × List (Int)
abbrev DC := List ND × Bool
def par (l : List ND) (k : Nat) : Int := (l.getD k default).2.2.2.2.1
def kidsOf (l : List ND) (k : Nat) : List Int := (l.getD k default).2.2.2.2.2
/-- kids and parents agree -/
structure KGood (l : List ND) : Prop where
 kid : ∀ i, i < l.length → ∀ k ∈ kidsOf l i, 0 ≤ k ∧ k < (l.length : Int) ∧ par l k.toNat = (i : Int)
 up : ∀ k, k < l.length → par l k = -1 ∨ ∃ i, i < l.length ∧ par l k = (i : Int) ∧ (k : Int) ∈ kidsOf l i
 root : par l 0 = -1
 nodup : ∀ i, i < l.length → (kidsOf l i).Nodup
def dkidj42 (xd : (List (Int × Bs × (List (Bs × Bs)) × Bs × Int × List (Int))) × Bool) (K : Int → Prop) (e5 : Int × Bs × (List (Bs × Bs)) × Bs × Int × List (Int)) (e9 : Int) (x25l23 : Int) (yown2_0l23 : List (Bool)) (x17l9 : Int) (C23 : Int → (List (Bool)) → Prop) : Prop :=
 ((((x17l9 == 0) && ((xd.1.getD (Int.toNat e9) default).1 == 3))) = true → K 7) ∧ ((((x17l9 == 0) && ((xd.1.getD (Int.toNat e9) default).1 == 3))) = false → (0 : Int) ≤ e9 ∧ Int.toNat e9 < yown2_0l23.length ∧ C23 (w6 (x25l23 + 1)) (yown2_0l23.set (Int.toNat (e5.2.2.2.2.2.getD (Int.toNat x25l23) default)) true))
def dkidj36 (xd : (List (Int × Bs × (List (Bs × Bs)) × Bs × Int × List (Int))) × Bool) (K : Int → Prop) (e5 : Int × Bs × (List (Bs × Bs)) × Bs × Int × List (Int)) (e9 : Int) (x25l23 : Int) (yown2_0l23 : List (Bool)) (x17l9 : Int) (C23 : Int → (List (Bool)) → Prop) : Prop :=
 (((((decide (e9 < 0)) || (decide (e9 ≥ (yown2_0l23.length : Int)))) || (((xd.1.getD (Int.toNat e9) default).2.2.2.2.1 != x17l9) || (yown2_0l23.getD (Int.toNat e9) default)))) = true → K 3) ∧ (((((decide (e9 < 0)) || (decide (e9 ≥ (yown2_0l23.length : Int)))) || (((xd.1.getD (Int.toNat e9) default).2.2.2.2.1 != x17l9) || (yown2_0l23.getD (Int.toNat e9) default)))) = false → (((x17l9 == 0)) = true → (0 : Int) ≤ e9 ∧ Int.toNat e9 < xd.1.length ∧ dkidj42 xd K e5 e9 x25l23 yown2_0l23 x17l9 C23) ∧ (((x17l9 == 0)) = false → dkidj42 xd K e5 e9 x25l23 yown2_0l23 x17l9 C23))
def dkidl23b (xd : (List (Int × Bs × (List (Bs × Bs)) × Bs × Int × List (Int))) × Bool) (K : Int → Prop) (e5 : Int × Bs × (List (Bs × Bs)) × Bs × Int × List (Int)) (x17l9 : Int) (C9 : Int → (List (Bool)) → Prop) (x25l23 : Int) (yown2_0l23 : List (Bool)) (C23 : Int → (List (Bool)) → Prop) : Prop :=
 ((decide (x25l23 < (e5.2.2.2.2.2.length : Int))) = true → (0 : Int) ≤ x25l23 ∧ Int.toNat x25l23 < e5.2.2.2.2.2.length ∧ ((((decide ((e5.2.2.2.2.2.getD (Int.toNat x25l23) default) < 0)) || (decide ((e5.2.2.2.2.2.getD (Int.toNat x25l23) default) ≥ (yown2_0l23.length : Int))))) = true → dkidj36 xd K e5 (e5.2.2.2.2.2.getD (Int.toNat x25l23) default) x25l23 yown2_0l23 x17l9 C23) ∧ ((((decide ((e5.2.2.2.2.2.getD (Int.toNat x25l23) default) < 0)) || (decide ((e5.2.2.2.2.2.getD (Int.toNat x25l23) default) ≥ (yown2_0l23.length : Int))))) = false → (0 : Int) ≤ (e5.2.2.2.2.2.getD (Int.toNat x25l23) default) ∧ Int.toNat (e5.2.2.2.2.2.getD (Int.toNat x25l23) default) < xd.1.length ∧ ((((xd.1.getD (Int.toNat (e5.2.2.2.2.2.getD (Int.toNat x25l23) default)) default).2.2.2.2.1 != x17l9)) = true → dkidj36 xd K e5 (e5.2.2.2.2.2.getD (Int.toNat x25l23) default) x25l23 yown2_0l23 x17l9 C23) ∧ ((((xd.1.getD (Int.toNat (e5.2.2.2.2.2.getD (Int.toNat x25l23) default)) default).2.2.2.2.1 != x17l9)) = false → (0 : Int) ≤ (e5.2.2.2.2.2.getD (Int.toNat x25l23) default) ∧ Int.toNat (e5.2.2.2.2.2.getD (Int.toNat x25l23) default) < yown2_0l23.length ∧ dkidj36 xd K e5 (e5.2.2.2.2.2.getD (Int.toNat x25l23) default) x25l23 yown2_0l23 x17l9 C23))) ∧ ((decide (x25l23 < (e5.2.2.2.2.2.length : Int))) = false → C9 (w6 (x17l9 + 1)) yown2_0l23)
def dkidl23 (xd : (List (Int × Bs × (List (Bs × Bs)) × Bs × Int × List (Int))) × Bool) (K : Int → Prop) (e5 : Int × Bs × (List (Bs × Bs)) × Bs × Int × List (Int)) (x17l9 : Int) (C9 : Int → (List (Bool)) → Prop) : Nat → Int → (List (Bool)) → Prop
 | 0, _, _ => False
 | k + 1, x25l23, yown2_0l23 => dkidl23b xd K e5 x17l9 C9 x25l23 yown2_0l23 (dkidl23 xd K e5 x17l9 C9 k)
def dkidj67 (K : Int → Prop) (yown2_0l9 : List (Bool)) (x74l56 : Int) (e28 : Int × Bs × (List (Bs × Bs)) × Bs × Int × List (Int)) (C56 : Int → Prop) : Prop :=
 ((((e28.2.2.2.2.1 != (-1)) && (!(yown2_0l9.getD (Int.toNat x74l56) default)))) = true → K 3) ∧ ((((e28.2.2.2.2.1 != (-1)) && (!(yown2_0l9.getD (Int.toNat x74l56) default)))) = false → C56 (w6 (x74l56 + 1)))
def dkidl56b (xd : (List (Int × Bs × (List (Bs × Bs)) × Bs × Int × List (Int))) × Bool) (K : Int → Prop) (yown2_0l9 : List (Bool)) (x74l56 : Int) (C56 : Int → Prop) : Prop :=
 ((decide (x74l56 < (xd.1.length : Int))) = true → (0 : Int) ≤ x74l56 ∧ Int.toNat x74l56 < xd.1.length ∧ ((((xd.1.getD (Int.toNat x74l56) default).2.2.2.2.1 != (-1))) = true → (0 : Int) ≤ x74l56 ∧ Int.toNat x74l56 < yown2_0l9.length ∧ dkidj67 K yown2_0l9 x74l56 (xd.1.getD (Int.toNat x74l56) default) C56) ∧ ((((xd.1.getD (Int.toNat x74l56) default).2.2.2.2.1 != (-1))) = false → dkidj67 K yown2_0l9 x74l56 (xd.1.getD (Int.toNat x74l56) default) C56)) ∧ ((decide (x74l56 < (xd.1.length : Int))) = false → (0 : Int) ≤ 0 ∧ Int.toNat 0 < xd.1.length ∧ ((((xd.1.getD (Int.toNat 0) default).2.2.2.2.1 != (-1))) = true → K 3) ∧ ((((xd.1.getD (Int.toNat 0) default).2.2.2.2.1 != (-1))) = false → K 0))
def dkidl56 (xd : (List (Int × Bs × (List (Bs × Bs)) × Bs × Int × List (Int))) × Bool) (K : Int → Prop) (yown2_0l9 : List (Bool)) : Nat → Int → Prop
 | 0, _ => False
 | k + 1, x74l56 => dkidl56b xd K yown2_0l9 x74l56 (dkidl56 xd K yown2_0l9 k)
def dkidl9b (xd : (List (Int × Bs × (List (Bs × Bs)) × Bs × Int × List (Int))) × Bool) (K : Int → Prop) (x17l9 : Int) (yown2_0l9 : List (Bool)) (C9 : Int → (List (Bool)) → Prop) : Prop :=
 ((decide (x17l9 < (xd.1.length : Int))) = true → (0 : Int) ≤ x17l9 ∧ Int.toNat x17l9 < xd.1.length ∧ ∃ k, dkidl23 xd K (xd.1.getD (Int.toNat x17l9) default) x17l9 C9 k 0 yown2_0l9) ∧ ((decide (x17l9 < (xd.1.length : Int))) = false → ∃ k, dkidl56 xd K yown2_0l9 k 0)
def dkidl9 (xd : (List (Int × Bs × (List (Bs × Bs)) × Bs × Int × List (Int))) × Bool) (K : Int → Prop) : Nat → Int → (List (Bool)) → Prop
 | 0, _, _ => False
 | k + 1, x17l9, yown2_0l9 => dkidl9b xd K x17l9 yown2_0l9 (dkidl9 xd K k)
def dkidF (xd : (List (Int × Bs × (List (Bs × Bs)) × Bs × Int × List (Int))) × Bool) (K : Int → Prop) : Prop :=
 (0 : Int) ≤ (xd.1.length : Int) ∧ (xd.1.length : Int) ≤ 140737488355328 ∧ ∃ k, dkidl9 xd K k 0 (List.replicate (Int.toNat (xd.1.length : Int)) false)
theorem dkid_ok {g : Ghost} {axd_0 : Option Addr} {cxd_0 : Nat} (xd : (List (Int × Bs × (List (Bs × Bs)) × Bs × Int × List (Int))) × Bool) (hRxd_0 : Rep g (.slice (.pair (.int .i64) (.pair (.str) (.pair (.slice (.pair (.str) (.str))) (.pair (.str) (.pair (.int .i64) (.slice (.int .i64)))))))) [.slice axd_0 xd.1.length cxd_0] xd.1) (K : Int → Prop)
  (hF : dkidF xd K) : CallsH Tryd.prog 24 #[.agg #[.slice axd_0 xd.1.length cxd_0, .bool xd.2]] g [] (fun g' H' v => ∃ (r0 : Int), v = .int .i64 r0 ∧ H' = [] ∧ K r0) := by
 refine CallsH.enter 96 [(0, .agg #[.slice axd_0 xd.1.length cxd_0, .bool xd.2])] Tryd.func24 rfl (by kernel_rfl) (by kernel_rfl) (by kernel_rfl) fun w0 => ?_
 refine Ok.seq (Ok.region (Ok.op rfl (OpOk.box (v := .agg #[.slice axd_0 xd.1.length cxd_0, .bool xd.2]) (cs := #[.slice axd_0 xd.1.length cxd_0, .bool xd.2]) rfl (by kernel_rfl) rfl fun b1 => ?_)))
 refine Ok.batch 1 [(1, pv b1 0)] (by kernel_rfl) (Ok.nil (Ok.thenN (Ok.seq (Ok.region (Ok.bat 1 [1] [(10, pv b1 0)] ?_)))))
 refine Ok.op rfl (OpOk.step (v := .slice axd_0 xd.1.length cxd_0) (Yields.load 0 rfl rfl Tryd.underlying22 rfl (by kernel_rfl)) rfl rfl (Ok.bat 1 [1] [(12, .int .i64 (xd.1.length : Int))] ?_))
 obtain ⟨h02, h12, hF⟩ := hF
 refine Ok.op rfl (OpOk.makeZero (e := .bool) (E := 4) (nn := (xd.1.length : Int)) (y := false) (z := .bool false) 1 140737488355328 rfl rfl Tryd.underlying74 (by kernel_rfl) (by kernel_rfl) (by kernel_rfl) rfl h02 h12 rfl fun a2 c2 xs2 hL2 => ?_)
 refine Ok.bat 1 [1] [(3, .slice a2 (List.replicate (Int.toNat (xd.1.length : Int)) false).length c2)] ?_
 refine Ok.nil (Ok.thenN (Ok.seq (Ok.seq (Ok.region (Ok.bat 1 [1, 3] [(14, pv b1 0)] ?_)))))
 refine Ok.op rfl (OpOk.step (v := .slice axd_0 xd.1.length cxd_0) (Yields.load 1 rfl rfl Tryd.underlying22 rfl (by kernel_rfl)) rfl rfl (Ok.bat 2 [1, 3] [(15, .slice axd_0 xd.1.length cxd_0), (16, .int .i64 (xd.1.length : Int)), (17, .int .i64 0)] ?_))
 refine Ok.nil (Ok.thenN (Ok.block ?_))
 obtain ⟨k, hF⟩ := hF
 refine Ok.loop (fun k a W => ∃ gl9 : Ghost, Gext w0 g gl9 ∧ ∃ (x17l9 : Int) (ayown2_0l9 : Option Addr) (cyown2_0l9 : Nat) (yown2_0l9 : List (Bool)) (xsyown2_0l9 : List Value), RepL gl9 (.bool) xsyown2_0l9 yown2_0l9 ∧ StA 96 [(1, pv b1 0), (3, .slice ayown2_0l9 yown2_0l9.length cyown2_0l9), (15, .slice axd_0 xd.1.length cxd_0), (16, .int .i64 (xd.1.length : Int)), (17, .int .i64 x17l9)] a ∧ StW w0 [.own (.slice ayown2_0l9 yown2_0l9.length cyown2_0l9) 4 1 yown2_0l9.length xsyown2_0l9, .blk b1 (.cells #[.slice axd_0 xd.1.length cxd_0, .bool xd.2] 24)] gl9 W ∧ dkidl9 xd K k x17l9 yown2_0l9) k ?_ ?_
 ·
  exact fun a W hA hW => ⟨g, (Gext.refl w0 g), 0, a2, c2, (List.replicate (Int.toNat (xd.1.length : Int)) false), xs2, hL2, hA.sub (by kernel_rfl), hW, hF⟩
 ·
  clear hF
  rintro k9 a W ⟨gl9, hxl9, x17l9, ayown2_0l9, cyown2_0l9, yown2_0l9, xsyown2_0l9, hLyown2_0l9, hA, hW, hF⟩
  cases k9 with
  | zero => exact (hF : False).elim
  | succ k9 =>
   refine (?_ : Ok _ _ _ _ _ _) a W hA hW
   clear hA hW
   replace hRxd_0 := hRxd_0.mono hxl9.1
   refine Ok.seq (Ok.region (Ok.bat 1 [1, 3, 15, 16, 17] [(18, .bool (decide (x17l9 < (xd.1.length : Int))))] ?_))
   refine Ok.nil (Ok.thenN (Ok.seq (Ok.cond (b := decide (x17l9 < (xd.1.length : Int))) rfl (fun hc3 => ?_) (fun hc3 => ?_))))
   ·replace hF := hF.1 hc3
    refine Ok.skip (Ok.thenN (Ok.seq (Ok.block (Ok.seq (Ok.region (Ok.bat 1 [1, 3, 15, 16, 17] [(19, .int .i64 x17l9)] ?_))))))
    obtain ⟨h05, h15, hF⟩ := hF
    have he5 := get_of (l := xd.1) (default : Int × Bs × (List (Bs × Bs)) × Bs × Int × List (Int)) h15
    generalize hg5 : (xd.1.getD (Int.toNat x17l9) default) = e5 at he5 hF ⊢
    refine Ok.op rfl (OpOk.indexRo (e := .pair (.int .i64) (.pair (.str) (.pair (.slice (.pair (.str) (.str))) (.pair (.str) (.pair (.int .i64) (.slice (.int .i64))))))) (i := x17l9) (el := e5) rfl rfl Tryd.underlying22 (by kernel_rfl) hRxd_0 h05 he5 rfl fun q4 o4 cs4 _ hat4 hr4 => ?_)
    obtain ⟨_, _, rfl, rfl, ⟨_, _, rfl, rfl, ⟨_, _, rfl, ⟨a4_2, c4_2, rfl, hm4_2, hr4_2⟩, ⟨_, _, rfl, rfl, ⟨_, _, rfl, rfl, ⟨a4_5, c4_5, rfl, hm4_5, hr4_5⟩⟩⟩⟩⟩⟩ := hr4
    have hR4_2 : Rep gl9 (.slice (.pair (.str) (.str))) [.slice a4_2 e5.2.2.1.length c4_2] e5.2.2.1 := ⟨a4_2, c4_2, rfl, hm4_2, hr4_2⟩
    have hR4_5 : Rep gl9 (.slice (.int .i64)) [.slice a4_5 e5.2.2.2.2.2.length c4_5] e5.2.2.2.2.2 := ⟨a4_5, c4_5, rfl, hm4_5, hr4_5⟩
    replace hat4 : At gl9 q4 o4 [.int .i64 e5.1, sv e5.2.1, .slice a4_2 e5.2.2.1.length c4_2, sv e5.2.2.2.1, .int .i64 e5.2.2.2.2.1, .slice a4_5 e5.2.2.2.2.2.length c4_5] := hat4
    refine Ok.op rfl (OpOk.step (v := .agg #[.int .i64 e5.1, sv e5.2.1, .slice a4_2 e5.2.2.1.length c4_2, sv e5.2.2.2.1, .int .i64 e5.2.2.2.2.1, .slice a4_5 e5.2.2.2.2.2.length c4_5]) (Yields.loadAggRo 0 6 #[.int .i64 e5.1, sv e5.2.1, .slice a4_2 e5.2.2.1.length c4_2, sv e5.2.2.2.1, .int .i64 e5.2.2.2.2.1, .slice a4_5 e5.2.2.2.2.2.length c4_5] hat4 (by kernel_rfl) Tryd.underlying46 rfl (by kernel_rfl) (by kernel_rfl) (by kernel_rfl)) rfl rfl (Ok.op rfl (OpOk.alloc (z := .agg #[.int .i64 0, sv ([] : Bs), .slice none 0 0, sv ([] : Bs), .int .i64 0, .slice none 0 0]) (cs := #[.int .i64 0, sv ([] : Bs), .slice none 0 0, sv ([] : Bs), .int .i64 0, .slice none 0 0]) (by kernel_rfl) (by kernel_rfl) rfl fun b6 => ?_)))
    refine Ok.bat 1 [1, 3, 15, 16, 17] [(4, .int .i64 x17l9), (5, pv b6 0), (21, .agg #[.int .i64 e5.1, sv e5.2.1, .slice a4_2 e5.2.2.1.length c4_2, sv e5.2.2.2.1, .int .i64 e5.2.2.2.2.1, .slice a4_5 e5.2.2.2.2.2.length c4_5])] ?_
    refine Ok.op rfl (OpOk.sto (k := 6) (v := .agg #[.int .i64 e5.1, sv e5.2.1, .slice a4_2 e5.2.2.1.length c4_2, sv e5.2.2.2.1, .int .i64 e5.2.2.2.2.1, .slice a4_5 e5.2.2.2.2.2.length c4_5]) 0 #[.int .i64 e5.1, sv e5.2.1, .slice a4_2 e5.2.2.1.length c4_2, sv e5.2.2.2.1, .int .i64 e5.2.2.2.2.1, .slice a4_5 e5.2.2.2.2.2.length c4_5] rfl rfl rfl ?_)
    refine Ok.nil (Ok.thenN (Ok.seq (Ok.region (Ok.bat 1 [1, 3, 4, 15, 16, 17] [(22, pv b6 5)] ?_))))
    refine Ok.op rfl (OpOk.step (v := .slice a4_5 e5.2.2.2.2.2.length c4_5) (Yields.load 0 rfl rfl Tryd.underlying28 rfl (by kernel_rfl)) rfl rfl (Ok.bat 2 [1, 3, 4, 15, 16, 17] [(23, .slice a4_5 e5.2.2.2.2.2.length c4_5), (24, .int .i64 (e5.2.2.2.2.2.length : Int)), (25, .int .i64 0)] ?_))
    refine Ok.nil (Ok.thenN (Ok.block ?_))
    obtain ⟨k, hF⟩ := hF
    refine Ok.loop (fun k a W => ∃ gl23 : Ghost, Gext w0 gl9 gl23 ∧ ∃ (x25l23 : Int) (ayown2_0l23 : Option Addr) (cyown2_0l23 : Nat) (yown2_0l23 : List (Bool)) (xsyown2_0l23 : List Value), RepL gl23 (.bool) xsyown2_0l23 yown2_0l23 ∧ StA 96 [(1, pv b1 0), (3, .slice ayown2_0l23 yown2_0l23.length cyown2_0l23), (4, .int .i64 x17l9), (15, .slice axd_0 xd.1.length cxd_0), (16, .int .i64 (xd.1.length : Int)), (17, .int .i64 x17l9), (23, .slice a4_5 e5.2.2.2.2.2.length c4_5), (24, .int .i64 (e5.2.2.2.2.2.length : Int)), (25, .int .i64 x25l23)] a ∧ StW w0 [.own (.slice ayown2_0l23 yown2_0l23.length cyown2_0l23) 4 1 yown2_0l23.length xsyown2_0l23, .blk b1 (.cells #[.slice axd_0 xd.1.length cxd_0, .bool xd.2] 24)] gl23 W ∧ dkidl23 xd K e5 x17l9 (dkidl9 xd K k9) k x25l23 yown2_0l23) k ?_ ?_
    ·
     exact fun a W hA hW => ⟨gl9, (Gext.refl w0 gl9), 0, ayown2_0l9, cyown2_0l9, yown2_0l9, xsyown2_0l9, hLyown2_0l9, hA.sub (by kernel_rfl), hW.sub (.cons _ (.cons_cons _ (.cons_cons _ .slnil))), hF⟩
    ·
     clear hF
     rintro k23 a W ⟨gl23, hxl23, x25l23, ayown2_0l23, cyown2_0l23, yown2_0l23, xsyown2_0l23, hLyown2_0l23, hA, hW, hF⟩
     cases k23 with
     | zero => exact (hF : False).elim
     | succ k23 =>
      refine (?_ : Ok _ _ _ _ _ _) a W hA hW
      clear hA hW
      replace hRxd_0 := hRxd_0.mono hxl23.1
      replace hR4_5 := hR4_5.mono hxl23.1
      refine Ok.seq (Ok.region (Ok.bat 1 [1, 3, 4, 15, 16, 17, 23, 24, 25] [(26, .bool (decide (x25l23 < (e5.2.2.2.2.2.length : Int))))] ?_))
      refine Ok.nil (Ok.thenN (Ok.seq (Ok.cond (b := decide (x25l23 < (e5.2.2.2.2.2.length : Int))) rfl (fun hc7 => ?_) (fun hc7 => ?_))))
      ·replace hF := hF.1 hc7
       refine Ok.skip (Ok.thenN (Ok.seq (Ok.block (Ok.seq (Ok.region ?_)))))
       obtain ⟨h09, h19, hF⟩ := hF
       have he9 := get_of (l := e5.2.2.2.2.2) (default : Int) h19
       generalize hg9 : (e5.2.2.2.2.2.getD (Int.toNat x25l23) default) = e9 at he9 hF ⊢
       refine Ok.op rfl (OpOk.indexRo (e := .int .i64) (i := x25l23) (el := e9) rfl rfl Tryd.underlying28 (by kernel_rfl) hR4_5 h09 he9 rfl fun q8 o8 cs8 _ hat8 hr8 => ?_)
       obtain rfl := hr8
       replace hat8 : At gl23 q8 o8 [.int .i64 e9] := hat8
       refine Ok.op rfl (OpOk.step (v := .int .i64 e9) (Yields.loadRo 0 hat8 (by kernel_rfl) Tryd.underlying3 rfl (by kernel_rfl)) rfl rfl (Ok.bat 1 [1, 3, 4, 15, 16, 17, 23, 24, 25] [(7, .int .i64 e9)] ?_))
       refine Ok.nil (Ok.thenN (Ok.seq (Ok.block (Ok.cut (fun a W => ∃ gj36 : Ghost, Gext w0 gl23 gj36 ∧ StA 96 [(1, pv b1 0), (3, .slice ayown2_0l23 yown2_0l23.length cyown2_0l23), (4, .int .i64 x17l9), (7, .int .i64 e9), (15, .slice axd_0 xd.1.length cxd_0), (16, .int .i64 (xd.1.length : Int)), (17, .int .i64 x17l9), (23, .slice a4_5 e5.2.2.2.2.2.length c4_5), (24, .int .i64 (e5.2.2.2.2.2.length : Int)), (25, .int .i64 x25l23), (29, .bool (((decide (e9 < 0)) || (decide (e9 ≥ (yown2_0l23.length : Int)))) || (((xd.1.getD (Int.toNat e9) default).2.2.2.2.1 != x17l9) || (yown2_0l23.getD (Int.toNat e9) default))))] a ∧ StW w0 [.own (.slice ayown2_0l23 yown2_0l23.length cyown2_0l23) 4 1 yown2_0l23.length xsyown2_0l23, .blk b1 (.cells #[.slice axd_0 xd.1.length cxd_0, .bool xd.2] 24)] gj36 W ∧ dkidj36 xd K e5 e9 x25l23 yown2_0l23 x17l9 (dkidl23 xd K e5 x17l9 (dkidl9 xd K k9) k23)) ?_ ?_))))
       ·
        refine Ok.region (Ok.bat 3 [1, 3, 4, 7, 15, 16, 17, 23, 24, 25] [(32, .bool (decide (e9 < 0)))] ?_)
        refine Ok.midway 5 [(1, pv b1 0), (3, .slice ayown2_0l23 yown2_0l23.length cyown2_0l23), (4, .int .i64 x17l9), (7, .int .i64 e9), (15, .slice axd_0 xd.1.length cxd_0), (16, .int .i64 (xd.1.length : Int)), (17, .int .i64 x17l9), (23, .slice a4_5 e5.2.2.2.2.2.length c4_5), (24, .int .i64 (e5.2.2.2.2.2.length : Int)), (25, .int .i64 x25l23), (37, .bool ((decide (e9 < 0)) || (decide (e9 ≥ (yown2_0l23.length : Int)))))] (fun hR18 => ?_) ?_
        ·refine Ok.boolAt 32 (decide (e9 < 0)) rfl (fun hc19 => ?_) (fun hc19 => ?_)
         ·skip
          refine Ok.bat 5 [1, 3, 4, 7, 15, 16, 17, 23, 24, 25] [(37, .bool true)] ?_
          refine Ok.reval 37 rfl (show (.bool true : Value) = .bool ((decide (e9 < 0)) || (decide (e9 ≥ (yown2_0l23.length : Int)))) from congrArg Value.bool (mor_t hc19)) (Ok.bat 0 [1, 3, 4, 7, 15, 16, 17, 23, 24, 25] [(37, .bool ((decide (e9 < 0)) || (decide (e9 ≥ (yown2_0l23.length : Int)))))] ?_)
          exact hR18
         ·skip
          refine Ok.bat 5 [1, 3, 4, 7, 15, 16, 17, 23, 24, 25] [(37, .bool (decide (e9 ≥ (yown2_0l23.length : Int))))] ?_
          refine Ok.reval 37 rfl (show (.bool (decide (e9 ≥ (yown2_0l23.length : Int))) : Value) = .bool ((decide (e9 < 0)) || (decide (e9 ≥ (yown2_0l23.length : Int)))) from congrArg Value.bool (mor_f hc19)) (Ok.bat 0 [1, 3, 4, 7, 15, 16, 17, 23, 24, 25] [(37, .bool ((decide (e9 < 0)) || (decide (e9 ≥ (yown2_0l23.length : Int)))))] ?_)
          exact hR18
        refine Ok.bat 1 [1, 3, 4, 7, 15, 16, 17, 23, 24, 25] [(38, .bool ((decide (e9 < 0)) || (decide (e9 ≥ (yown2_0l23.length : Int)))))] ?_
        refine Ok.boolAt 38 (((decide (e9 < 0)) || (decide (e9 ≥ (yown2_0l23.length : Int))))) rfl (fun hc20 => ?_) (fun hc20 => ?_)
        ·replace hF := hF.1 hc20
         refine Ok.bat 16 [1, 3, 4, 7, 15, 16, 17, 23, 24, 25] [(29, .bool true)] ?_
         refine Ok.nil (Ok.thenN (Ok.reval 29 rfl (show (.bool true : Value) = .bool (((decide (e9 < 0)) || (decide (e9 ≥ (yown2_0l23.length : Int)))) || (((xd.1.getD (Int.toNat e9) default).2.2.2.2.1 != x17l9) || (yown2_0l23.getD (Int.toNat e9) default))) from congrArg (Value.bool) (mor_t hc20)) ?_))
         exact fun a W hA hW => ⟨gl23, (Gext.refl w0 gl23), hA.sub (by kernel_rfl), hW, hF⟩
        ·replace hF := hF.2 hc20
         refine Ok.bat 1 [1, 3, 4, 7, 15, 16, 17, 23, 24, 25] [(38, .bool false), (39, pv b1 0)] ?_
         refine Ok.opYes (j := 8) (d := 38) (want := false) (b := false) rfl (by kernel_rfl) (by kernel_rfl) rfl (OpOk.step (v := .slice axd_0 xd.1.length cxd_0) (Yields.load 1 rfl rfl Tryd.underlying22 rfl (by kernel_rfl)) rfl rfl (Ok.bat 1 [1, 3, 4, 7, 15, 16, 17, 23, 24, 25, 38] [(40, .slice axd_0 xd.1.length cxd_0), (41, .int .i64 e9)] ?_))
         obtain ⟨h022, h122, hF⟩ := hF
         have he22 := get_of (l := xd.1) (default : Int × Bs × (List (Bs × Bs)) × Bs × Int × List (Int)) h122
         generalize hg22 : (xd.1.getD (Int.toNat e9) default) = e22 at he22 hF ⊢
         refine Ok.opYes (j := 8) (d := 38) (want := false) (b := false) rfl (by kernel_rfl) (by kernel_rfl) rfl (OpOk.indexRo (e := .pair (.int .i64) (.pair (.str) (.pair (.slice (.pair (.str) (.str))) (.pair (.str) (.pair (.int .i64) (.slice (.int .i64))))))) (i := e9) (el := e22) rfl rfl Tryd.underlying22 (by kernel_rfl) hRxd_0 h022 he22 rfl fun q21 o21 cs21 _ hat21 hr21 => ?_)
         obtain ⟨_, _, rfl, rfl, ⟨_, _, rfl, rfl, ⟨_, _, rfl, ⟨a21_2, c21_2, rfl, hm21_2, hr21_2⟩, ⟨_, _, rfl, rfl, ⟨_, _, rfl, rfl, ⟨a21_5, c21_5, rfl, hm21_5, hr21_5⟩⟩⟩⟩⟩⟩ := hr21
         have hR21_2 : Rep gl23 (.slice (.pair (.str) (.str))) [.slice a21_2 e22.2.2.1.length c21_2] e22.2.2.1 := ⟨a21_2, c21_2, rfl, hm21_2, hr21_2⟩
         have hR21_5 : Rep gl23 (.slice (.int .i64)) [.slice a21_5 e22.2.2.2.2.2.length c21_5] e22.2.2.2.2.2 := ⟨a21_5, c21_5, rfl, hm21_5, hr21_5⟩
         replace hat21 : At gl23 q21 o21 [.int .i64 e22.1, sv e22.2.1, .slice a21_2 e22.2.2.1.length c21_2, sv e22.2.2.2.1, .int .i64 e22.2.2.2.2.1, .slice a21_5 e22.2.2.2.2.2.length c21_5] := hat21
         refine Ok.bat 1 [1, 3, 4, 7, 15, 16, 17, 23, 24, 25, 38] [(43, .pointer (some ⟨q21, o21 + 4, none⟩))] ?_
         refine Ok.opYes (j := 8) (d := 38) (want := false) (b := false) rfl (by kernel_rfl) (by kernel_rfl) rfl (OpOk.step (v := .int .i64 e22.2.2.2.2.1) (Yields.loadRo 4 hat21 (by kernel_rfl) Tryd.underlying3 rfl (by kernel_rfl)) rfl rfl (Ok.bat 4 [1, 3, 4, 7, 15, 16, 17, 23, 24, 25] [(48, .bool (e22.2.2.2.2.1 != x17l9))] ?_))
         refine Ok.boolAt 48 ((e22.2.2.2.2.1 != x17l9)) rfl (fun hc23 => ?_) (fun hc23 => ?_)
         ·replace hF := hF.1 hc23
          refine Ok.bat 6 [1, 3, 4, 7, 15, 16, 17, 23, 24, 25] [(29, .bool true)] ?_
          refine Ok.nil (Ok.thenN ?_)
          subst hg22
          refine Ok.reval 29 rfl (show (.bool true : Value) = .bool (((decide (e9 < 0)) || (decide (e9 ≥ (yown2_0l23.length : Int)))) || (((xd.1.getD (Int.toNat e9) default).2.2.2.2.1 != x17l9) || (yown2_0l23.getD (Int.toNat e9) default))) from congrArg (Value.bool) ((Eq.trans (mor_t hc23) (mor_f hc20)))) ?_
          exact fun a W hA hW => ⟨gl23, (Gext.refl w0 gl23), hA.sub (by kernel_rfl), hW, hF⟩
         ·replace hF := hF.2 hc23
          refine Ok.bat 2 [1, 3, 4, 7, 15, 16, 17, 23, 24, 25] [(48, .bool false), (49, .slice ayown2_0l23 yown2_0l23.length cyown2_0l23), (50, .int .i64 e9)] ?_
          obtain ⟨h025, h125, hF⟩ := hF
          have he25 := get_of (l := yown2_0l23) (default : Bool) h125
          generalize hg25 : (yown2_0l23.getD (Int.toNat e9) default) = e25 at he25 hF ⊢
          refine Ok.opYes (j := 18) (d := 48) (want := false) (b := false) rfl (by kernel_rfl) (by kernel_rfl) rfl (OpOk.indexOwn (e := .bool) (q := e9) (el := e25) 0 rfl hLyown2_0l23 rfl rfl Tryd.underlying74 (by kernel_rfl) (by kernel_rfl) h025 he25 rfl fun cs24 _ hr24 hc24 => ?_)
          obtain rfl := hr24
          replace hc24 : ∀ j v, ([.bool e25] : List Value)[j]? = some v → xsyown2_0l23[Int.toNat e9 * 1 + j]? = some v := hc24
          refine Ok.opYes (j := 18) (d := 48) (want := false) (b := false) rfl (by kernel_rfl) (by kernel_rfl) rfl (OpOk.step (v := .bool e25) (Yields.loadOwn 0 0 rfl hc24 rfl Tryd.underlying4 rfl (by kernel_rfl)) rfl rfl (Ok.bat 2 [1, 3, 4, 7, 15, 16, 17, 23, 24, 25] [(29, .bool e25)] ?_))
          refine Ok.nil (Ok.thenN ?_)
          subst hg25
          subst hg22
          refine Ok.reval 29 rfl (show (.bool (yown2_0l23.getD (Int.toNat e9) default) : Value) = .bool (((decide (e9 < 0)) || (decide (e9 ≥ (yown2_0l23.length : Int)))) || (((xd.1.getD (Int.toNat e9) default).2.2.2.2.1 != x17l9) || (yown2_0l23.getD (Int.toNat e9) default))) from congrArg (Value.bool) ((Eq.trans (mor_f hc23) (mor_f hc20)))) ?_
          exact fun a W hA hW => ⟨gl23, (Gext.refl w0 gl23), hA.sub (by kernel_rfl), hW, hF⟩
       ·
        clear hF
        rintro a W ⟨gj36, hxj36, hA, hW, hF⟩
        refine (?_ : Ok _ _ _ _ _ _) a W hA hW
        clear hA hW
        replace hLyown2_0l23 := hLyown2_0l23.mono hxj36.1
        replace hRxd_0 := hRxd_0.mono hxj36.1
        replace hR4_5 := hR4_5.mono hxj36.1
        refine Ok.cond (b := (((decide (e9 < 0)) || (decide (e9 ≥ (yown2_0l23.length : Int)))) || (((xd.1.getD (Int.toNat e9) default).2.2.2.2.1 != x17l9) || (yown2_0l23.getD (Int.toNat e9) default)))) rfl (fun hc10 => ?_) (fun hc10 => ?_)
        ·replace hF := hF.1 hc10
         refine Ok.seq (Ok.region (Ok.batch 1 [(2, .int .i64 3)] (by kernel_rfl) (Ok.nil (Ok.thenN (Ok.ret (Ok.blockR (Ok.thenR (Ok.blockR (Ok.thenR (Ok.thenR (Ok.blockR (Ok.blockR (Ok.thenR (Ok.thenR (Ok.blockR (Ok.thenR ?_))))))))))))))))
         exact Ok.resP (vs := [.int .i64 3]) [] [] (by decide) rfl (.inl rfl) rfl (.cons (.tmp rfl) .nil) ((hxl9.trans hxl23).trans hxj36) ⟨3, rfl, rfl, hF⟩
        ·replace hF := hF.2 hc10
         refine Ok.cut (fun a W => ∃ gj42 : Ghost, Gext w0 gj36 gj42 ∧ StA 96 [(1, pv b1 0), (3, .slice ayown2_0l23 yown2_0l23.length cyown2_0l23), (4, .int .i64 x17l9), (7, .int .i64 e9), (15, .slice axd_0 xd.1.length cxd_0), (16, .int .i64 (xd.1.length : Int)), (17, .int .i64 x17l9), (23, .slice a4_5 e5.2.2.2.2.2.length c4_5), (24, .int .i64 (e5.2.2.2.2.2.length : Int)), (25, .int .i64 x25l23), (54, .bool ((x17l9 == 0) && ((xd.1.getD (Int.toNat e9) default).1 == 3)))] a ∧ StW w0 [.own (.slice ayown2_0l23 yown2_0l23.length cyown2_0l23) 4 1 yown2_0l23.length xsyown2_0l23, .blk b1 (.cells #[.slice axd_0 xd.1.length cxd_0, .bool xd.2] 24)] gj42 W ∧ dkidj42 xd K e5 e9 x25l23 yown2_0l23 x17l9 (dkidl23 xd K e5 x17l9 (dkidl9 xd K k9) k23)) ?_ ?_
         ·
          refine Ok.region (Ok.bat 3 [1, 3, 4, 7, 15, 16, 17, 23, 24, 25] [(57, .bool (x17l9 == 0))] ?_)
          refine Ok.boolAt 57 ((x17l9 == 0)) rfl (fun hc15 => ?_) (fun hc15 => ?_)
          ·replace hF := hF.1 hc15
           refine Ok.bat 1 [1, 3, 4, 7, 15, 16, 17, 23, 24, 25] [(57, .bool true), (58, pv b1 0)] ?_
           refine Ok.opYes (j := 2) (d := 57) (want := true) (b := true) rfl (by kernel_rfl) (by kernel_rfl) rfl (OpOk.step (v := .slice axd_0 xd.1.length cxd_0) (Yields.load 1 rfl rfl Tryd.underlying22 rfl (by kernel_rfl)) rfl rfl (Ok.bat 1 [1, 3, 4, 7, 15, 16, 17, 23, 24, 25, 57] [(59, .slice axd_0 xd.1.length cxd_0), (60, .int .i64 e9)] ?_))
           obtain ⟨h017, h117, hF⟩ := hF
           have he17 := get_of (l := xd.1) (default : Int × Bs × (List (Bs × Bs)) × Bs × Int × List (Int)) h117
           generalize hg17 : (xd.1.getD (Int.toNat e9) default) = e17 at he17 hF ⊢
           refine Ok.opYes (j := 2) (d := 57) (want := true) (b := true) rfl (by kernel_rfl) (by kernel_rfl) rfl (OpOk.indexRo (e := .pair (.int .i64) (.pair (.str) (.pair (.slice (.pair (.str) (.str))) (.pair (.str) (.pair (.int .i64) (.slice (.int .i64))))))) (i := e9) (el := e17) rfl rfl Tryd.underlying22 (by kernel_rfl) hRxd_0 h017 he17 rfl fun q16 o16 cs16 _ hat16 hr16 => ?_)
           obtain ⟨_, _, rfl, rfl, ⟨_, _, rfl, rfl, ⟨_, _, rfl, ⟨a16_2, c16_2, rfl, hm16_2, hr16_2⟩, ⟨_, _, rfl, rfl, ⟨_, _, rfl, rfl, ⟨a16_5, c16_5, rfl, hm16_5, hr16_5⟩⟩⟩⟩⟩⟩ := hr16
           have hR16_2 : Rep gj36 (.slice (.pair (.str) (.str))) [.slice a16_2 e17.2.2.1.length c16_2] e17.2.2.1 := ⟨a16_2, c16_2, rfl, hm16_2, hr16_2⟩
           have hR16_5 : Rep gj36 (.slice (.int .i64)) [.slice a16_5 e17.2.2.2.2.2.length c16_5] e17.2.2.2.2.2 := ⟨a16_5, c16_5, rfl, hm16_5, hr16_5⟩
           replace hat16 : At gj36 q16 o16 [.int .i64 e17.1, sv e17.2.1, .slice a16_2 e17.2.2.1.length c16_2, sv e17.2.2.2.1, .int .i64 e17.2.2.2.2.1, .slice a16_5 e17.2.2.2.2.2.length c16_5] := hat16
           refine Ok.bat 1 [1, 3, 4, 7, 15, 16, 17, 23, 24, 25, 57] [(62, pv q16 o16)] ?_
           refine Ok.opYes (j := 2) (d := 57) (want := true) (b := true) rfl (by kernel_rfl) (by kernel_rfl) rfl (OpOk.step (v := .int .i64 e17.1) (Yields.loadRo 0 hat16 (by kernel_rfl) Tryd.underlying3 rfl (by kernel_rfl)) rfl rfl (Ok.bat 3 [1, 3, 4, 7, 15, 16, 17, 23, 24, 25] [(54, .bool (e17.1 == 3))] ?_))
           refine Ok.nil (Ok.thenN ?_)
           subst hg17
           refine Ok.reval 54 rfl (show (.bool ((xd.1.getD (Int.toNat e9) default).1 == 3) : Value) = .bool ((x17l9 == 0) && ((xd.1.getD (Int.toNat e9) default).1 == 3)) from congrArg (Value.bool) (mand_t hc15)) ?_
           exact fun a W hA hW => ⟨gj36, (Gext.refl w0 gj36), hA.sub (by kernel_rfl), hW, hF⟩
          ·replace hF := hF.2 hc15
           refine Ok.bat 9 [1, 3, 4, 7, 15, 16, 17, 23, 24, 25] [(54, .bool false)] ?_
           refine Ok.nil (Ok.thenN (Ok.reval 54 rfl (show (.bool false : Value) = .bool ((x17l9 == 0) && ((xd.1.getD (Int.toNat e9) default).1 == 3)) from congrArg (Value.bool) (mand_f hc15)) ?_))
           exact fun a W hA hW => ⟨gj36, (Gext.refl w0 gj36), hA.sub (by kernel_rfl), hW, hF⟩
         ·
          clear hF
          rintro a W ⟨gj42, hxj42, hA, hW, hF⟩
          refine (?_ : Ok _ _ _ _ _ _) a W hA hW
          clear hA hW
          replace hLyown2_0l23 := hLyown2_0l23.mono hxj42.1
          replace hRxd_0 := hRxd_0.mono hxj42.1
          replace hR4_5 := hR4_5.mono hxj42.1
          refine Ok.cond (b := ((x17l9 == 0) && ((xd.1.getD (Int.toNat e9) default).1 == 3))) rfl (fun hc11 => ?_) (fun hc11 => ?_)
          ·replace hF := hF.1 hc11
           refine Ok.seq (Ok.region (Ok.batch 1 [(2, .int .i64 7)] (by kernel_rfl) (Ok.nil (Ok.thenN (Ok.ret (Ok.blockR (Ok.thenR (Ok.blockR (Ok.thenR (Ok.thenR (Ok.blockR (Ok.blockR (Ok.thenR (Ok.thenR (Ok.blockR (Ok.thenR ?_))))))))))))))))
           exact Ok.resP (vs := [.int .i64 7]) [] [] (by decide) rfl (.inl rfl) rfl (.cons (.tmp rfl) .nil) (((hxl9.trans hxl23).trans hxj36).trans hxj42) ⟨7, rfl, rfl, hF⟩
          ·replace hF := hF.2 hc11
           refine Ok.skip (Ok.blockN (Ok.thenN (Ok.region (Ok.bat 2 [1, 3, 4, 15, 16, 17, 23, 24, 25] [(66, .slice ayown2_0l23 yown2_0l23.length cyown2_0l23), (67, .int .i64 e9)] ?_))))
           obtain ⟨h013, h113, hF⟩ := hF
           have he13 := get_of (l := yown2_0l23) (default : Bool) h113
           generalize hg13 : (yown2_0l23.getD (Int.toNat e9) default) = e13 at he13 hF ⊢
           refine Ok.op rfl (OpOk.indexOwn (e := .bool) (q := e9) (el := e13) 0 rfl hLyown2_0l23 rfl rfl Tryd.underlying74 (by kernel_rfl) (by kernel_rfl) h013 he13 rfl fun cs12 _ hr12 hc12 => ?_)
           obtain rfl := hr12
           replace hc12 : ∀ j v, ([.bool e13] : List Value)[j]? = some v → xsyown2_0l23[Int.toNat e9 * 1 + j]? = some v := hc12
           refine Ok.op rfl (OpOk.storeOwn (e := .bool) (q := Int.toNat e9) (cells := [.bool e13]) (vs := [.bool true]) (el' := true) 0 0 1 rfl hLyown2_0l23 hc12 (by kernel_rfl) rfl rfl rfl (by kernel_rfl) (by kernel_rfl) (by kernel_rfl) (by kernel_rfl) (by kernel_rfl) (show Rep _ _ [.bool true] _ from rfl) fun xs14 hL14 => ?_)
           rw [show yown2_0l23.length = (yown2_0l23.set (Int.toNat e9) true).length from (List.length_set ..).symm]
           refine Ok.nil (Ok.blockN (Ok.thenN (Ok.region (Ok.bat 2 [1, 4, 15, 16, 17, 23, 24] [(3, .slice ayown2_0l23 (yown2_0l23.set (Int.toNat e9) true).length cyown2_0l23), (25, .int .i64 (w6 (x25l23 + 1)))] ?_))))
           refine Ok.nil (Ok.thenN ?_)
           subst hg13
           subst hg9
           exact fun a W hA hW => ⟨k23, Nat.lt_succ_self _, gj42, ((hxl23.trans hxj36).trans hxj42), w6 (x25l23 + 1), ayown2_0l23, cyown2_0l23, (yown2_0l23.set (Int.toNat (e5.2.2.2.2.2.getD (Int.toNat x25l23) default)) true), xs14, hL14, hA.sub (by kernel_rfl), hW, hF⟩
      ·replace hF := hF.2 hc7
       refine Ok.exit (Ok.thenE (Ok.thenE (Ok.blockHit (Ok.blockN (Ok.thenN (Ok.region (Ok.bat 2 [1, 3, 15, 16] [(17, .int .i64 (w6 (x17l9 + 1)))] ?_)))))))
       refine Ok.nil (Ok.thenN ?_)
       subst hg5
       exact fun a W hA hW => ⟨k9, Nat.lt_succ_self _, gl23, (hxl9.trans hxl23), w6 (x17l9 + 1), ayown2_0l23, cyown2_0l23, yown2_0l23, xsyown2_0l23, hLyown2_0l23, hA.sub (by kernel_rfl), hW, hF⟩
   ·replace hF := hF.2 hc3
    refine Ok.exit (Ok.thenE (Ok.thenE (Ok.blockHit (Ok.thenN (Ok.seq (Ok.seq (Ok.region (Ok.bat 1 [1, 3] [(71, pv b1 0)] ?_))))))))
    refine Ok.op rfl (OpOk.step (v := .slice axd_0 xd.1.length cxd_0) (Yields.load 1 rfl rfl Tryd.underlying22 rfl (by kernel_rfl)) rfl rfl (Ok.bat 2 [1, 3] [(72, .slice axd_0 xd.1.length cxd_0), (73, .int .i64 (xd.1.length : Int)), (74, .int .i64 0)] ?_))
    refine Ok.nil (Ok.thenN (Ok.block ?_))
    obtain ⟨k, hF⟩ := hF
    refine Ok.loop (fun k a W => ∃ gl56 : Ghost, Gext w0 gl9 gl56 ∧ ∃ (x74l56 : Int), StA 96 [(1, pv b1 0), (3, .slice ayown2_0l9 yown2_0l9.length cyown2_0l9), (72, .slice axd_0 xd.1.length cxd_0), (73, .int .i64 (xd.1.length : Int)), (74, .int .i64 x74l56)] a ∧ StW w0 [.own (.slice ayown2_0l9 yown2_0l9.length cyown2_0l9) 4 1 yown2_0l9.length xsyown2_0l9, .blk b1 (.cells #[.slice axd_0 xd.1.length cxd_0, .bool xd.2] 24)] gl56 W ∧ dkidl56 xd K yown2_0l9 k x74l56) k ?_ ?_
    ·
     exact fun a W hA hW => ⟨gl9, (Gext.refl w0 gl9), 0, hA.sub (by kernel_rfl), hW, hF⟩
    ·
     clear hF
     rintro k56 a W ⟨gl56, hxl56, x74l56, hA, hW, hF⟩
     cases k56 with
     | zero => exact (hF : False).elim
     | succ k56 =>
      refine (?_ : Ok _ _ _ _ _ _) a W hA hW
      clear hA hW
      replace hLyown2_0l9 := hLyown2_0l9.mono hxl56.1
      replace hRxd_0 := hRxd_0.mono hxl56.1
      refine Ok.seq (Ok.region (Ok.bat 1 [1, 3, 72, 73, 74] [(75, .bool (decide (x74l56 < (xd.1.length : Int))))] ?_))
      refine Ok.nil (Ok.thenN (Ok.seq (Ok.cond (b := decide (x74l56 < (xd.1.length : Int))) rfl (fun hc26 => ?_) (fun hc26 => ?_))))
      ·replace hF := hF.1 hc26
       refine Ok.skip (Ok.thenN (Ok.seq (Ok.block (Ok.seq (Ok.region (Ok.bat 1 [1, 3, 72, 73, 74] [(76, .int .i64 x74l56)] ?_))))))
       obtain ⟨h028, h128, hF⟩ := hF
       have he28 := get_of (l := xd.1) (default : Int × Bs × (List (Bs × Bs)) × Bs × Int × List (Int)) h128
       generalize hg28 : (xd.1.getD (Int.toNat x74l56) default) = e28 at he28 hF ⊢
       refine Ok.op rfl (OpOk.indexRo (e := .pair (.int .i64) (.pair (.str) (.pair (.slice (.pair (.str) (.str))) (.pair (.str) (.pair (.int .i64) (.slice (.int .i64))))))) (i := x74l56) (el := e28) rfl rfl Tryd.underlying22 (by kernel_rfl) hRxd_0 h028 he28 rfl fun q27 o27 cs27 _ hat27 hr27 => ?_)
       obtain ⟨_, _, rfl, rfl, ⟨_, _, rfl, rfl, ⟨_, _, rfl, ⟨a27_2, c27_2, rfl, hm27_2, hr27_2⟩, ⟨_, _, rfl, rfl, ⟨_, _, rfl, rfl, ⟨a27_5, c27_5, rfl, hm27_5, hr27_5⟩⟩⟩⟩⟩⟩ := hr27
       have hR27_2 : Rep gl56 (.slice (.pair (.str) (.str))) [.slice a27_2 e28.2.2.1.length c27_2] e28.2.2.1 := ⟨a27_2, c27_2, rfl, hm27_2, hr27_2⟩
       have hR27_5 : Rep gl56 (.slice (.int .i64)) [.slice a27_5 e28.2.2.2.2.2.length c27_5] e28.2.2.2.2.2 := ⟨a27_5, c27_5, rfl, hm27_5, hr27_5⟩
       replace hat27 : At gl56 q27 o27 [.int .i64 e28.1, sv e28.2.1, .slice a27_2 e28.2.2.1.length c27_2, sv e28.2.2.2.1, .int .i64 e28.2.2.2.2.1, .slice a27_5 e28.2.2.2.2.2.length c27_5] := hat27
       refine Ok.op rfl (OpOk.step (v := .agg #[.int .i64 e28.1, sv e28.2.1, .slice a27_2 e28.2.2.1.length c27_2, sv e28.2.2.2.1, .int .i64 e28.2.2.2.2.1, .slice a27_5 e28.2.2.2.2.2.length c27_5]) (Yields.loadAggRo 0 6 #[.int .i64 e28.1, sv e28.2.1, .slice a27_2 e28.2.2.1.length c27_2, sv e28.2.2.2.1, .int .i64 e28.2.2.2.2.1, .slice a27_5 e28.2.2.2.2.2.length c27_5] hat27 (by kernel_rfl) Tryd.underlying46 rfl (by kernel_rfl) (by kernel_rfl) (by kernel_rfl)) rfl rfl (Ok.op rfl (OpOk.alloc (z := .agg #[.int .i64 0, sv ([] : Bs), .slice none 0 0, sv ([] : Bs), .int .i64 0, .slice none 0 0]) (cs := #[.int .i64 0, sv ([] : Bs), .slice none 0 0, sv ([] : Bs), .int .i64 0, .slice none 0 0]) (by kernel_rfl) (by kernel_rfl) rfl fun b29 => ?_)))
       refine Ok.bat 1 [1, 3, 72, 73, 74] [(8, .int .i64 x74l56), (9, pv b29 0), (78, .agg #[.int .i64 e28.1, sv e28.2.1, .slice a27_2 e28.2.2.1.length c27_2, sv e28.2.2.2.1, .int .i64 e28.2.2.2.2.1, .slice a27_5 e28.2.2.2.2.2.length c27_5])] ?_
       refine Ok.op rfl (OpOk.sto (k := 6) (v := .agg #[.int .i64 e28.1, sv e28.2.1, .slice a27_2 e28.2.2.1.length c27_2, sv e28.2.2.2.1, .int .i64 e28.2.2.2.2.1, .slice a27_5 e28.2.2.2.2.2.length c27_5]) 0 #[.int .i64 e28.1, sv e28.2.1, .slice a27_2 e28.2.2.1.length c27_2, sv e28.2.2.2.1, .int .i64 e28.2.2.2.2.1, .slice a27_5 e28.2.2.2.2.2.length c27_5] rfl rfl rfl ?_)
       refine Ok.nil (Ok.thenN (Ok.cut (fun a W => ∃ gj67 : Ghost, Gext w0 gl56 gj67 ∧ StA 96 [(1, pv b1 0), (3, .slice ayown2_0l9 yown2_0l9.length cyown2_0l9), (72, .slice axd_0 xd.1.length cxd_0), (73, .int .i64 (xd.1.length : Int)), (74, .int .i64 x74l56), (88, .bool ((e28.2.2.2.2.1 != (-1)) && (!(yown2_0l9.getD (Int.toNat x74l56) default))))] a ∧ StW w0 [.own (.slice ayown2_0l9 yown2_0l9.length cyown2_0l9) 4 1 yown2_0l9.length xsyown2_0l9, .blk b1 (.cells #[.slice axd_0 xd.1.length cxd_0, .bool xd.2] 24)] gj67 W ∧ dkidj67 K yown2_0l9 x74l56 e28 (dkidl56 xd K yown2_0l9 k56)) ?_ ?_))
       ·
        refine Ok.region (Ok.bat 1 [1, 3, 8, 72, 73, 74] [(79, pv b29 4)] ?_)
        refine Ok.op rfl (OpOk.step (v := .int .i64 e28.2.2.2.2.1) (Yields.load 0 rfl rfl Tryd.underlying3 rfl (by kernel_rfl)) rfl rfl (Ok.bat 2 [1, 3, 8, 72, 73, 74] [(82, .bool (e28.2.2.2.2.1 != (-1)))] ?_))
        refine Ok.boolAt 82 ((e28.2.2.2.2.1 != (-1))) rfl (fun hc31 => ?_) (fun hc31 => ?_)
        ·replace hF := hF.1 hc31
         refine Ok.bat 2 [1, 3, 72, 73, 74] [(82, .bool true), (83, .slice ayown2_0l9 yown2_0l9.length cyown2_0l9), (84, .int .i64 x74l56)] ?_
         obtain ⟨h033, h133, hF⟩ := hF
         have he33 := get_of (l := yown2_0l9) (default : Bool) h133
         generalize hg33 : (yown2_0l9.getD (Int.toNat x74l56) default) = e33 at he33 hF ⊢
         refine Ok.opYes (j := 3) (d := 82) (want := true) (b := true) rfl (by kernel_rfl) (by kernel_rfl) rfl (OpOk.indexOwn (e := .bool) (q := x74l56) (el := e33) 1 rfl hLyown2_0l9 rfl rfl Tryd.underlying74 (by kernel_rfl) (by kernel_rfl) h033 he33 rfl fun cs32 _ hr32 hc32 => ?_)
         obtain rfl := hr32
         replace hc32 : ∀ j v, ([.bool e33] : List Value)[j]? = some v → xsyown2_0l9[Int.toNat x74l56 * 1 + j]? = some v := hc32
         refine Ok.opYes (j := 3) (d := 82) (want := true) (b := true) rfl (by kernel_rfl) (by kernel_rfl) rfl (OpOk.step (v := .bool e33) (Yields.loadOwn 1 0 rfl hc32 rfl Tryd.underlying4 rfl (by kernel_rfl)) rfl rfl (Ok.bat 2 [1, 3, 72, 73, 74] [(88, .bool (!e33))] ?_))
         refine Ok.nil (Ok.thenN ?_)
         subst hg33
         refine Ok.reval 88 rfl (show (.bool (!(yown2_0l9.getD (Int.toNat x74l56) default)) : Value) = .bool ((e28.2.2.2.2.1 != (-1)) && (!(yown2_0l9.getD (Int.toNat x74l56) default))) from congrArg (Value.bool) (mand_t hc31)) ?_
         exact fun a W hA hW => ⟨gl56, (Gext.refl w0 gl56), hA.sub (by kernel_rfl), hW.sub (.cons _ (.cons_cons _ (.cons_cons _ .slnil))), hF⟩
        ·replace hF := hF.2 hc31
         refine Ok.bat 6 [1, 3, 72, 73, 74] [(88, .bool false)] ?_
         refine Ok.nil (Ok.thenN (Ok.reval 88 rfl (show (.bool false : Value) = .bool ((e28.2.2.2.2.1 != (-1)) && (!(yown2_0l9.getD (Int.toNat x74l56) default))) from congrArg (Value.bool) (mand_f hc31)) ?_))
         exact fun a W hA hW => ⟨gl56, (Gext.refl w0 gl56), hA.sub (by kernel_rfl), hW.sub (.cons _ (.cons_cons _ (.cons_cons _ .slnil))), hF⟩
       ·
        clear hF
        rintro a W ⟨gj67, hxj67, hA, hW, hF⟩
        refine (?_ : Ok _ _ _ _ _ _) a W hA hW
        clear hA hW
        replace hLyown2_0l9 := hLyown2_0l9.mono hxj67.1
        replace hRxd_0 := hRxd_0.mono hxj67.1
        refine Ok.cond (b := ((e28.2.2.2.2.1 != (-1)) && (!(yown2_0l9.getD (Int.toNat x74l56) default)))) rfl (fun hc30 => ?_) (fun hc30 => ?_)
        ·replace hF := hF.1 hc30
         refine Ok.seq (Ok.region (Ok.batch 1 [(2, .int .i64 3)] (by kernel_rfl) (Ok.nil (Ok.thenN (Ok.ret (Ok.blockR (Ok.thenR (Ok.thenR (Ok.blockR (Ok.thenR ?_))))))))))
         exact Ok.resP (vs := [.int .i64 3]) [] [] (by decide) rfl (.inl rfl) rfl (.cons (.tmp rfl) .nil) ((hxl9.trans hxl56).trans hxj67) ⟨3, rfl, rfl, hF⟩
        ·replace hF := hF.2 hc30
         refine Ok.skip (Ok.blockN (Ok.thenN (Ok.region (Ok.bat 2 [1, 3, 72, 73] [(74, .int .i64 (w6 (x74l56 + 1)))] ?_))))
         refine Ok.nil (Ok.thenN ?_)
         subst hg28
         exact fun a W hA hW => ⟨k56, Nat.lt_succ_self _, gj67, (hxl56.trans hxj67), w6 (x74l56 + 1), hA.sub (by kernel_rfl), hW, hF⟩
      ·replace hF := hF.2 hc26
       refine Ok.exit (Ok.thenE (Ok.thenE (Ok.blockHit (Ok.thenN (Ok.seq (Ok.seq (Ok.region (Ok.batch 1 [(90, pv b1 0)] (by kernel_rfl) (Ok.op rfl (OpOk.step (v := .slice axd_0 xd.1.length cxd_0) (Yields.load 1 rfl rfl Tryd.underlying22 rfl (by kernel_rfl)) rfl rfl ?_))))))))))
       obtain ⟨h035, h135, hF⟩ := hF
       have he35 := get_of (l := xd.1) (default : Int × Bs × (List (Bs × Bs)) × Bs × Int × List (Int)) h135
       generalize hg35 : (xd.1.getD (Int.toNat 0) default) = e35 at he35 hF ⊢
       refine Ok.op rfl (OpOk.indexRo (e := .pair (.int .i64) (.pair (.str) (.pair (.slice (.pair (.str) (.str))) (.pair (.str) (.pair (.int .i64) (.slice (.int .i64))))))) (i := 0) (el := e35) rfl rfl Tryd.underlying22 (by kernel_rfl) hRxd_0 h035 he35 rfl fun q34 o34 cs34 _ hat34 hr34 => ?_)
       obtain ⟨_, _, rfl, rfl, ⟨_, _, rfl, rfl, ⟨_, _, rfl, ⟨a34_2, c34_2, rfl, hm34_2, hr34_2⟩, ⟨_, _, rfl, rfl, ⟨_, _, rfl, rfl, ⟨a34_5, c34_5, rfl, hm34_5, hr34_5⟩⟩⟩⟩⟩⟩ := hr34
       have hR34_2 : Rep gl56 (.slice (.pair (.str) (.str))) [.slice a34_2 e35.2.2.1.length c34_2] e35.2.2.1 := ⟨a34_2, c34_2, rfl, hm34_2, hr34_2⟩
       have hR34_5 : Rep gl56 (.slice (.int .i64)) [.slice a34_5 e35.2.2.2.2.2.length c34_5] e35.2.2.2.2.2 := ⟨a34_5, c34_5, rfl, hm34_5, hr34_5⟩
       replace hat34 : At gl56 q34 o34 [.int .i64 e35.1, sv e35.2.1, .slice a34_2 e35.2.2.1.length c34_2, sv e35.2.2.2.1, .int .i64 e35.2.2.2.2.1, .slice a34_5 e35.2.2.2.2.2.length c34_5] := hat34
       refine Ok.batch 1 [(93, .pointer (some ⟨q34, o34 + 4, none⟩))] (by kernel_rfl) (Ok.op rfl (OpOk.step (v := .int .i64 e35.2.2.2.2.1) (Yields.loadRo 4 hat34 (by kernel_rfl) Tryd.underlying3 rfl (by kernel_rfl)) rfl rfl (Ok.batch 1 [(95, .bool (e35.2.2.2.2.1 != (-1)))] (by kernel_rfl) (Ok.nil (Ok.thenN (Ok.cond (b := (e35.2.2.2.2.1 != (-1))) rfl (fun hc36 => ?_) (fun hc36 => ?_)))))))
       ·replace hF := hF.1 hc36
        refine Ok.seq (Ok.region (Ok.batch 1 [(2, .int .i64 3)] (by kernel_rfl) (Ok.nil (Ok.thenN (Ok.ret (Ok.thenR ?_))))))
        exact Ok.resP (vs := [.int .i64 3]) [] [] (by decide) rfl (.inl rfl) rfl (.cons (.tmp rfl) .nil) (hxl9.trans hxl56) ⟨3, rfl, rfl, hF⟩
       ·replace hF := hF.2 hc36
        refine Ok.skip (Ok.thenN (Ok.seq (Ok.region (Ok.batch 1 [(2, .int .i64 0)] (by kernel_rfl) (Ok.nil (Ok.thenN (Ok.ret ?_)))))))
        exact Ok.resP (vs := [.int .i64 0]) [] [] (by decide) rfl (.inl rfl) rfl (.cons (.tmp rfl) .nil) (hxl9.trans hxl56) ⟨0, rfl, rfl, hF⟩
def dkidP (d : DC) : Prop := 1 ≤ d.1.length ∧ d.1.length ≤ 200 ∧ ∀ x ∈ d.1, x.2.2.2.2.2.length ≤ maxLen
theorem mem_getD {α : Type} {l : List α} {i : Nat} (d : α) (h : i < l.length) : l.getD i d ∈ l := by
 rw [List.getD_eq_getElem?_getD, List.getElem?_eq_getElem h, Option.getD_some]; exact List.getElem_mem h
theorem getD_set {l : List Bool} {i j : Nat} : (l.set i true).getD j default = true → j = i ∨ l.getD j default = true := by
 rw [List.getD_eq_getElem?_getD, List.getD_eq_getElem?_getD, List.getElem?_set]
 split
 ·rename_i h; intro _; exact .inl h.symm
 ·intro h; exact .inr h
theorem getD_keep {l : List Bool} {i j : Nat} (h : l.getD j default = true) : (l.set i true).getD j default = true := by
 rw [List.getD_eq_getElem?_getD] at h ⊢
 rw [List.getElem?_set]
 split
 ·rename_i hij
  subst hij
  split
  ·rfl
  ·rename_i hl
   rw [List.getElem?_eq_none (by omega)] at h
   exact h
 ·exact h
theorem getD_put {l : List Bool} {i : Nat} (h : i < l.length) : (l.set i true).getD i default = true := by
 rw [List.getD_eq_getElem?_getD, List.getElem?_set, if_pos rfl, if_pos h]; rfl
theorem nodup_snoc {α : Type} {l : List α} {x : α} (h : l.Nodup) (hx : x ∉ l) : (l ++ [x]).Nodup := by
 rw [List.nodup_append]
 refine ⟨h, by simp, fun a ha b hb => ?_⟩
 rw [List.mem_singleton] at hb
 subst hb
 intro e
 subst e
 exact hx ha
theorem getD_rep (n j : Nat) : (List.replicate n false).getD j default = false := by
 rw [List.getD_eq_getElem?_getD, List.getElem?_replicate]
 split <;> rfl
theorem dkid_ex (d : DC) (hp : dkidP d) : ∃ e, dkidF d (fun r => r = e) ∧ (e = 0 → KGood d.1) := by
 obtain ⟨h1, h2, h3⟩ := hp
 have no : ∀ {e : Int}, e ≠ 0 → (e = 0 → KGood d.1) := fun h h0 => absurd h0 h
 -- what is known of the flags
 have Flags : ∀ (seen : List Bool), (∀ k, seen.getD k default = true → ∃ i, i < d.1.length ∧ par d.1 k = (i : Int) ∧ (k : Int) ∈ kidsOf d.1 i) →
   (∀ i, i < d.1.length → ∀ k ∈ kidsOf d.1 i, 0 ≤ k ∧ k < (d.1.length : Int) ∧ par d.1 k.toNat = (i : Int)) → (∀ i, i < d.1.length → (kidsOf d.1 i).Nodup) → seen.length = d.1.length →
   ∀ (k i : Nat), i + k = d.1.length → (∀ j, j < i → par d.1 j = -1 ∨ seen.getD j default = true) → ∃ e, dkidl56 d (fun r => r = e) seen (k + 1) (i : Int) ∧ (e = 0 → KGood d.1) := by
  intro seen hs hk hnd hl k
  induction k with
  | zero =>
   intro i h hj
   refine ex_if (fun h => by have := of_decide_eq_true h; omega) (fun _ => ex_need (by omega) (ex_need (by show 0 < d.1.length; omega) (ex_if (fun _ => ex_k (no (by decide))) fun hr => ex_k fun _ => ⟨hk, fun j hj2 => ?_, ?_, hnd⟩)))
   ·rcases hj j (by omega) with h | h
    ·exact .inl h
    ·exact .inr (hs j h)
   ·have hr' : (par d.1 0 != -1) = false := hr
    simpa using hr'
  | succ k ih =>
   intro i h hj
   refine ex_if (fun _ => ex_need (by omega) (ex_need (by rw [Int.toNat_natCast]; omega) ?_)) (fun h => by have := of_decide_eq_false h; omega)
   have j67 : ∃ e, dkidj67 (fun r => r = e) seen (i : Int) (d.1.getD (Int.toNat (i : Int)) default) (dkidl56 d (fun r => r = e) seen (k + 1)) ∧ (e = 0 → KGood d.1) := by
    refine ex_if (fun _ => ex_k (no (by decide))) fun hc => ?_
    rw [w64 (by omega)]
    refine ih (i + 1) (by omega) fun j hj2 => ?_
    by_cases hji : j < i
    ·exact hj j hji
    ·have : j = i := by omega
     subst this
     rw [Int.toNat_natCast] at hc
     have hc' : ((par d.1 j != -1) && (!(seen.getD j default))) = false := hc
     rw [Bool.and_eq_false_iff] at hc'
     rcases hc' with h | h
     ·exact .inl (by simpa using h)
     ·exact .inr (by simpa using h)
   exact ex_if (fun _ => ex_need (by omega) (ex_need (by rw [Int.toNat_natCast]; omega) j67)) fun _ => j67
 have loop : ∀ (k i : Nat) (seen : List Bool), i + k = d.1.length → seen.length = d.1.length → (∀ k, seen.getD k default = true → ∃ i, i < d.1.length ∧ par d.1 k = (i : Int) ∧ (k : Int) ∈ kidsOf d.1 i) →
   (∀ i', i' < i → ∀ k ∈ kidsOf d.1 i', 0 ≤ k ∧ k < (d.1.length : Int) ∧ par d.1 k.toNat = (i' : Int)) → (∀ i', i' < i → (kidsOf d.1 i').Nodup) → ∃ e, dkidl9 d (fun r => r = e) (k + 1) (i : Int) seen ∧ (e = 0 → KGood d.1) := by
  intro k
  induction k with
  | zero =>
   intro i seen h hl hs hk hnd
   refine ex_if (fun h => by have := of_decide_eq_true h; omega) (fun _ => ex_loop _ (Flags seen hs (fun i' hi' => hk i' (by omega)) (fun i' hi' => hnd i' (by omega)) hl d.1.length 0 (by omega) fun j hj => absurd hj (by omega)))
  | succ k ih =>
   intro i seen h hl hs hk hnd
   refine ex_if (fun _ => ex_need (by omega) (ex_need (by rw [Int.toNat_natCast]; omega) ?_)) (fun h => by have := of_decide_eq_false h; omega)
   rw [Int.toNat_natCast]
   have hlen : (kidsOf d.1 i).length ≤ maxLen := h3 _ (mem_getD default (by omega))
   have inner : ∀ (q j : Nat) (seen : List Bool), j + q = (kidsOf d.1 i).length → seen.length = d.1.length → (∀ k, seen.getD k default = true → ∃ i, i < d.1.length ∧ par d.1 k = (i : Int) ∧ (k : Int) ∈ kidsOf d.1 i) →
     (∀ x ∈ (kidsOf d.1 i).take j, 0 ≤ x ∧ x < (d.1.length : Int) ∧ par d.1 x.toNat = (i : Int)) → ((kidsOf d.1 i).take j).Nodup → (∀ x ∈ (kidsOf d.1 i).take j, seen.getD x.toNat default = true) → ∃ e, dkidl23 d (fun r => r = e) (d.1.getD i default) (i : Int) (dkidl9 d (fun r => r = e) (k + 1)) (q + 1) (j : Int) seen ∧ (e = 0 → KGood d.1) := by
    intro q
    induction q with
    | zero =>
     intro j seen hj hl hs ht hn hse
     refine ex_if (fun h => by have h' := of_decide_eq_true h; have h'' : (j : Int) < ((kidsOf d.1 i).length : Int) := h'; omega) (fun _ => ?_)
     rw [w64 (by omega)]
     rw [List.take_of_length_le (by omega)] at ht hn
     refine ih (i + 1) seen (by omega) hl hs (fun i' hi' => ?_) (fun i' hi' => ?_)
     ·by_cases hii : i' < i
      ·exact hk i' hii
      ·have : i' = i := by omega
       subst this
       exact ht
     ·by_cases hii : i' < i
      ·exact hnd i' hii
      ·have : i' = i := by omega
       subst this
       exact hn
    | succ q ihq =>
     intro j seen hj hl hs ht hn hse
     rw [maxLen_eq] at hlen
     refine ex_if (fun _ => ex_need (by omega) (ex_need (by rw [Int.toNat_natCast]; show j < (kidsOf d.1 i).length; omega) ?_)) (fun h => by have h' := of_decide_eq_false h; have h'' : ¬ (j : Int) < ((kidsOf d.1 i).length : Int) := h'; omega)
     rw [Int.toNat_natCast]
     have hx : ∃ x, (d.1.getD i default).2.2.2.2.2.getD j default = x ∧ x ∈ kidsOf d.1 i ∧ (kidsOf d.1 i).take (j + 1) = (kidsOf d.1 i).take j ++ [x] := ⟨_, rfl, mem_getD default (by omega), take_get default (by omega)⟩
     obtain ⟨x, hx, hxm, hxt⟩ := hx
     have j36 : ∃ e, dkidj36 d (fun r => r = e) (d.1.getD i default) x (j : Int) seen (i : Int) (dkidl23 d (fun r => r = e) (d.1.getD i default) (i : Int) (dkidl9 d (fun r => r = e) (k + 1)) (q + 1)) ∧ (e = 0 → KGood d.1) := by
      refine ex_if (fun _ => ex_k (no (by decide))) fun hc => ?_
      simp only [Bool.or_eq_false_iff, decide_eq_false_iff_not] at hc
      obtain ⟨⟨c1, c2⟩, c3, c4⟩ := hc
      have c3' : par d.1 x.toNat = (i : Int) := by
       have : (par d.1 x.toNat != (i : Int)) = false := c3
       simpa using this
      have hx0 : 0 ≤ x := by omega
      have hxl : x < (d.1.length : Int) := by omega
      have j42 : ∃ e, dkidj42 d (fun r => r = e) (d.1.getD i default) x (j : Int) seen (i : Int) (dkidl23 d (fun r => r = e) (d.1.getD i default) (i : Int) (dkidl9 d (fun r => r = e) (k + 1)) (q + 1)) ∧ (e = 0 → KGood d.1) := by
       refine ex_if (fun _ => ex_k (no (by decide))) fun _ => ex_need hx0 (ex_need (by omega) ?_)
       rw [w64 (by omega)]
       have c4' : seen.getD x.toNat default = false := c4
       have hxn : x ∉ (kidsOf d.1 i).take j := fun hm => by rw [hse x hm] at c4'; cases c4'
       refine ihq (j + 1) _ (by omega) (by rw [List.length_set]; exact hl) (fun k hk2 => ?_) (fun y hy => ?_) (by rw [hxt]; exact nodup_snoc hn hxn) (fun y hy => ?_)
       ·rw [Int.toNat_natCast, hx] at hk2
        rcases getD_set hk2 with h | h
        ·subst h
         exact ⟨i, by omega, c3', by rw [Int.toNat_of_nonneg hx0]; exact hxm⟩
        ·exact hs k h
       ·rw [hxt] at hy
        rcases List.mem_append.1 hy with hy | hy
        ·exact ht y hy
        ·rw [List.mem_singleton] at hy; subst hy; exact ⟨hx0, hxl, c3'⟩
       ·rw [Int.toNat_natCast, hx]
        rw [hxt] at hy
        rcases List.mem_append.1 hy with hy | hy
        ·exact getD_keep (hse y hy)
        ·rw [List.mem_singleton] at hy; subst hy; exact getD_put (by omega)
      exact ex_if (fun _ => ex_need hx0 (ex_need (by omega) j42)) fun _ => j42
     rw [hx]
     refine ex_if (fun _ => j36) fun hb => ?_
     simp only [Bool.or_eq_false_iff, decide_eq_false_iff_not] at hb
     exact ex_need (by omega) (ex_need (by omega) (ex_if (fun _ => j36) fun _ => ex_need (by omega) (ex_need (by omega) j36)))
   exact ex_loop _ (inner (kidsOf d.1 i).length 0 seen (by omega) hl hs (fun x hx => absurd hx (by simp)) (by rw [List.take_zero]; exact List.nodup_nil) (fun x hx => absurd hx (by simp)))
 refine ex_need (by omega) (ex_need (by omega) (ex_loop _ (loop d.1.length 0 _ (by omega) ?_ (fun k hk => ?_) (fun i' hi' => absurd hi' (by omega)) (fun i' hi' => absurd hi' (by omega)))))
 ·rw [List.length_replicate, Int.toNat_natCast]
 ·rw [getD_rep] at hk; cases hk
noncomputable def dkidS (d : DC) : Int := pickE fun e => dkidF d (fun r => r = e) ∧ (e = 0 → KGood d.1)
theorem dkid_sp (d : DC) (hp : dkidP d) : dkidF d (fun r => r = dkidS d) ∧ (dkidS d = 0 → KGood d.1) := pickE_ok (A := fun e => dkidF d (fun r => r = e) ∧ (e = 0 → KGood d.1)) (dkid_ex d hp)
theorem dkid_F (d : DC) (hp : dkidP d) : dkidF d (fun r => r = dkidS d) := (dkid_sp d hp).1
theorem dkid_c {g : Ghost} {axd_0 : Option Addr} {cxd_0 : Nat} (xd : (List (Int × Bs × (List (Bs × Bs)) × Bs × Int × List (Int))) × Bool) (hRxd_0 : Rep g (.slice (.pair (.int .i64) (.pair (.str) (.pair (.slice (.pair (.str) (.str))) (.pair (.str) (.pair (.int .i64) (.slice (.int .i64)))))))) [.slice axd_0 xd.1.length cxd_0] xd.1)  (hp : dkidP xd) : CallsG Tryd.prog 24 #[.agg #[.slice axd_0 xd.1.length cxd_0, .bool xd.2]] g (.int .i64 (dkidS xd)) :=
 (dkid_ok xd hRxd_0 _ (dkid_F xd hp)).gives (by rintro g' H' v _ ⟨r0, rfl, rfl, hK⟩; subst hK; rfl)
def dupj7 (xd : (List (Int × Bs × (List (Bs × Bs)) × Bs × Int × List (Int))) × Bool) (K : Int → Prop) (x1l5 : Int) (x4l5 : Int) (C5 : Int → Int → Prop) : Prop :=
 ((((decide ((xd.1.getD (Int.toNat x1l5) default).2.2.2.2.1 ≥ 0)) && (decide (x4l5 ≤ (xd.1.length : Int))))) = true → (0 : Int) ≤ x1l5 ∧ Int.toNat x1l5 < xd.1.length ∧ C5 (xd.1.getD (Int.toNat x1l5) default).2.2.2.2.1 (w6 (x4l5 + 1))) ∧ ((((decide ((xd.1.getD (Int.toNat x1l5) default).2.2.2.2.1 ≥ 0)) && (decide (x4l5 ≤ (xd.1.length : Int))))) = false → K x4l5)
def dupl5b (xd : (List (Int × Bs × (List (Bs × Bs)) × Bs × Int × List (Int))) × Bool) (K : Int → Prop) (x1l5 : Int) (x4l5 : Int) (C5 : Int → Int → Prop) : Prop :=
 (0 : Int) ≤ x1l5 ∧ Int.toNat x1l5 < xd.1.length ∧ ((decide ((xd.1.getD (Int.toNat x1l5) default).2.2.2.2.1 ≥ 0)) = true → dupj7 xd K x1l5 x4l5 C5) ∧ ((decide ((xd.1.getD (Int.toNat x1l5) default).2.2.2.2.1 ≥ 0)) = false → dupj7 xd K x1l5 x4l5 C5)
def dupl5 (xd : (List (Int × Bs × (List (Bs × Bs)) × Bs × Int × List (Int))) × Bool) (K : Int → Prop) : Nat → Int → Int → Prop
 | 0, _, _ => False
 | k + 1, x1l5, x4l5 => dupl5b xd K x1l5 x4l5 (dupl5 xd K k)
def dupF (xd : (List (Int × Bs × (List (Bs × Bs)) × Bs × Int × List (Int))) × Bool) (xn : Int) (K : Int → Prop) : Prop :=
 ∃ k, dupl5 xd K k xn 0
theorem dup_ok {g : Ghost} {axd_0 : Option Addr} {cxd_0 : Nat} (xd : (List (Int × Bs × (List (Bs × Bs)) × Bs × Int × List (Int))) × Bool) (xn : Int) (hRxd_0 : Rep g (.slice (.pair (.int .i64) (.pair (.str) (.pair (.slice (.pair (.str) (.str))) (.pair (.str) (.pair (.int .i64) (.slice (.int .i64)))))))) [.slice axd_0 xd.1.length cxd_0] xd.1) (K : Int → Prop)
  (hF : dupF xd xn K) : CallsH Tryd.prog 25 #[.agg #[.slice axd_0 xd.1.length cxd_0, .bool xd.2], .int .i64 xn] g [] (fun g' H' v => ∃ (r0 : Int), v = .int .i64 r0 ∧ H' = [] ∧ K r0) := by
 refine CallsH.enter 28 [(0, .agg #[.slice axd_0 xd.1.length cxd_0, .bool xd.2]), (1, .int .i64 xn)] Tryd.func25 rfl (by kernel_rfl) (by kernel_rfl) (by kernel_rfl) fun w0 => ?_
 refine Ok.seq (Ok.region (Ok.op rfl (OpOk.box (v := .agg #[.slice axd_0 xd.1.length cxd_0, .bool xd.2]) (cs := #[.slice axd_0 xd.1.length cxd_0, .bool xd.2]) rfl (by kernel_rfl) rfl fun b1 => ?_)))
 refine Ok.batch 1 [(1, .int .i64 xn), (2, pv b1 0), (4, .int .i64 0)] (by kernel_rfl) (Ok.nil (Ok.thenN (Ok.seq (Ok.block ?_))))
 obtain ⟨k, hF⟩ := hF
 refine Ok.loop (fun k a W => ∃ (x1l5 : Int) (x4l5 : Int), StA 28 [(1, .int .i64 x1l5), (2, pv b1 0), (4, .int .i64 x4l5)] a ∧ StW w0 [.blk b1 (.cells #[.slice axd_0 xd.1.length cxd_0, .bool xd.2] 24)] g W ∧ dupl5 xd K k x1l5 x4l5) k ?_ ?_
 ·
  exact fun a W hA hW => ⟨xn, 0, hA.sub (by kernel_rfl), hW, hF⟩
 ·
  clear hF
  rintro k5 a W ⟨x1l5, x4l5, hA, hW, hF⟩
  cases k5 with
  | zero => exact (hF : False).elim
  | succ k5 =>
   refine (?_ : Ok _ _ _ _ _ _) a W hA hW
   clear hA hW
   refine Ok.seq (Ok.cut (fun a W => StA 28 [(1, .int .i64 x1l5), (2, pv b1 0), (4, .int .i64 x4l5), (18, .bool ((decide ((xd.1.getD (Int.toNat x1l5) default).2.2.2.2.1 ≥ 0)) && (decide (x4l5 ≤ (xd.1.length : Int)))))] a ∧ StW w0 [.blk b1 (.cells #[.slice axd_0 xd.1.length cxd_0, .bool xd.2] 24)] g W ∧ dupj7 xd K x1l5 x4l5 (dupl5 xd K k5)) ?_ ?_)
   ·
    refine Ok.region (Ok.bat 1 [1, 2, 4] [(5, pv b1 0)] ?_)
    refine Ok.op rfl (OpOk.step (v := .slice axd_0 xd.1.length cxd_0) (Yields.load 0 rfl rfl Tryd.underlying22 rfl (by kernel_rfl)) rfl rfl (Ok.bat 1 [1, 2, 4] [(6, .slice axd_0 xd.1.length cxd_0), (7, .int .i64 x1l5)] ?_))
    obtain ⟨h06, h16, hF⟩ := hF
    have he6 := get_of (l := xd.1) (default : Int × Bs × (List (Bs × Bs)) × Bs × Int × List (Int)) h16
    generalize hg6 : (xd.1.getD (Int.toNat x1l5) default) = e6 at he6 hF ⊢
    refine Ok.op rfl (OpOk.indexRo (e := .pair (.int .i64) (.pair (.str) (.pair (.slice (.pair (.str) (.str))) (.pair (.str) (.pair (.int .i64) (.slice (.int .i64))))))) (i := x1l5) (el := e6) rfl rfl Tryd.underlying22 (by kernel_rfl) hRxd_0 h06 he6 rfl fun q5 o5 cs5 _ hat5 hr5 => ?_)
    obtain ⟨_, _, rfl, rfl, ⟨_, _, rfl, rfl, ⟨_, _, rfl, ⟨a5_2, c5_2, rfl, hm5_2, hr5_2⟩, ⟨_, _, rfl, rfl, ⟨_, _, rfl, rfl, ⟨a5_5, c5_5, rfl, hm5_5, hr5_5⟩⟩⟩⟩⟩⟩ := hr5
    have hR5_2 : Rep g (.slice (.pair (.str) (.str))) [.slice a5_2 e6.2.2.1.length c5_2] e6.2.2.1 := ⟨a5_2, c5_2, rfl, hm5_2, hr5_2⟩
    have hR5_5 : Rep g (.slice (.int .i64)) [.slice a5_5 e6.2.2.2.2.2.length c5_5] e6.2.2.2.2.2 := ⟨a5_5, c5_5, rfl, hm5_5, hr5_5⟩
    replace hat5 : At g q5 o5 [.int .i64 e6.1, sv e6.2.1, .slice a5_2 e6.2.2.1.length c5_2, sv e6.2.2.2.1, .int .i64 e6.2.2.2.2.1, .slice a5_5 e6.2.2.2.2.2.length c5_5] := hat5
    refine Ok.bat 1 [1, 2, 4] [(9, .pointer (some ⟨q5, o5 + 4, none⟩))] ?_
    refine Ok.op rfl (OpOk.step (v := .int .i64 e6.2.2.2.2.1) (Yields.loadRo 4 hat5 (by kernel_rfl) Tryd.underlying3 rfl (by kernel_rfl)) rfl rfl (Ok.bat 2 [1, 2, 4] [(12, .bool (decide (e6.2.2.2.2.1 ≥ 0)))] ?_))
    refine Ok.boolAt 12 (decide (e6.2.2.2.2.1 ≥ 0)) rfl (fun hc7 => ?_) (fun hc7 => ?_)
    ·replace hF := hF.1 hc7
     refine Ok.bat 2 [1, 2, 4] [(12, .bool true), (13, .int .i64 x4l5), (14, pv b1 0)] ?_
     refine Ok.opYes (j := 7) (d := 12) (want := true) (b := true) rfl (by kernel_rfl) (by kernel_rfl) rfl (OpOk.step (v := .slice axd_0 xd.1.length cxd_0) (Yields.load 0 rfl rfl Tryd.underlying22 rfl (by kernel_rfl)) rfl rfl (Ok.bat 3 [1, 2, 4] [(18, .bool (decide (x4l5 ≤ (xd.1.length : Int))))] ?_))
     refine Ok.nil (Ok.thenN ?_)
     subst hg6
     refine Ok.reval 18 rfl (show (.bool (decide (x4l5 ≤ (xd.1.length : Int))) : Value) = .bool ((decide ((xd.1.getD (Int.toNat x1l5) default).2.2.2.2.1 ≥ 0)) && (decide (x4l5 ≤ (xd.1.length : Int)))) from congrArg (Value.bool) (mand_t hc7)) ?_
     exact fun a W hA hW => ⟨hA.sub (by kernel_rfl), hW, hF⟩
    ·replace hF := hF.2 hc7
     refine Ok.bat 6 [1, 2, 4] [(18, .bool false)] ?_
     refine Ok.nil (Ok.thenN ?_)
     subst hg6
     refine Ok.reval 18 rfl (show (.bool false : Value) = .bool ((decide ((xd.1.getD (Int.toNat x1l5) default).2.2.2.2.1 ≥ 0)) && (decide (x4l5 ≤ (xd.1.length : Int)))) from congrArg (Value.bool) (mand_f hc7)) ?_
     exact fun a W hA hW => ⟨hA.sub (by kernel_rfl), hW, hF⟩
   ·
    clear hF
    rintro a W ⟨hA, hW, hF⟩
    refine (?_ : Ok _ _ _ _ _ _) a W hA hW
    clear hA hW
    refine Ok.cond (b := ((decide ((xd.1.getD (Int.toNat x1l5) default).2.2.2.2.1 ≥ 0)) && (decide (x4l5 ≤ (xd.1.length : Int))))) rfl (fun hc2 => ?_) (fun hc2 => ?_)
    ·replace hF := hF.1 hc2
     refine Ok.skip (Ok.thenN (Ok.seq (Ok.block (Ok.region (Ok.bat 3 [1, 2] [(4, .int .i64 (w6 (x4l5 + 1)))] ?_)))))
     refine Ok.nil (Ok.blockN (Ok.thenN (Ok.region (Ok.bat 1 [1, 2, 4] [(19, pv b1 0)] ?_))))
     refine Ok.op rfl (OpOk.step (v := .slice axd_0 xd.1.length cxd_0) (Yields.load 0 rfl rfl Tryd.underlying22 rfl (by kernel_rfl)) rfl rfl (Ok.bat 1 [2, 4] [(20, .slice axd_0 xd.1.length cxd_0), (21, .int .i64 x1l5)] ?_))
     obtain ⟨h04, h14, hF⟩ := hF
     have he4 := get_of (l := xd.1) (default : Int × Bs × (List (Bs × Bs)) × Bs × Int × List (Int)) h14
     generalize hg4 : (xd.1.getD (Int.toNat x1l5) default) = e4 at he4 hF ⊢
     refine Ok.op rfl (OpOk.indexRo (e := .pair (.int .i64) (.pair (.str) (.pair (.slice (.pair (.str) (.str))) (.pair (.str) (.pair (.int .i64) (.slice (.int .i64))))))) (i := x1l5) (el := e4) rfl rfl Tryd.underlying22 (by kernel_rfl) hRxd_0 h04 he4 rfl fun q3 o3 cs3 _ hat3 hr3 => ?_)
     obtain ⟨_, _, rfl, rfl, ⟨_, _, rfl, rfl, ⟨_, _, rfl, ⟨a3_2, c3_2, rfl, hm3_2, hr3_2⟩, ⟨_, _, rfl, rfl, ⟨_, _, rfl, rfl, ⟨a3_5, c3_5, rfl, hm3_5, hr3_5⟩⟩⟩⟩⟩⟩ := hr3
     have hR3_2 : Rep g (.slice (.pair (.str) (.str))) [.slice a3_2 e4.2.2.1.length c3_2] e4.2.2.1 := ⟨a3_2, c3_2, rfl, hm3_2, hr3_2⟩
     have hR3_5 : Rep g (.slice (.int .i64)) [.slice a3_5 e4.2.2.2.2.2.length c3_5] e4.2.2.2.2.2 := ⟨a3_5, c3_5, rfl, hm3_5, hr3_5⟩
     replace hat3 : At g q3 o3 [.int .i64 e4.1, sv e4.2.1, .slice a3_2 e4.2.2.1.length c3_2, sv e4.2.2.2.1, .int .i64 e4.2.2.2.2.1, .slice a3_5 e4.2.2.2.2.2.length c3_5] := hat3
     refine Ok.bat 1 [2, 4] [(23, .pointer (some ⟨q3, o3 + 4, none⟩))] ?_
     refine Ok.op rfl (OpOk.step (v := .int .i64 e4.2.2.2.2.1) (Yields.loadRo 4 hat3 (by kernel_rfl) Tryd.underlying3 rfl (by kernel_rfl)) rfl rfl (Ok.bat 1 [2, 4] [(1, .int .i64 e4.2.2.2.2.1)] ?_))
     refine Ok.nil (Ok.thenN ?_)
     subst hg4
     exact fun a W hA hW => ⟨k5, Nat.lt_succ_self _, (xd.1.getD (Int.toNat x1l5) default).2.2.2.2.1, w6 (x4l5 + 1), hA.sub (by kernel_rfl), hW, hF⟩
    ·replace hF := hF.2 hc2
     refine Ok.exit (Ok.thenE (Ok.thenE (Ok.blockHit (Ok.thenN (Ok.seq (Ok.region (Ok.bat 2 [4] [] ?_)))))))
     refine Ok.nil (Ok.thenN (Ok.ret ?_))
     exact Ok.resP (vs := [.int .i64 x4l5]) [] [] (by decide) rfl (.inl rfl) rfl (.cons (.tmp rfl) .nil) (Gext.refl w0 g) ⟨x4l5, rfl, rfl, hF⟩
def dupN (l : List ND) : Nat → Int → Int → Int
 | 0, _, m => m
 | k + 1, n, m => if (decide (par l n.toNat ≥ 0) && decide (m ≤ (l.length : Int))) = true then dupN l k (par l n.toNat) (m + 1) else m
def dupS (d : DC) (n : Int) : Int := dupN d.1 (d.1.length + 2) n 0
def dupP (d : DC) (n : Int) : Prop := d.1.length ≤ 200 ∧ KGood d.1 ∧ 0 ≤ n ∧ n < (d.1.length : Int)
theorem up_in {l : List ND} (h : KGood l) {n : Int} (h0 : 0 ≤ n) (h1 : n < (l.length : Int)) (hu : par l n.toNat ≥ 0) : par l n.toNat < (l.length : Int) := by
 rcases h.up n.toNat (by omega) with h | ⟨i, hi, he, _⟩
 ·omega
 ·omega
theorem dup_F (d : DC) (n : Int) (hp : dupP d n) : dupF d n (fun r => r = dupS d n) := by
 obtain ⟨hl, hk, h0, h1⟩ := hp
 have loop : ∀ (k : Nat) (n' m : Int), 0 ≤ n' → n' < (d.1.length : Int) → 0 ≤ m → m ≤ (d.1.length : Int) + 1 → (d.1.length : Int) + 1 ≤ m + k → dupS d n = dupN d.1 (k + 1) n' m → dupl5 d (fun r => r = dupS d n) (k + 1) n' m := by
  intro k
  induction k with
  | zero =>
   intro n' m g0 g1 g2 g3 g4 he
   have hc : (decide (par d.1 n'.toNat ≥ 0) && decide (m ≤ (d.1.length : Int))) = false := by
    rw [decide_eq_false (show ¬ m ≤ (d.1.length : Int) by omega), Bool.and_false]
   rw [dupN, if_f hc] at he
   have j7 : dupj7 d (fun r => r = dupS d n) n' m (dupl5 d (fun r => r = dupS d n) 0) := ⟨fun h => (Bool.false_ne_true (hc.symm.trans h)).elim, fun _ => he.symm⟩
   exact ⟨g0, by omega, fun _ => j7, fun _ => j7⟩
  | succ k ih =>
   intro n' m g0 g1 g2 g3 g4 he
   rw [dupN] at he
   have j7 : dupj7 d (fun r => r = dupS d n) n' m (dupl5 d (fun r => r = dupS d n) (k + 1)) := by
    refine ⟨fun h => ?_, fun h => ?_⟩
    ·have h' : (decide (par d.1 n'.toNat ≥ 0) && decide (m ≤ (d.1.length : Int))) = true := h
     rw [if_t h'] at he
     rw [Bool.and_eq_true, decide_eq_true_eq, decide_eq_true_eq] at h'
     rw [w64 (by omega)]
     exact ⟨g0, by omega, ih _ _ h'.1 (up_in hk g0 g1 h'.1) (by omega) (by omega) (by omega) he⟩
    ·rw [if_f (show (decide (par d.1 n'.toNat ≥ 0) && decide (m ≤ (d.1.length : Int))) = false from h)] at he
     exact he.symm
   exact ⟨g0, by omega, fun _ => j7, fun _ => j7⟩
 exact ⟨_, loop (d.1.length + 1) n 0 h0 h1 (by omega) (by omega) (by omega) rfl⟩
theorem dup_c {g : Ghost} {axd_0 : Option Addr} {cxd_0 : Nat} (xd : (List (Int × Bs × (List (Bs × Bs)) × Bs × Int × List (Int))) × Bool) (xn : Int) (hRxd_0 : Rep g (.slice (.pair (.int .i64) (.pair (.str) (.pair (.slice (.pair (.str) (.str))) (.pair (.str) (.pair (.int .i64) (.slice (.int .i64)))))))) [.slice axd_0 xd.1.length cxd_0] xd.1)  (hp : dupP xd xn) : CallsG Tryd.prog 25 #[.agg #[.slice axd_0 xd.1.length cxd_0, .bool xd.2], .int .i64 xn] g (.int .i64 (dupS xd xn)) :=
 (dup_ok xd xn hRxd_0 _ (dup_F xd xn hp)).gives (by rintro g' H' v _ ⟨r0, rfl, rfl, hK⟩; subst hK; rfl)
def dchkl65b (xd : (List (Int × Bs × (List (Bs × Bs)) × Bs × Int × List (Int))) × Bool) (K : Int → Prop) (x47l65 : Int) (C65 : Int → Prop) : Prop :=
 ((decide (x47l65 < (xd.1.length : Int))) = true → dupP xd x47l65 ∧ ((decide ((dupS xd x47l65) > (xd.1.length : Int))) = true → K 8) ∧ ((decide ((dupS xd x47l65) > (xd.1.length : Int))) = false → ((decide ((dupS xd x47l65) > 40)) = true → K 2) ∧ ((decide ((dupS xd x47l65) > 40)) = false → C65 (w6 (x47l65 + 1))))) ∧ ((decide (x47l65 < (xd.1.length : Int))) = false → K 0)
def dchkl65 (xd : (List (Int × Bs × (List (Bs × Bs)) × Bs × Int × List (Int))) × Bool) (K : Int → Prop) : Nat → Int → Prop
 | 0, _ => False
 | k + 1, x47l65 => dchkl65b xd K x47l65 (dchkl65 xd K k)
def dchkl22b (xd : (List (Int × Bs × (List (Bs × Bs)) × Bs × Int × List (Int))) × Bool) (K : Int → Prop) (x22l22 : Int) (C22 : Int → Prop) : Prop :=
 ((decide (x22l22 < (xd.1.length : Int))) = true → (0 : Int) ≤ x22l22 ∧ Int.toNat x22l22 < xd.1.length ∧ ((!(((xd.1.getD (Int.toNat x22l22) default).1 == 1) == (x22l22 == 0))) = true → K 3) ∧ ((!(((xd.1.getD (Int.toNat x22l22) default).1 == 1) == (x22l22 == 0))) = false → ((((doneS (xd.1.getD (Int.toNat x22l22) default)) != 0)) = true → K (doneS (xd.1.getD (Int.toNat x22l22) default))) ∧ ((((doneS (xd.1.getD (Int.toNat x22l22) default)) != 0)) = false → C22 (w6 (x22l22 + 1))))) ∧ ((decide (x22l22 < (xd.1.length : Int))) = false → dkidP xd ∧ ((((dkidS xd) != 0)) = true → K (dkidS xd)) ∧ ((((dkidS xd) != 0)) = false → ∃ k, dchkl65 xd K k 0))
def dchkl22 (xd : (List (Int × Bs × (List (Bs × Bs)) × Bs × Int × List (Int))) × Bool) (K : Int → Prop) : Nat → Int → Prop
 | 0, _ => False
 | k + 1, x22l22 => dchkl22b xd K x22l22 (dchkl22 xd K k)
def dchkF (xd : (List (Int × Bs × (List (Bs × Bs)) × Bs × Int × List (Int))) × Bool) (K : Int → Prop) : Prop :=
 ((decide ((xd.1.length : Int) > 200)) = true → K 2) ∧ ((decide ((xd.1.length : Int) > 200)) = false → ((((xd.1.length : Int) == 0)) = true → K 3) ∧ ((((xd.1.length : Int) == 0)) = false → ∃ k, dchkl22 xd K k 0))
theorem dchk_ok {g : Ghost} {axd_0 : Option Addr} {cxd_0 : Nat} (xd : (List (Int × Bs × (List (Bs × Bs)) × Bs × Int × List (Int))) × Bool) (hRxd_0 : Rep g (.slice (.pair (.int .i64) (.pair (.str) (.pair (.slice (.pair (.str) (.str))) (.pair (.str) (.pair (.int .i64) (.slice (.int .i64)))))))) [.slice axd_0 xd.1.length cxd_0] xd.1) (K : Int → Prop)
  (hF : dchkF xd K) : CallsH Tryd.prog 11 #[.agg #[.slice axd_0 xd.1.length cxd_0, .bool xd.2]] g [] (fun g' H' v => ∃ (r0 : Int), v = .int .i64 r0 ∧ H' = [] ∧ K r0) := by
 refine CallsH.enter 63 [(0, .agg #[.slice axd_0 xd.1.length cxd_0, .bool xd.2])] Tryd.func11 rfl (by kernel_rfl) (by kernel_rfl) (by kernel_rfl) fun w0 => ?_
 refine Ok.seq (Ok.region (Ok.op rfl (OpOk.box (v := .agg #[.slice axd_0 xd.1.length cxd_0, .bool xd.2]) (cs := #[.slice axd_0 xd.1.length cxd_0, .bool xd.2]) rfl (by kernel_rfl) rfl fun b1 => ?_)))
 refine Ok.batch 1 [(1, pv b1 0)] (by kernel_rfl) (Ok.nil (Ok.thenN (Ok.seq (Ok.block (Ok.seq (Ok.region (Ok.bat 1 [1] [(10, pv b1 0)] ?_)))))))
 refine Ok.op rfl (OpOk.step (v := .slice axd_0 xd.1.length cxd_0) (Yields.load 0 rfl rfl Tryd.underlying22 rfl (by kernel_rfl)) rfl rfl (Ok.bat 3 [1] [(9, .bool (decide ((xd.1.length : Int) > 200)))] ?_))
 refine Ok.nil (Ok.thenN (Ok.cond (b := decide ((xd.1.length : Int) > 200)) rfl (fun hc2 => ?_) (fun hc2 => ?_)))
 ·replace hF := hF.1 hc2
  refine Ok.seq (Ok.region (Ok.batch 1 [(2, .int .i64 2)] (by kernel_rfl) (Ok.nil (Ok.thenN (Ok.ret (Ok.blockR (Ok.thenR ?_)))))))
  exact Ok.resP (vs := [.int .i64 2]) [] [] (by decide) rfl (.inl rfl) rfl (.cons (.tmp rfl) .nil) (Gext.refl w0 g) ⟨2, rfl, rfl, hF⟩
 ·replace hF := hF.2 hc2
  refine Ok.seq (Ok.region (Ok.bat 1 [1] [(15, pv b1 0)] ?_))
  refine Ok.op rfl (OpOk.step (v := .slice axd_0 xd.1.length cxd_0) (Yields.load 0 rfl rfl Tryd.underlying22 rfl (by kernel_rfl)) rfl rfl (Ok.bat 3 [1] [(14, .bool ((xd.1.length : Int) == 0))] ?_))
  refine Ok.nil (Ok.thenN (Ok.cond (b := ((xd.1.length : Int) == 0)) rfl (fun hc3 => ?_) (fun hc3 => ?_)))
  ·replace hF := hF.1 hc3
   refine Ok.seq (Ok.region (Ok.batch 1 [(2, .int .i64 3)] (by kernel_rfl) (Ok.nil (Ok.thenN (Ok.ret (Ok.blockR (Ok.thenR ?_)))))))
   exact Ok.resP (vs := [.int .i64 3]) [] [] (by decide) rfl (.inl rfl) rfl (.cons (.tmp rfl) .nil) (Gext.refl w0 g) ⟨3, rfl, rfl, hF⟩
  ·replace hF := hF.2 hc3
   refine Ok.skip (Ok.blockN (Ok.thenN (Ok.seq (Ok.seq (Ok.region (Ok.bat 1 [1] [(19, pv b1 0)] ?_))))))
   refine Ok.op rfl (OpOk.step (v := .slice axd_0 xd.1.length cxd_0) (Yields.load 0 rfl rfl Tryd.underlying22 rfl (by kernel_rfl)) rfl rfl (Ok.bat 2 [1] [(20, .slice axd_0 xd.1.length cxd_0), (21, .int .i64 (xd.1.length : Int)), (22, .int .i64 0)] ?_))
   refine Ok.nil (Ok.thenN (Ok.block ?_))
   obtain ⟨k, hF⟩ := hF
   refine Ok.loop (fun k a W => ∃ (x22l22 : Int), StA 63 [(1, pv b1 0), (20, .slice axd_0 xd.1.length cxd_0), (21, .int .i64 (xd.1.length : Int)), (22, .int .i64 x22l22)] a ∧ StW w0 [.blk b1 (.cells #[.slice axd_0 xd.1.length cxd_0, .bool xd.2] 24)] g W ∧ dchkl22 xd K k x22l22) k ?_ ?_
   ·
    exact fun a W hA hW => ⟨0, hA.sub (by kernel_rfl), hW, hF⟩
   ·
    clear hF
    rintro k22 a W ⟨x22l22, hA, hW, hF⟩
    cases k22 with
    | zero => exact (hF : False).elim
    | succ k22 =>
     refine (?_ : Ok _ _ _ _ _ _) a W hA hW
     clear hA hW
     refine Ok.seq (Ok.region (Ok.bat 1 [1, 20, 21, 22] [(23, .bool (decide (x22l22 < (xd.1.length : Int))))] ?_))
     refine Ok.nil (Ok.thenN (Ok.seq (Ok.cond (b := decide (x22l22 < (xd.1.length : Int))) rfl (fun hc4 => ?_) (fun hc4 => ?_))))
     ·replace hF := hF.1 hc4
      refine Ok.skip (Ok.thenN (Ok.seq (Ok.block (Ok.seq (Ok.region (Ok.bat 1 [1, 20, 21, 22] [(24, .int .i64 x22l22)] ?_))))))
      obtain ⟨h06, h16, hF⟩ := hF
      have he6 := get_of (l := xd.1) (default : Int × Bs × (List (Bs × Bs)) × Bs × Int × List (Int)) h16
      generalize hg6 : (xd.1.getD (Int.toNat x22l22) default) = e6 at he6 hF ⊢
      refine Ok.op rfl (OpOk.indexRo (e := .pair (.int .i64) (.pair (.str) (.pair (.slice (.pair (.str) (.str))) (.pair (.str) (.pair (.int .i64) (.slice (.int .i64))))))) (i := x22l22) (el := e6) rfl rfl Tryd.underlying22 (by kernel_rfl) hRxd_0 h06 he6 rfl fun q5 o5 cs5 _ hat5 hr5 => ?_)
      obtain ⟨_, _, rfl, rfl, ⟨_, _, rfl, rfl, ⟨_, _, rfl, ⟨a5_2, c5_2, rfl, hm5_2, hr5_2⟩, ⟨_, _, rfl, rfl, ⟨_, _, rfl, rfl, ⟨a5_5, c5_5, rfl, hm5_5, hr5_5⟩⟩⟩⟩⟩⟩ := hr5
      have hR5_2 : Rep g (.slice (.pair (.str) (.str))) [.slice a5_2 e6.2.2.1.length c5_2] e6.2.2.1 := ⟨a5_2, c5_2, rfl, hm5_2, hr5_2⟩
      have hR5_5 : Rep g (.slice (.int .i64)) [.slice a5_5 e6.2.2.2.2.2.length c5_5] e6.2.2.2.2.2 := ⟨a5_5, c5_5, rfl, hm5_5, hr5_5⟩
      replace hat5 : At g q5 o5 [.int .i64 e6.1, sv e6.2.1, .slice a5_2 e6.2.2.1.length c5_2, sv e6.2.2.2.1, .int .i64 e6.2.2.2.2.1, .slice a5_5 e6.2.2.2.2.2.length c5_5] := hat5
      refine Ok.op rfl (OpOk.step (v := .agg #[.int .i64 e6.1, sv e6.2.1, .slice a5_2 e6.2.2.1.length c5_2, sv e6.2.2.2.1, .int .i64 e6.2.2.2.2.1, .slice a5_5 e6.2.2.2.2.2.length c5_5]) (Yields.loadAggRo 0 6 #[.int .i64 e6.1, sv e6.2.1, .slice a5_2 e6.2.2.1.length c5_2, sv e6.2.2.2.1, .int .i64 e6.2.2.2.2.1, .slice a5_5 e6.2.2.2.2.2.length c5_5] hat5 (by kernel_rfl) Tryd.underlying46 rfl (by kernel_rfl) (by kernel_rfl) (by kernel_rfl)) rfl rfl (Ok.op rfl (OpOk.alloc (z := .agg #[.int .i64 0, sv ([] : Bs), .slice none 0 0, sv ([] : Bs), .int .i64 0, .slice none 0 0]) (cs := #[.int .i64 0, sv ([] : Bs), .slice none 0 0, sv ([] : Bs), .int .i64 0, .slice none 0 0]) (by kernel_rfl) (by kernel_rfl) rfl fun b7 => ?_)))
      refine Ok.bat 1 [1, 20, 21, 22] [(3, .int .i64 x22l22), (4, pv b7 0), (26, .agg #[.int .i64 e6.1, sv e6.2.1, .slice a5_2 e6.2.2.1.length c5_2, sv e6.2.2.2.1, .int .i64 e6.2.2.2.2.1, .slice a5_5 e6.2.2.2.2.2.length c5_5])] ?_
      refine Ok.op rfl (OpOk.sto (k := 6) (v := .agg #[.int .i64 e6.1, sv e6.2.1, .slice a5_2 e6.2.2.1.length c5_2, sv e6.2.2.2.1, .int .i64 e6.2.2.2.2.1, .slice a5_5 e6.2.2.2.2.2.length c5_5]) 0 #[.int .i64 e6.1, sv e6.2.1, .slice a5_2 e6.2.2.1.length c5_2, sv e6.2.2.2.1, .int .i64 e6.2.2.2.2.1, .slice a5_5 e6.2.2.2.2.2.length c5_5] rfl rfl rfl ?_)
      refine Ok.nil (Ok.thenN (Ok.seq (Ok.seq (Ok.region (Ok.bat 1 [1, 3, 4, 20, 21, 22] [(27, pv b7 0)] ?_)))))
      refine Ok.op rfl (OpOk.step (v := .int .i64 e6.1) (Yields.load 0 rfl rfl Tryd.underlying3 rfl (by kernel_rfl)) rfl rfl (Ok.bat 4 [1, 4, 20, 21, 22] [(32, .bool (!((e6.1 == 1) == (x22l22 == 0))))] ?_))
      refine Ok.nil (Ok.thenN (Ok.cond (b := !((e6.1 == 1) == (x22l22 == 0))) rfl (fun hc8 => ?_) (fun hc8 => ?_)))
      ·replace hF := hF.1 hc8
       refine Ok.seq (Ok.region (Ok.batch 1 [(2, .int .i64 3)] (by kernel_rfl) (Ok.nil (Ok.thenN (Ok.ret (Ok.thenR (Ok.blockR (Ok.thenR (Ok.thenR (Ok.blockR (Ok.thenR ?_)))))))))))
       exact Ok.resP (vs := [.int .i64 3]) [] [] (by decide) rfl (.inl rfl) rfl (.cons (.tmp rfl) .nil) (Gext.refl w0 g) ⟨3, rfl, rfl, hF⟩
      ·replace hF := hF.2 hc8
       refine Ok.skip (Ok.thenN (Ok.seq (Ok.region (Ok.op rfl (OpOk.step (v := .agg #[.int .i64 e6.1, sv e6.2.1, .slice a5_2 e6.2.2.1.length c5_2, sv e6.2.2.2.1, .int .i64 e6.2.2.2.2.1, .slice a5_5 e6.2.2.2.2.2.length c5_5]) (Yields.loadAgg 0 6 #[.int .i64 e6.1, sv e6.2.1, .slice a5_2 e6.2.2.1.length c5_2, sv e6.2.2.2.1, .int .i64 e6.2.2.2.2.1, .slice a5_5 e6.2.2.2.2.2.length c5_5] rfl rfl Tryd.underlying46 rfl (by kernel_rfl) (by kernel_rfl) (by kernel_rfl)) rfl rfl (Ok.op rfl (OpOk.callG (v := .int .i64 (doneS e6)) enr (fun W hW => done_c e6 (hR5_2.mono hW.sees) (hR5_5.mono hW.sees)) rfl ?_)))))))
       refine Ok.bat 1 [1, 20, 21, 22] [(5, .int .i64 (doneS e6))] ?_
       refine Ok.nil (Ok.thenN (Ok.seq (Ok.region (Ok.bat 2 [1, 5, 20, 21, 22] [(36, .bool ((doneS e6) != 0))] ?_))))
       refine Ok.nil (Ok.thenN (Ok.cond (b := ((doneS e6) != 0)) rfl (fun hc9 => ?_) (fun hc9 => ?_)))
       ·replace hF := hF.1 hc9
        refine Ok.seq (Ok.region (Ok.batch 2 [(2, .int .i64 (doneS e6))] (by kernel_rfl) (Ok.nil (Ok.thenN (Ok.ret (Ok.blockR (Ok.thenR (Ok.thenR (Ok.blockR (Ok.thenR ?_))))))))))
        exact Ok.resP (vs := [.int .i64 (doneS e6)]) [] [] (by decide) rfl (.inl rfl) rfl (.cons (.tmp rfl) .nil) (Gext.refl w0 g) ⟨(doneS e6), rfl, rfl, hF⟩
       ·replace hF := hF.2 hc9
        refine Ok.skip (Ok.blockN (Ok.thenN (Ok.region (Ok.bat 2 [1, 20, 21] [(22, .int .i64 (w6 (x22l22 + 1)))] ?_))))
        refine Ok.nil (Ok.thenN ?_)
        subst hg6
        exact fun a W hA hW => ⟨k22, Nat.lt_succ_self _, w6 (x22l22 + 1), hA.sub (by kernel_rfl), hW.sub (.cons _ (.cons_cons _ .slnil)), hF⟩
     ·replace hF := hF.2 hc4
      refine Ok.exit (Ok.thenE (Ok.thenE (Ok.blockHit (Ok.thenN (Ok.seq (Ok.seq (Ok.region (Ok.op rfl (OpOk.step (v := .agg #[.slice axd_0 xd.1.length cxd_0, .bool xd.2]) (Yields.loadAgg 0 2 #[.slice axd_0 xd.1.length cxd_0, .bool xd.2] rfl rfl Tryd.underlying24 rfl (by kernel_rfl) (by kernel_rfl) (by kernel_rfl)) rfl rfl ?_)))))))))
      obtain ⟨hp10, hF⟩ := hF
      refine Ok.op rfl (OpOk.callG (v := .int .i64 (dkidS xd)) enr (fun W hW => dkid_c xd (hRxd_0.mono hW.sees) hp10) rfl ?_)
      refine Ok.bat 1 [1] [(6, .int .i64 (dkidS xd))] ?_
      refine Ok.nil (Ok.thenN (Ok.seq (Ok.region (Ok.bat 2 [1, 6] [(42, .bool ((dkidS xd) != 0))] ?_))))
      refine Ok.nil (Ok.thenN (Ok.cond (b := ((dkidS xd) != 0)) rfl (fun hc11 => ?_) (fun hc11 => ?_)))
      ·replace hF := hF.1 hc11
       refine Ok.seq (Ok.region (Ok.batch 2 [(2, .int .i64 (dkidS xd))] (by kernel_rfl) (Ok.nil (Ok.thenN (Ok.ret (Ok.thenR ?_))))))
       exact Ok.resP (vs := [.int .i64 (dkidS xd)]) [] [] (by decide) rfl (.inl rfl) rfl (.cons (.tmp rfl) .nil) (Gext.refl w0 g) ⟨(dkidS xd), rfl, rfl, hF⟩
      ·replace hF := hF.2 hc11
       refine Ok.skip (Ok.thenN (Ok.seq (Ok.seq (Ok.region (Ok.bat 1 [1] [(44, pv b1 0)] ?_)))))
       refine Ok.op rfl (OpOk.step (v := .slice axd_0 xd.1.length cxd_0) (Yields.load 0 rfl rfl Tryd.underlying22 rfl (by kernel_rfl)) rfl rfl (Ok.bat 2 [1] [(46, .int .i64 (xd.1.length : Int)), (47, .int .i64 0)] ?_))
       refine Ok.nil (Ok.thenN (Ok.block ?_))
       obtain ⟨k, hF⟩ := hF
       refine Ok.loop (fun k a W => ∃ (x47l65 : Int), StA 63 [(1, pv b1 0), (46, .int .i64 (xd.1.length : Int)), (47, .int .i64 x47l65)] a ∧ StW w0 [.blk b1 (.cells #[.slice axd_0 xd.1.length cxd_0, .bool xd.2] 24)] g W ∧ dchkl65 xd K k x47l65) k ?_ ?_
       ·
        exact fun a W hA hW => ⟨0, hA.sub (by kernel_rfl), hW, hF⟩
       ·
        clear hF
        rintro k65 a W ⟨x47l65, hA, hW, hF⟩
        cases k65 with
        | zero => exact (hF : False).elim
        | succ k65 =>
         refine (?_ : Ok _ _ _ _ _ _) a W hA hW
         clear hA hW
         refine Ok.seq (Ok.region (Ok.bat 1 [1, 46, 47] [(48, .bool (decide (x47l65 < (xd.1.length : Int))))] ?_))
         refine Ok.nil (Ok.thenN (Ok.seq (Ok.cond (b := decide (x47l65 < (xd.1.length : Int))) rfl (fun hc12 => ?_) (fun hc12 => ?_))))
         ·replace hF := hF.1 hc12
          refine Ok.skip (Ok.thenN (Ok.seq (Ok.block (Ok.seq (Ok.region (Ok.bat 2 [1, 46, 47] [(7, .int .i64 x47l65)] ?_))))))
          refine Ok.nil (Ok.thenN (Ok.seq (Ok.region (Ok.op rfl (OpOk.step (v := .agg #[.slice axd_0 xd.1.length cxd_0, .bool xd.2]) (Yields.loadAgg 0 2 #[.slice axd_0 xd.1.length cxd_0, .bool xd.2] rfl rfl Tryd.underlying24 rfl (by kernel_rfl) (by kernel_rfl) (by kernel_rfl)) rfl rfl (Ok.bat 1 [1, 46, 47] [(50, .agg #[.slice axd_0 xd.1.length cxd_0, .bool xd.2]), (51, .int .i64 x47l65)] ?_))))))
          obtain ⟨hp13, hF⟩ := hF
          refine Ok.op rfl (OpOk.callG (v := .int .i64 (dupS xd x47l65)) enr (fun W hW => dup_c xd x47l65 (hRxd_0.mono hW.sees) hp13) rfl ?_)
          refine Ok.bat 1 [1, 46, 47] [(8, .int .i64 (dupS xd x47l65))] ?_
          refine Ok.nil (Ok.thenN (Ok.block (Ok.seq (Ok.region (Ok.bat 2 [1, 8, 46, 47] [(54, .int .i64 (dupS xd x47l65)), (55, pv b1 0)] ?_)))))
          refine Ok.op rfl (OpOk.step (v := .slice axd_0 xd.1.length cxd_0) (Yields.load 0 rfl rfl Tryd.underlying22 rfl (by kernel_rfl)) rfl rfl (Ok.bat 3 [1, 8, 46, 47] [(53, .bool (decide ((dupS xd x47l65) > (xd.1.length : Int))))] ?_))
          refine Ok.nil (Ok.thenN (Ok.cond (b := decide ((dupS xd x47l65) > (xd.1.length : Int))) rfl (fun hc14 => ?_) (fun hc14 => ?_)))
          ·replace hF := hF.1 hc14
           refine Ok.seq (Ok.region (Ok.batch 1 [(2, .int .i64 8)] (by kernel_rfl) (Ok.nil (Ok.thenN (Ok.ret (Ok.blockR (Ok.blockR (Ok.thenR (Ok.thenR (Ok.blockR (Ok.thenR ?_)))))))))))
           exact Ok.resP (vs := [.int .i64 8]) [] [] (by decide) rfl (.inl rfl) rfl (.cons (.tmp rfl) .nil) (Gext.refl w0 g) ⟨8, rfl, rfl, hF⟩
          ·replace hF := hF.2 hc14
           refine Ok.seq (Ok.region (Ok.bat 3 [1, 46, 47] [(59, .bool (decide ((dupS xd x47l65) > 40)))] ?_))
           refine Ok.nil (Ok.thenN (Ok.cond (b := decide ((dupS xd x47l65) > 40)) rfl (fun hc15 => ?_) (fun hc15 => ?_)))
           ·replace hF := hF.1 hc15
            refine Ok.seq (Ok.region (Ok.batch 1 [(2, .int .i64 2)] (by kernel_rfl) (Ok.nil (Ok.thenN (Ok.ret (Ok.blockR (Ok.blockR (Ok.thenR (Ok.thenR (Ok.blockR (Ok.thenR ?_)))))))))))
            exact Ok.resP (vs := [.int .i64 2]) [] [] (by decide) rfl (.inl rfl) rfl (.cons (.tmp rfl) .nil) (Gext.refl w0 g) ⟨2, rfl, rfl, hF⟩
           ·replace hF := hF.2 hc15
            refine Ok.skip (Ok.blockN (Ok.blockN (Ok.thenN (Ok.region (Ok.bat 2 [1, 46] [(47, .int .i64 (w6 (x47l65 + 1)))] ?_)))))
            refine Ok.nil (Ok.thenN ?_)
            exact fun a W hA hW => ⟨k65, Nat.lt_succ_self _, w6 (x47l65 + 1), hA.sub (by kernel_rfl), hW, hF⟩
         ·replace hF := hF.2 hc12
          refine Ok.exit (Ok.thenE (Ok.thenE (Ok.blockHit (Ok.thenN (Ok.seq (Ok.region (Ok.batch 1 [(2, .int .i64 0)] (by kernel_rfl) (Ok.nil (Ok.thenN (Ok.ret ?_))))))))))
          exact Ok.resP (vs := [.int .i64 0]) [] [] (by decide) rfl (.inl rfl) rfl (.cons (.tmp rfl) .nil) (Gext.refl w0 g) ⟨0, rfl, rfl, hF⟩
/-- a document that is right -/
structure DGood (d : DC) : Prop where
 pos : 1 ≤ d.1.length
 few : d.1.length ≤ 200
 kids : KGood d.1
 deep : ∀ n, n < d.1.length → dupS d n ≤ 40
 ends : ∀ n, n < d.1.length → dupS d n ≤ (d.1.length : Int)
 kind : ∀ n, n < d.1.length → (((d.1.getD n default).1 == 1) = decide (n = 0))
 vals : ∀ n, n < d.1.length → AGood (d.1.getD n default).2.2.1
def dchkP (d : DC) : Prop := ∀ x ∈ d.1, x.2.2.2.2.2.length ≤ maxLen
theorem dchk_ex (d : DC) (hp : dchkP d) : ∃ e, dchkF d (fun r => r = e) ∧ (e = 0 → DGood d) := by
 have no : ∀ {e : Int}, e ≠ 0 → (e = 0 → DGood d) := fun h h0 => absurd h0 h
 refine ex_if (fun _ => ex_k (no (by decide))) fun h1 => ex_if (fun _ => ex_k (no (by decide))) fun h2 => ?_
 have h1 := of_decide_eq_false h1
 have h2 : ¬ d.1.length = 0 := by
  intro h0
  rw [h0] at h2
  exact absurd h2 (by decide)
 have hkp : dkidP d := ⟨by omega, by omega, hp⟩
 have last : dkidS d = 0 → (∀ n, n < d.1.length → (((d.1.getD n default).1 == 1) = decide (n = 0))) → (∀ n, n < d.1.length → AGood (d.1.getD n default).2.2.1) → ∀ (k i : Nat), i + k = d.1.length → (∀ j, j < i → dupS d j ≤ 40 ∧ dupS d j ≤ (d.1.length : Int)) → ∃ e, dchkl65 d (fun r => r = e) (k + 1) (i : Int) ∧ (e = 0 → DGood d) := by
  intro hz hkind hval k
  have hkg := (dkid_sp d hkp).2 hz
  induction k with
  | zero =>
   intro i h hj
   exact ex_if (fun h => by have := of_decide_eq_true h; omega) (fun _ => ex_k fun _ => ⟨by omega, by omega, hkg, fun n hn => (hj n (by omega)).1, fun n hn => (hj n (by omega)).2, hkind, hval⟩)
  | succ k ih =>
   intro i h hj
   refine ex_if (fun _ => ex_need ⟨by omega, hkg, by omega, by omega⟩ (ex_if (fun _ => ex_k (no (by decide))) fun hm => ex_if (fun _ => ex_k (no (by decide))) fun h40 => ?_)) (fun h => by have := of_decide_eq_false h; omega)
   rw [w64 (by omega)]
   refine ih (i + 1) (by omega) fun j hj2 => ?_
   by_cases hji : j < i
   ·exact hj j hji
   ·have : j = i := by omega
    subst this
    have h1 := of_decide_eq_false h40
    have h2 := of_decide_eq_false hm
    exact ⟨by omega, by omega⟩
 have loop : ∀ (k i : Nat), i + k = d.1.length → (∀ n, n < i → (((d.1.getD n default).1 == 1) = decide (n = 0))) → (∀ n, n < i → AGood (d.1.getD n default).2.2.1) → ∃ e, dchkl22 d (fun r => r = e) (k + 1) (i : Int) ∧ (e = 0 → DGood d) := by
  intro k
  induction k with
  | zero =>
   intro i h hj hv
   refine ex_if (fun h => by have := of_decide_eq_true h; omega) (fun _ => ex_need hkp (ex_if (fun hne => ex_k (no (by simpa using hne))) fun hz => ex_loop _ (last (by simpa using hz) (fun n hn => hj n (by omega)) (fun n hn => hv n (by omega)) d.1.length 0 (by omega) fun j hj => absurd hj (by omega))))
  | succ k ih =>
   intro i h hj hv
   refine ex_if (fun _ => ex_need (by omega) (ex_need (by rw [Int.toNat_natCast]; omega) (ex_if (fun _ => ex_k (no (by decide))) fun hk => ex_if (fun hne => ex_k (no (by simpa using hne))) fun ho => ?_))) (fun h => by have := of_decide_eq_false h; omega)
   rw [w64 (by omega)]
   have ho' : doneS (d.1.getD i default) = 0 := by rw [Int.toNat_natCast] at ho; simpa using ho
   refine ih (i + 1) (by omega) (fun n hn => ?_) fun n hn => ?_
   rotate_left
   ·by_cases hni : n < i
    ·exact hv n hni
    ·have : n = i := by omega
     subst this
     exact (done_sp _).2 ho'
   by_cases hni : n < i
   ·exact hj n hni
   ·have : n = i := by omega
    subst this
    rw [Int.toNat_natCast] at hk
    have h2 : (((d.1.getD n default).1 == 1) == ((n : Int) == 0)) = true := by simpa using hk
    rw [beq_iff_eq.1 h2]
    rw [Bool.eq_iff_iff, beq_iff_eq, decide_eq_true_eq]; omega
 exact ex_loop _ (loop d.1.length 0 (by omega) (fun n hn => absurd hn (by omega)) fun n hn => absurd hn (by omega))
noncomputable def dchkS (d : DC) : Int := pickE fun e => dchkF d (fun r => r = e) ∧ (e = 0 → DGood d)
theorem dchk_sp (d : DC) (hp : dchkP d) : dchkF d (fun r => r = dchkS d) ∧ (dchkS d = 0 → DGood d) := pickE_ok (A := fun e => dchkF d (fun r => r = e) ∧ (e = 0 → DGood d)) (dchk_ex d hp)
theorem dchk_F (d : DC) (hp : dchkP d) : dchkF d (fun r => r = dchkS d) := (dchk_sp d hp).1
theorem dchk_c {g : Ghost} {axd_0 : Option Addr} {cxd_0 : Nat} (xd : (List (Int × Bs × (List (Bs × Bs)) × Bs × Int × List (Int))) × Bool) (hRxd_0 : Rep g (.slice (.pair (.int .i64) (.pair (.str) (.pair (.slice (.pair (.str) (.str))) (.pair (.str) (.pair (.int .i64) (.slice (.int .i64)))))))) [.slice axd_0 xd.1.length cxd_0] xd.1)  (hp : dchkP xd) : CallsG Tryd.prog 11 #[.agg #[.slice axd_0 xd.1.length cxd_0, .bool xd.2]] g (.int .i64 (dchkS xd)) :=
 (dchk_ok xd hRxd_0 _ (dchk_F xd hp)).gives (by rintro g' H' v _ ⟨r0, rfl, rfl, hK⟩; subst hK; rfl)
end Go.Proofs.YtbifbljdmndjbaaDoor.Do
