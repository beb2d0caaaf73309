/- Addresses: the reference's Resolved; UrlResolves. -/
import Derived.Test.YtdaagfgedkdmjaaGreatDoorUtd
namespace Go.Proofs.YtdaagfgedkdmjaaGreatDoor.Ub
open Go Go.Eng Go.RowKit Go.Shelf Go.Proofs Bld Sp Ti Uc Ua Ui
set_option maxHeartbeats 4000000
set_option maxRecDepth 100000
set_option linter.unusedSimpArgs false
set_option linter.unusedVariables false
noncomputable section
def rresV0 (xbase : Bs) (xref : Bs) : Bool :=
 (((tailS (parS xbase).1 xref).1 == ([] : Bs)) && (!((tailS (parS xbase).1 xref).2.2.2.2.2.2.2.1)))
def rresV1 (xbase : Bs) (xref : Bs) : Bs :=
 (if (rresV0 xbase xref) = true then (parS xbase).1.2.2.2.2.1 else (tailS (parS xbase).1 xref).2.2.2.2.2.2.1)
def rresV2 (xbase : Bs) (xref : Bs) : Bool :=
 (if (rresV0 xbase xref) = true then (parS xbase).1.2.2.2.2.2.1 else (tailS (parS xbase).1 xref).2.2.2.2.2.2.2.1)
def rresV3 (xbase : Bs) (xref : Bs) : Bool :=
 ((!((tailS (parS xbase).1 xref).1 == ([] : Bs))) && (!(hpfM (tailS (parS xbase).1 xref).1 ([47] : Bs))))
def rresV4 (xbase : Bs) (xref : Bs) : List Bs :=
 (if (rresV3 xbase xref) = true then ((([] : List Bs) ++ (((parS xbase).1.2.2.2.1).take (Int.toNat (w6 ((((parS xbase).1.2.2.2.1).length : Int) - 1))))) ++ (rsegS (tpfM (tailS (parS xbase).1 xref).1 ([47] : Bs))).1) else (rsegS (tpfM (tailS (parS xbase).1 xref).1 ([47] : Bs))).1)
def rresV5 (xbase : Bs) (xref : Bs) : Int :=
 (if (rschS xref).2 = true then (parS xref).2 else (if (hpfM xref ([47, 47] : Bs)) = true then (parS (((parS xbase).1.1 ++ ([58] : Bs)) ++ xref)).2 else (parS xbase).2))
def rresV6 (xbase : Bs) (xref : Bs) : Bs :=
 (if (rschS xref).2 = true then (parS xref).1.1 else (if (hpfM xref ([47, 47] : Bs)) = true then (parS (((parS xbase).1.1 ++ ([58] : Bs)) ++ xref)).1.1 else (tailS (parS xbase).1 xref).2.2.1))
def rresV7 (xbase : Bs) (xref : Bs) : Bs :=
 (if (rschS xref).2 = true then (parS xref).1.2.1 else (if (hpfM xref ([47, 47] : Bs)) = true then (parS (((parS xbase).1.1 ++ ([58] : Bs)) ++ xref)).1.2.1 else (tailS (parS xbase).1 xref).2.2.2.1))
def rresV8 (xbase : Bs) (xref : Bs) : Int :=
 (if (rschS xref).2 = true then (parS xref).1.2.2.1 else (if (hpfM xref ([47, 47] : Bs)) = true then (parS (((parS xbase).1.1 ++ ([58] : Bs)) ++ xref)).1.2.2.1 else (tailS (parS xbase).1 xref).2.2.2.2.1))
def rresV9 (xbase : Bs) (xref : Bs) : List Bs :=
 (if (rschS xref).2 = true then (parS xref).1.2.2.2.1 else (if (hpfM xref ([47, 47] : Bs)) = true then (parS (((parS xbase).1.1 ++ ([58] : Bs)) ++ xref)).1.2.2.2.1 else (if (!((tailS (parS xbase).1 xref).1 == ([] : Bs))) = true then (tidyS (rresV4 xbase xref)) else (tailS (parS xbase).1 xref).2.2.2.2.2.1)))
def rresV10 (xbase : Bs) (xref : Bs) : Bs :=
 (if (rschS xref).2 = true then (parS xref).1.2.2.2.2.1 else (if (hpfM xref ([47, 47] : Bs)) = true then (parS (((parS xbase).1.1 ++ ([58] : Bs)) ++ xref)).1.2.2.2.2.1 else (rresV1 xbase xref)))
def rresV11 (xbase : Bs) (xref : Bs) : Bool :=
 (if (rschS xref).2 = true then (parS xref).1.2.2.2.2.2.1 else (if (hpfM xref ([47, 47] : Bs)) = true then (parS (((parS xbase).1.1 ++ ([58] : Bs)) ++ xref)).1.2.2.2.2.2.1 else (rresV2 xbase xref)))
def rresV12 (xbase : Bs) (xref : Bs) : Bs :=
 (if (rschS xref).2 = true then (parS xref).1.2.2.2.2.2.2.1 else (if (hpfM xref ([47, 47] : Bs)) = true then (parS (((parS xbase).1.1 ++ ([58] : Bs)) ++ xref)).1.2.2.2.2.2.2.1 else (tailS (parS xbase).1 xref).2.2.2.2.2.2.2.2.1))
def rresV13 (xbase : Bs) (xref : Bs) : Bool :=
 (if (rschS xref).2 = true then (parS xref).1.2.2.2.2.2.2.2 else (if (hpfM xref ([47, 47] : Bs)) = true then (parS (((parS xbase).1.1 ++ ([58] : Bs)) ++ xref)).1.2.2.2.2.2.2.2 else (tailS (parS xbase).1 xref).2.2.2.2.2.2.2.2.2))
def rresV14 (xbase : Bs) (xref : Bs) : Bs :=
 (txtS ((rresV6 xbase xref), (rresV7 xbase xref), (rresV8 xbase xref), (rresV9 xbase xref), (rresV10 xbase xref), (rresV11 xbase xref), (rresV12 xbase xref), (rresV13 xbase xref)))
def rresV15 (xbase : Bs) (xref : Bs) : (JU) × Int :=
 (parS (((parS xbase).1.1 ++ ([58] : Bs)) ++ xref))
def rresV16 (xbase : Bs) (xref : Bs) : Bs × Bool × (JU) :=
 (tailS (parS xbase).1 xref)
def rresV17 (xbase : Bs) (xref : Bs) : Bool :=
 (((rresV16 xbase xref).1 == ([] : Bs)) && (!((rresV16 xbase xref).2.2.2.2.2.2.2.1)))
def rresV18 (xbase : Bs) (xref : Bs) : Bs :=
 (if (rresV17 xbase xref) = true then (parS xbase).1.2.2.2.2.1 else (rresV16 xbase xref).2.2.2.2.2.2.1)
def rresV19 (xbase : Bs) (xref : Bs) : Bool :=
 (if (rresV17 xbase xref) = true then (parS xbase).1.2.2.2.2.2.1 else (rresV16 xbase xref).2.2.2.2.2.2.2.1)
def rresV20 (xbase : Bs) (xref : Bs) : Bool :=
 ((!((rresV16 xbase xref).1 == ([] : Bs))) && (!(hpfM (rresV16 xbase xref).1 ([47] : Bs))))
def rresV21 (xbase : Bs) (xref : Bs) : List Bs :=
 (if (rresV20 xbase xref) = true then ((([] : List Bs) ++ (((parS xbase).1.2.2.2.1).take (Int.toNat (w6 ((((parS xbase).1.2.2.2.1).length : Int) - 1))))) ++ (rsegS (tpfM (rresV16 xbase xref).1 ([47] : Bs))).1) else (rsegS (tpfM (rresV16 xbase xref).1 ([47] : Bs))).1)
def rresj25 (xbase : Bs) (xref : Bs) (K : Bs → Int → Prop) : Prop :=
 ((((rresV5 xbase xref) != 0)) = true → K ([] : Bs) (rresV5 xbase xref)) ∧ ((((rresV5 xbase xref) != 0)) = false → txtP ((rresV6 xbase xref), (rresV7 xbase xref), (rresV8 xbase xref), (rresV9 xbase xref), (rresV10 xbase xref), (rresV11 xbase xref), (rresV12 xbase xref), (rresV13 xbase xref)) ∧ ((decide (((rresV14 xbase xref).length : Int) > 500)) = true → K ([] : Bs) 2) ∧ ((decide (((rresV14 xbase xref).length : Int) > 500)) = false → K (rresV14 xbase xref) 0))
def rresj53 (xbase : Bs) (xref : Bs) (K : Bs → Int → Prop) : Prop :=
 ((!((rresV16 xbase xref).1 == ([] : Bs))) = true → tidyP (rresV21 xbase xref) ∧ rresj25 xbase xref K) ∧ ((!((rresV16 xbase xref).1 == ([] : Bs))) = false → rresj25 xbase xref K)
def rresj54 (xbase : Bs) (xref : Bs) (K : Bs → Int → Prop) : Prop :=
 (((rresV20 xbase xref)) = true → (0 : Int) ≤ 0 ∧ (0 : Int) ≤ (w6 ((((parS xbase).1.2.2.2.1).length : Int) - 1)) ∧ (w6 ((((parS xbase).1.2.2.2.1).length : Int) - 1)) ≤ (((parS xbase).1.2.2.2.1).length : Int) ∧ (([] : List Bs) ++ (((parS xbase).1.2.2.2.1).take (Int.toNat (w6 ((((parS xbase).1.2.2.2.1).length : Int) - 1))))).length ≤ 8796093022208 ∧ ((([] : List Bs) ++ (((parS xbase).1.2.2.2.1).take (Int.toNat (w6 ((((parS xbase).1.2.2.2.1).length : Int) - 1))))) ++ (rsegS (tpfM (rresV16 xbase xref).1 ([47] : Bs))).1).length ≤ 8796093022208 ∧ rresj53 xbase xref K) ∧ (((rresV20 xbase xref)) = false → rresj53 xbase xref K)
def rresj37 (xbase : Bs) (xref : Bs) (K : Bs → Int → Prop) : Prop :=
 smP (tpfM (rresV16 xbase xref).1 ([47] : Bs)) ∧ ((((!((rresV16 xbase xref).2.1)) || (!((rsegS (tpfM (rresV16 xbase xref).1 ([47] : Bs))).2)))) = true → K ([] : Bs) 3) ∧ ((((!((rresV16 xbase xref).2.1)) || (!((rsegS (tpfM (rresV16 xbase xref).1 ([47] : Bs))).2)))) = false → ((!((rresV16 xbase xref).1 == ([] : Bs))) = true → rresj54 xbase xref K) ∧ ((!((rresV16 xbase xref).1 == ([] : Bs))) = false → rresj54 xbase xref K))
def rresj38 (xbase : Bs) (xref : Bs) (K : Bs → Int → Prop) : Prop :=
 (((rresV17 xbase xref)) = true → rresj37 xbase xref K) ∧ (((rresV17 xbase xref)) = false → rresj37 xbase xref K)
def rresF (xbase : Bs) (xref : Bs) (K : Bs → Int → Prop) : Prop :=
 ((((parS xbase).2 != 0)) = true → K ([] : Bs) (parS xbase).2) ∧ ((((parS xbase).2 != 0)) = false → ((decide ((xref.length : Int) > 500)) = true → K ([] : Bs) 2) ∧ ((decide ((xref.length : Int) > 500)) = false → smP xref ∧ ((rschS xref).2 = true → rresj25 xbase xref K) ∧ ((rschS xref).2 = false → (((hpfM xref ([47, 47] : Bs))) = true → ((parS xbase).1.1).length + ([58] : Bs).length ≤ maxLen ∧ ((parS xbase).1.1 ++ ([58] : Bs)).length + xref.length ≤ maxLen ∧ rresj25 xbase xref K) ∧ (((hpfM xref ([47, 47] : Bs))) = false → tailP (parS xbase).1 xref ∧ ((((rresV16 xbase xref).1 == ([] : Bs))) = true → rresj38 xbase xref K) ∧ ((((rresV16 xbase xref).1 == ([] : Bs))) = false → rresj38 xbase xref K)))))
theorem rres_ok {g : Ghost} (xbase : Bs) (xref : Bs) (hG0 : SomeInt g 0) (hG1 : GlobL g 1 (.int .u64) DPow) (K : Bs → Int → Prop)
  (hF : rresF xbase xref K) : CallsH Tryz.prog 9 #[sv xbase, sv xref] g [] (fun g' H' v => ∃ (r0 : Bs), ∃ (r1 : Int), v = .tuple #[sv r0, .int .i64 r1] ∧ H' = [] ∧ K r0 r1) := by
 refine CallsH.enter 114 [(0, sv xbase), (1, sv xref)] Tryz.func9 rfl (by kernel_rfl) (by kernel_rfl) (by kernel_rfl) fun w0 => ?_
 refine Ok.seq (Ok.region (Ok.batch 2 [(0, sv xbase), (1, sv xref)] (by kernel_rfl) (Ok.nil (Ok.thenN (Ok.seq (Ok.region (Ok.bat 1 [1] [(17, sv xbase)] ?_)))))))
 refine Ok.op rfl (OpOk.callH [] _ enr rfl (radr_c xbase hG0) rfl fun g1 _ _ hx1 hV1 => ?_)
 obtain ⟨a1_0, c1_0, rfl, hR1_0, rfl⟩ := hV1
 replace hG0 := hG0.mono hx1.1
 replace hG1 := hG1.mono hx1.1
 refine Ok.bat 3 [1] [(19, .agg ⟨vJ (parS xbase).1 a1_0 c1_0⟩), (20, .int .i64 (parS xbase).2)] ?_
 have hL2 : RepL g1 (.str) [] [] := rfl
 refine Ok.ownNil 9 1 (Ok.op rfl (OpOk.alloc (z := .agg #[sv ([] : Bs), sv ([] : Bs), .int .i64 0, .slice none ([] : List Bs).length 0, sv ([] : Bs), .bool false, sv ([] : Bs), .bool false]) (cs := #[sv ([] : Bs), sv ([] : Bs), .int .i64 0, .slice none ([] : List Bs).length 0, sv ([] : Bs), .bool false, sv ([] : Bs), .bool false]) (by kernel_rfl) (by kernel_rfl) rfl fun b3 => ?_))
 refine Ok.op rfl (OpOk.sto (k := 8) (v := .agg ⟨vJ (parS xbase).1 a1_0 c1_0⟩) 0 ⟨vJ (parS xbase).1 a1_0 c1_0⟩ rfl rfl rfl ?_)
 refine Ok.bat 1 [1] [(6, pv b3 0), (7, .int .i64 (parS xbase).2)] ?_
 refine Ok.nil (Ok.thenN (Ok.seq (Ok.seq (Ok.region (Ok.bat 2 [1, 6, 7] [(22, .bool ((parS xbase).2 != 0))] ?_)))))
 refine Ok.nil (Ok.thenN (Ok.cond (b := ((parS xbase).2 != 0)) rfl (fun hc4 => ?_) (fun hc4 => ?_)))
 ·replace hF := hF.1 hc4
  refine Ok.seq (Ok.region (Ok.batch 3 [(4, sv ([] : Bs)), (5, .int .i64 (parS xbase).2)] (by kernel_rfl) (Ok.nil (Ok.thenN (Ok.ret (Ok.thenR ?_))))))
  exact Ok.resP (vs := [sv ([] : Bs), .int .i64 (parS xbase).2]) [] [] (by decide) rfl (.inl rfl) rfl (.cons (.tmp rfl) (.cons (.tmp rfl) .nil)) hx1 ⟨([] : Bs), (parS xbase).2, rfl, rfl, hF⟩
 ·replace hF := hF.2 hc4
  refine Ok.skip (Ok.thenN (Ok.seq (Ok.seq (Ok.region (Ok.bat 3 [1, 6, 7] [(26, .bool (decide ((xref.length : Int) > 500)))] ?_)))))
  refine Ok.nil (Ok.thenN (Ok.cond (b := decide ((xref.length : Int) > 500)) rfl (fun hc5 => ?_) (fun hc5 => ?_)))
  ·replace hF := hF.1 hc5
   refine Ok.seq (Ok.region (Ok.batch 2 [(4, sv ([] : Bs)), (5, .int .i64 2)] (by kernel_rfl) (Ok.nil (Ok.thenN (Ok.ret (Ok.thenR ?_))))))
   exact Ok.resP (vs := [sv ([] : Bs), .int .i64 2]) [] [] (by decide) rfl (.inl rfl) rfl (.cons (.tmp rfl) (.cons (.tmp rfl) .nil)) hx1 ⟨([] : Bs), 2, rfl, rfl, hF⟩
  ·replace hF := hF.2 hc5
   refine Ok.skip (Ok.thenN (Ok.seq (Ok.region (Ok.op rfl (OpOk.step (v := .agg ⟨vJ (parS xbase).1 a1_0 c1_0⟩) (Yields.loadAgg 0 8 ⟨vJ (parS xbase).1 a1_0 c1_0⟩ rfl rfl Tryz.underlying53 rfl (by kernel_rfl) (by kernel_rfl) (by kernel_rfl)) rfl rfl ?_)))))
   have hL6 : RepL g1 (.str) [] [] := rfl
   refine Ok.ownNil 9 1 (Ok.op rfl (OpOk.alloc (z := .agg #[sv ([] : Bs), sv ([] : Bs), .int .i64 0, .slice none ([] : List Bs).length 0, sv ([] : Bs), .bool false, sv ([] : Bs), .bool false]) (cs := #[sv ([] : Bs), sv ([] : Bs), .int .i64 0, .slice none ([] : List Bs).length 0, sv ([] : Bs), .bool false, sv ([] : Bs), .bool false]) (by kernel_rfl) (by kernel_rfl) rfl fun b7 => ?_))
   refine Ok.op rfl (OpOk.sto (k := 8) (v := .agg ⟨vJ (parS xbase).1 a1_0 c1_0⟩) 0 ⟨vJ (parS xbase).1 a1_0 c1_0⟩ rfl rfl rfl ?_)
   refine Ok.nil (Ok.thenN (Ok.seq (Ok.region (Ok.bat 1 [1, 6, 7] [(8, pv b7 0), (29, sv xref)] ?_))))
   obtain ⟨hp8, hF⟩ := hF
   refine Ok.op rfl (OpOk.callG (v := .tuple #[sv ((rschS xref).1), .bool (rschS xref).2]) enr (fun W hW => rsch_c xref (hG0.mono hW.sees) hp8) rfl ?_)
   refine Ok.bat 5 [1, 6, 7, 8] [(10, .bool (rschS xref).2)] ?_
   refine Ok.nil (Ok.thenN (Ok.cut (fun a W => ∃ gj25 : Ghost, Gext w0 g1 gj25 ∧ ∃ (ayb7_3j25 : Option Addr) (cyb7_3j25 : Nat), Rep gj25 (.slice (.str)) [.slice ayb7_3j25 (rresV9 xbase xref).length cyb7_3j25] (rresV9 xbase xref) ∧ StA 114 [(7, .int .i64 (rresV5 xbase xref)), (8, pv b7 0)] a ∧ StW w0 [.blk b7 (.cells #[sv (rresV6 xbase xref), sv (rresV7 xbase xref), .int .i64 (rresV8 xbase xref), .slice ayb7_3j25 (rresV9 xbase xref).length cyb7_3j25, sv (rresV10 xbase xref), .bool (rresV11 xbase xref), sv (rresV12 xbase xref), .bool (rresV13 xbase xref)] 53)] gj25 W ∧ rresj25 xbase xref K) ?_ ?_))
   ·
    refine Ok.block (Ok.seq (Ok.region (Ok.bat 2 [1, 6, 7, 8] [(86, .bool (rschS xref).2)] ?_)))
    refine Ok.nil (Ok.thenN (Ok.cond (b := (rschS xref).2) rfl (fun hc12 => ?_) (fun hc12 => ?_)))
    ·replace hF := hF.1 hc12
     refine Ok.region (Ok.bat 1 [8] [(89, sv xref)] ?_)
     refine Ok.op rfl (OpOk.callH [] _ enr rfl (radr_c xref hG0) rfl fun g13 _ _ hx13 hV13 => ?_)
     obtain ⟨a13_0, c13_0, rfl, hR13_0, rfl⟩ := hV13
     replace hR1_0 := hR1_0.mono hx13.1
     replace hL6 := hL6.mono hx13.1
     replace hL2 := hL2.mono hx13.1
     replace hG0 := hG0.mono hx13.1
     replace hG1 := hG1.mono hx13.1
     refine Ok.bat 3 [8] [(91, .agg ⟨vJ (parS xref).1 a13_0 c13_0⟩), (92, .int .i64 (parS xref).2)] ?_
     refine Ok.op rfl (OpOk.sto (k := 8) (v := .agg ⟨vJ (parS xref).1 a13_0 c13_0⟩) 0 ⟨vJ (parS xref).1 a13_0 c13_0⟩ rfl rfl rfl ?_)
     refine Ok.bat 1 [8] [(7, .int .i64 (parS xref).2)] ?_
     refine Ok.nil (Ok.blockN (Ok.thenN (Ok.reval 7 rfl (show (.int .i64 (parS xref).2 : Value) = .int .i64 (rresV5 xbase xref) from congrArg (Value.int .i64) ((if_t hc12).symm)) (Ok.heapEq (H' := [.blk b7 (.cells #[sv (rresV6 xbase xref), sv (rresV7 xbase xref), .int .i64 (rresV8 xbase xref), .slice a13_0 (rresV9 xbase xref).length c13_0, sv (rresV10 xbase xref), .bool (rresV11 xbase xref), sv (rresV12 xbase xref), .bool (rresV13 xbase xref)] 53), .own (.slice none ([] : List Bs).length 0) 9 1 ([] : List Bs).length ([]), .blk b3 (.cells ⟨vJ (parS xbase).1 a1_0 c1_0⟩ 53), .own (.slice none ([] : List Bs).length 0) 9 1 ([] : List Bs).length ([])]) (econs (congrArg (fun l : List Value => Ent.blk b7 (.cells ⟨l⟩ 53)) (lcons (congrArg ((fun s : Bs => Value.string ⟨⟨s⟩⟩)) ((if_t hc12).symm)) (lcons (congrArg ((fun s : Bs => Value.string ⟨⟨s⟩⟩)) ((if_t hc12).symm)) (lcons (congrArg (Value.int .i64) ((if_t hc12).symm)) (lcons (congrArg (fun l : List Bs => Value.slice a13_0 l.length c13_0) ((if_t hc12).symm)) (lcons (congrArg ((fun s : Bs => Value.string ⟨⟨s⟩⟩)) ((if_t hc12).symm)) (lcons (congrArg (Value.bool) ((if_t hc12).symm)) (lcons (congrArg ((fun s : Bs => Value.string ⟨⟨s⟩⟩)) ((if_t hc12).symm)) (lcons (congrArg (Value.bool) ((if_t hc12).symm)) rfl))))))))) (econs (rfl) (econs (rfl) (econs (rfl) rfl)))) ?_))))
     exact fun a W hA hW => ⟨g13, hx13, a13_0, c13_0, (Eq.mp (congrArg (fun l : List Bs => Rep g13 (.slice (.str)) [.slice a13_0 l.length c13_0] l) ((if_t hc12).symm)) hR13_0), hA.sub (by kernel_rfl), hW.sub (.cons_cons _ (.cons _ (.cons _ (.cons _ .slnil)))), hF⟩
    ·replace hF := hF.2 hc12
     refine Ok.seq (Ok.region (Ok.bat 1 [1, 6, 7, 8] [(94, sv xref)] ?_))
     refine Ok.op rfl (OpOk.callG (v := .bool (hpfM xref ([47, 47] : Bs))) enr (fun W hW => hpf_c xref ([47, 47] : Bs)) rfl ?_)
     refine Ok.bat 1 [1, 6, 7, 8] [(93, .bool (hpfM xref ([47, 47] : Bs)))] ?_
     refine Ok.nil (Ok.thenN (Ok.cond (b := (hpfM xref ([47, 47] : Bs))) rfl (fun hc14 => ?_) (fun hc14 => ?_)))
     ·replace hF := hF.1 hc14
      refine Ok.region (Ok.bat 1 [1, 8] [(97, pv b3 0)] ?_)
      refine Ok.op rfl (OpOk.step (v := sv ((parS xbase).1.1)) (Yields.load 2 rfl rfl Tryz.underlying9 rfl (by kernel_rfl)) rfl rfl ?_)
      obtain ⟨hv, hF⟩ := hF
      refine Ok.op rfl (OpOk.step (v := sv ((parS xbase).1.1 ++ ([58] : Bs))) (Yields.strAdd rfl rfl hv) rfl rfl (Ok.bat 1 [8] [(99, sv ((parS xbase).1.1 ++ ([58] : Bs))), (100, sv xref)] ?_))
      obtain ⟨hv, hF⟩ := hF
      refine Ok.op rfl (OpOk.step (v := sv (((parS xbase).1.1 ++ ([58] : Bs)) ++ xref)) (Yields.strAdd rfl rfl hv) rfl rfl (Ok.op rfl (OpOk.callH [] _ enr rfl (radr_c (((parS xbase).1.1 ++ ([58] : Bs)) ++ xref) hG0) rfl fun g15 _ _ hx15 hV15 => ?_)))
      obtain ⟨a15_0, c15_0, rfl, hR15_0, rfl⟩ := hV15
      replace hR1_0 := hR1_0.mono hx15.1
      replace hL6 := hL6.mono hx15.1
      replace hL2 := hL2.mono hx15.1
      replace hG0 := hG0.mono hx15.1
      replace hG1 := hG1.mono hx15.1
      refine Ok.bat 3 [8] [(103, .agg ⟨vJ (rresV15 xbase xref).1 a15_0 c15_0⟩), (104, .int .i64 (rresV15 xbase xref).2)] ?_
      refine Ok.op rfl (OpOk.sto (k := 8) (v := .agg ⟨vJ (rresV15 xbase xref).1 a15_0 c15_0⟩) 0 ⟨vJ (rresV15 xbase xref).1 a15_0 c15_0⟩ rfl rfl rfl ?_)
      refine Ok.bat 1 [8] [(7, .int .i64 (rresV15 xbase xref).2)] ?_
      refine Ok.nil (Ok.blockN (Ok.thenN (Ok.reval 7 rfl (show (.int .i64 (rresV15 xbase xref).2 : Value) = .int .i64 (rresV5 xbase xref) from congrArg (Value.int .i64) ((Eq.trans ((if_t hc14).symm) ((if_f hc12).symm)))) (Ok.heapEq (H' := [.blk b7 (.cells #[sv (rresV6 xbase xref), sv (rresV7 xbase xref), .int .i64 (rresV8 xbase xref), .slice a15_0 (rresV9 xbase xref).length c15_0, sv (rresV10 xbase xref), .bool (rresV11 xbase xref), sv (rresV12 xbase xref), .bool (rresV13 xbase xref)] 53), .own (.slice none ([] : List Bs).length 0) 9 1 ([] : List Bs).length ([]), .blk b3 (.cells ⟨vJ (parS xbase).1 a1_0 c1_0⟩ 53), .own (.slice none ([] : List Bs).length 0) 9 1 ([] : List Bs).length ([])]) (econs (congrArg (fun l : List Value => Ent.blk b7 (.cells ⟨l⟩ 53)) (lcons (congrArg ((fun s : Bs => Value.string ⟨⟨s⟩⟩)) ((Eq.trans ((if_t hc14).symm) ((if_f hc12).symm)))) (lcons (congrArg ((fun s : Bs => Value.string ⟨⟨s⟩⟩)) ((Eq.trans ((if_t hc14).symm) ((if_f hc12).symm)))) (lcons (congrArg (Value.int .i64) ((Eq.trans ((if_t hc14).symm) ((if_f hc12).symm)))) (lcons (congrArg (fun l : List Bs => Value.slice a15_0 l.length c15_0) ((Eq.trans ((if_t hc14).symm) ((if_f hc12).symm)))) (lcons (congrArg ((fun s : Bs => Value.string ⟨⟨s⟩⟩)) ((Eq.trans ((if_t hc14).symm) ((if_f hc12).symm)))) (lcons (congrArg (Value.bool) ((Eq.trans ((if_t hc14).symm) ((if_f hc12).symm)))) (lcons (congrArg ((fun s : Bs => Value.string ⟨⟨s⟩⟩)) ((Eq.trans ((if_t hc14).symm) ((if_f hc12).symm)))) (lcons (congrArg (Value.bool) ((Eq.trans ((if_t hc14).symm) ((if_f hc12).symm)))) rfl))))))))) (econs (rfl) (econs (rfl) (econs (rfl) rfl)))) ?_))))
      exact fun a W hA hW => ⟨g15, hx15, a15_0, c15_0, (Eq.mp (congrArg (fun l : List Bs => Rep g15 (.slice (.str)) [.slice a15_0 l.length c15_0] l) ((Eq.trans ((if_t hc14).symm) ((if_f hc12).symm)))) hR15_0), hA.sub (by kernel_rfl), hW.sub (.cons_cons _ (.cons _ (.cons _ (.cons _ .slnil)))), hF⟩
     ·replace hF := hF.2 hc14
      refine Ok.seq (Ok.region (Ok.bat 1 [6, 7, 8] [(34, sv xref)] ?_))
      obtain ⟨hp16, hF⟩ := hF
      refine Ok.op rfl (OpOk.callH [_] _ enr rfl (rtai_c (parS xbase).1 xref hR1_0 hG0 hp16) rfl fun g17 _ _ hx17 hV17 => ?_)
      obtain ⟨a17_0, c17_0, rfl, hR17_0, rfl⟩ := hV17
      replace hL6 := hL6.mono hx17.1
      replace hR1_0 := hR1_0.mono hx17.1
      replace hL2 := hL2.mono hx17.1
      replace hG0 := hG0.mono hx17.1
      replace hG1 := hG1.mono hx17.1
      refine Ok.bat 5 [6, 7, 8] [(11, sv ((rresV16 xbase xref).1)), (12, .bool (rresV16 xbase xref).2.1)] ?_
      refine Ok.nil (Ok.thenN (Ok.cut (fun a W => ∃ gj37 : Ghost, Gext w0 g17 gj37 ∧ StA 114 [(6, pv b3 0), (7, .int .i64 (parS xbase).2), (8, pv b7 0), (11, sv ((rresV16 xbase xref).1)), (12, .bool (rresV16 xbase xref).2.1)] a ∧ StW w0 [.blk b7 (.cells #[sv ((rresV16 xbase xref).2.2.1), sv ((rresV16 xbase xref).2.2.2.1), .int .i64 (rresV16 xbase xref).2.2.2.2.1, .slice a17_0 ((rresV16 xbase xref).2.2.2.2.2.1).length c17_0, sv (rresV18 xbase xref), .bool (rresV19 xbase xref), sv ((rresV16 xbase xref).2.2.2.2.2.2.2.2.1), .bool (rresV16 xbase xref).2.2.2.2.2.2.2.2.2] 53), .blk b3 (.cells ⟨vJ (parS xbase).1 a1_0 c1_0⟩ 53)] gj37 W ∧ rresj37 xbase xref K) ?_ ?_))
      ·
       refine Ok.cut (fun a W => ∃ gj38 : Ghost, Gext w0 g17 gj38 ∧ StA 114 [(6, pv b3 0), (7, .int .i64 (parS xbase).2), (8, pv b7 0), (11, sv ((rresV16 xbase xref).1)), (12, .bool (rresV16 xbase xref).2.1), (44, .bool (rresV17 xbase xref))] a ∧ StW w0 [.blk b7 (.cells ⟨vJ (rresV16 xbase xref).2.2 a17_0 c17_0⟩ 53), .blk b3 (.cells ⟨vJ (parS xbase).1 a1_0 c1_0⟩ 53)] gj38 W ∧ rresj38 xbase xref K) ?_ ?_
       ·
        refine Ok.region (Ok.bat 1 [6, 7, 8, 11, 12] [(38, sv ((rresV16 xbase xref).1))] ?_)
        refine Ok.op rfl (OpOk.step (v := .bool ((rresV16 xbase xref).1 == ([] : Bs))) (Yields.strCmp (f := .eql) (a := (rresV16 xbase xref).1) (b := ([] : Bs)) (by kernel_rfl) (by kernel_rfl) rfl) rfl rfl (Ok.bat 1 [6, 7, 8, 11, 12] [(40, .bool ((rresV16 xbase xref).1 == ([] : Bs)))] ?_))
        refine Ok.boolAt 40 (((rresV16 xbase xref).1 == ([] : Bs))) rfl (fun hc34 => ?_) (fun hc34 => ?_)
        ·replace hF := hF.1 hc34
         refine Ok.bat 1 [6, 7, 8, 11, 12] [(40, .bool true), (41, pv b7 5)] ?_
         refine Ok.opYes (j := 2) (d := 40) (want := true) (b := true) rfl (by kernel_rfl) (by kernel_rfl) rfl (OpOk.step (v := .bool (rresV16 xbase xref).2.2.2.2.2.2.2.1) (Yields.load 0 rfl rfl Tryz.underlying4 rfl (by kernel_rfl)) rfl rfl (Ok.bat 2 [6, 7, 8, 11, 12] [(44, .bool (!((rresV16 xbase xref).2.2.2.2.2.2.2.1)))] ?_))
         refine Ok.nil (Ok.thenN (Ok.reval 44 rfl (show (.bool (!((rresV16 xbase xref).2.2.2.2.2.2.2.1)) : Value) = .bool (rresV17 xbase xref) from congrArg (Value.bool) (mand_t hc34)) ?_))
         exact fun a W hA hW => ⟨g17, (Gext.refl w0 g17), hA.sub (by kernel_rfl), hW.sub (.cons_cons _ (.cons _ (.cons_cons _ (.cons _ .slnil)))), hF⟩
        ·replace hF := hF.2 hc34
         refine Ok.bat 4 [6, 7, 8, 11, 12] [(44, .bool false)] ?_
         refine Ok.nil (Ok.thenN (Ok.reval 44 rfl (show (.bool false : Value) = .bool (rresV17 xbase xref) from congrArg (Value.bool) (mand_f hc34)) ?_))
         exact fun a W hA hW => ⟨g17, (Gext.refl w0 g17), hA.sub (by kernel_rfl), hW.sub (.cons_cons _ (.cons _ (.cons_cons _ (.cons _ .slnil)))), hF⟩
       ·
        clear hF
        rintro a W ⟨gj38, hxj38, hA, hW, hF⟩
        refine (?_ : Ok _ _ _ _ _ _) a W hA hW
        clear hA hW
        replace hR17_0 := hR17_0.mono hxj38.1
        replace hR1_0 := hR1_0.mono hxj38.1
        replace hG0 := hG0.mono hxj38.1
        replace hG1 := hG1.mono hxj38.1
        refine Ok.cond (b := (rresV17 xbase xref)) rfl (fun hc33 => ?_) (fun hc33 => ?_)
        ·replace hF := hF.1 hc33
         refine Ok.mix [] [] [.blk b3 (.cells ⟨vJ (parS xbase).1 a1_0 c1_0⟩ 53)] [(0, true), (1, true), (2, true), (3, true), (4, true), (5, false), (6, true), (7, false)] (by kernel_rfl) (by kernel_rfl) (.cons _ (.cons_cons _ .slnil)) (OkM.bat 1 [6, 7, 8, 11, 12] [(45, pv b3 4)] ?_)
         refine OkM.head rfl rfl (show _ = [.blk b3 (.cells ⟨vJ (parS xbase).1 a1_0 c1_0⟩ 53)] from rfl) (OpQ.step (v := sv ((parS xbase).1.2.2.2.2.1)) (Yields.load 0 rfl rfl Tryz.underlying9 rfl (by kernel_rfl)) rfl rfl (OkM.bat 1 [6, 7, 8, 11, 12] [(46, sv ((parS xbase).1.2.2.2.2.1)), (47, pv b3 5)] ?_))
         refine OkM.head rfl rfl (show _ = [.blk b3 (.cells ⟨vJ (parS xbase).1 a1_0 c1_0⟩ 53)] from rfl) (OpQ.step (v := .bool (parS xbase).1.2.2.2.2.2.1) (Yields.load 0 rfl rfl Tryz.underlying4 rfl (by kernel_rfl)) rfl rfl (OkM.bat 1 [6, 7, 8, 11, 12, 46] [(48, .bool (parS xbase).1.2.2.2.2.2.1), (49, pv b7 4)] ?_))
         refine OkM.tail rfl rfl (OpOk.sto (k := 1) (v := sv ((parS xbase).1.2.2.2.2.1)) 0 #[sv ((rresV16 xbase xref).2.2.1), sv ((rresV16 xbase xref).2.2.2.1), .int .i64 (rresV16 xbase xref).2.2.2.2.1, .slice a17_0 ((rresV16 xbase xref).2.2.2.2.2.1).length c17_0, sv ((parS xbase).1.2.2.2.2.1), .bool (rresV16 xbase xref).2.2.2.2.2.2.2.1, sv ((rresV16 xbase xref).2.2.2.2.2.2.2.2.1), .bool (rresV16 xbase xref).2.2.2.2.2.2.2.2.2] rfl rfl rfl ?_)
         refine OkM.leaf (i := 5) (show _ = [.blk b3 (.cells ⟨vJ (parS xbase).1 a1_0 c1_0⟩ 53)] from rfl) (Gle.refl _) (.cons _ (.cons_cons _ .slnil)) (OkM.bat 1 [6, 7, 8, 11, 12, 48] [(50, pv b7 5)] ?_)
         refine OkM.tail rfl rfl (OpOk.sto (k := 1) (v := .bool (parS xbase).1.2.2.2.2.2.1) 0 #[sv ((rresV16 xbase xref).2.2.1), sv ((rresV16 xbase xref).2.2.2.1), .int .i64 (rresV16 xbase xref).2.2.2.2.1, .slice a17_0 ((rresV16 xbase xref).2.2.2.2.2.1).length c17_0, sv ((parS xbase).1.2.2.2.2.1), .bool (parS xbase).1.2.2.2.2.2.1, sv ((rresV16 xbase xref).2.2.2.2.2.2.2.2.1), .bool (rresV16 xbase xref).2.2.2.2.2.2.2.2.2] rfl rfl rfl ?_)
         refine OkM.leaf (i := 7) (show _ = [.blk b3 (.cells ⟨vJ (parS xbase).1 a1_0 c1_0⟩ 53)] from rfl) (Gle.refl _) (.cons _ (.cons_cons _ .slnil)) (OkM.nil (Ok.thenN (Ok.heapEq (H' := [.blk b7 (.cells #[sv ((rresV16 xbase xref).2.2.1), sv ((rresV16 xbase xref).2.2.2.1), .int .i64 (rresV16 xbase xref).2.2.2.2.1, .slice a17_0 ((rresV16 xbase xref).2.2.2.2.2.1).length c17_0, sv (rresV18 xbase xref), .bool (rresV19 xbase xref), sv ((rresV16 xbase xref).2.2.2.2.2.2.2.2.1), .bool (rresV16 xbase xref).2.2.2.2.2.2.2.2.2] 53), .blk b3 (.cells ⟨vJ (parS xbase).1 a1_0 c1_0⟩ 53)]) (econs (congrArg (fun l : List Value => Ent.blk b7 (.cells ⟨l⟩ 53)) (lcons (rfl) (lcons (rfl) (lcons (rfl) (lcons (rfl) (lcons (congrArg ((fun s : Bs => Value.string ⟨⟨s⟩⟩)) ((if_t hc33).symm)) (lcons (congrArg (Value.bool) ((if_t hc33).symm)) (lcons (rfl) (lcons (rfl) rfl))))))))) (econs (rfl) rfl)) ?_)))
         exact fun a W hA hW => ⟨gj38, hxj38, hA.sub (by kernel_rfl), hW, hF⟩
        ·replace hF := hF.2 hc33
         refine Ok.skip (Ok.thenN (Ok.heapEq (H' := [.blk b7 (.cells #[sv ((rresV16 xbase xref).2.2.1), sv ((rresV16 xbase xref).2.2.2.1), .int .i64 (rresV16 xbase xref).2.2.2.2.1, .slice a17_0 ((rresV16 xbase xref).2.2.2.2.2.1).length c17_0, sv (rresV18 xbase xref), .bool (rresV19 xbase xref), sv ((rresV16 xbase xref).2.2.2.2.2.2.2.2.1), .bool (rresV16 xbase xref).2.2.2.2.2.2.2.2.2] 53), .blk b3 (.cells ⟨vJ (parS xbase).1 a1_0 c1_0⟩ 53)]) (econs (congrArg (fun l : List Value => Ent.blk b7 (.cells ⟨l⟩ 53)) (lcons (rfl) (lcons (rfl) (lcons (rfl) (lcons (rfl) (lcons (congrArg ((fun s : Bs => Value.string ⟨⟨s⟩⟩)) ((if_f hc33).symm)) (lcons (congrArg (Value.bool) ((if_f hc33).symm)) (lcons (rfl) (lcons (rfl) rfl))))))))) (econs (rfl) rfl)) ?_))
         exact fun a W hA hW => ⟨gj38, hxj38, hA.sub (by kernel_rfl), hW, hF⟩
      ·
       clear hF
       rintro a W ⟨gj37, hxj37, hA, hW, hF⟩
       refine (?_ : Ok _ _ _ _ _ _) a W hA hW
       clear hA hW
       replace hR17_0 := hR17_0.mono hxj37.1
       replace hR1_0 := hR1_0.mono hxj37.1
       replace hG0 := hG0.mono hxj37.1
       replace hG1 := hG1.mono hxj37.1
       refine Ok.seq (Ok.region (Ok.bat 1 [6, 7, 8, 11, 12] [(52, sv ((rresV16 xbase xref).1))] ?_))
       refine Ok.op rfl (OpOk.callG (v := sv (tpfM (rresV16 xbase xref).1 ([47] : Bs))) enr (fun W hW => tpf_c (rresV16 xbase xref).1 ([47] : Bs)) rfl ?_)
       obtain ⟨hp18, hF⟩ := hF
       refine Ok.op rfl (OpOk.callH [] _ enr rfl (rseg_c (tpfM (rresV16 xbase xref).1 ([47] : Bs)) hG0 hp18) rfl fun g19 _ _ hx19 hV19 => ?_)
       obtain ⟨a19_0, c19_0, rfl, hR19_0, rfl⟩ := hV19
       replace hR17_0 := hR17_0.mono hx19.1
       replace hR1_0 := hR1_0.mono hx19.1
       replace hG0 := hG0.mono hx19.1
       replace hG1 := hG1.mono hx19.1
       refine Ok.bat 5 [6, 7, 8, 11, 12] [(13, .slice a19_0 ((rsegS (tpfM (rresV16 xbase xref).1 ([47] : Bs))).1).length c19_0), (14, .bool (rsegS (tpfM (rresV16 xbase xref).1 ([47] : Bs))).2)] ?_
       refine Ok.nil (Ok.thenN (Ok.seq (Ok.seq (Ok.region (Ok.bat 3 [6, 7, 8, 11, 13, 14] [(59, .bool (!((rresV16 xbase xref).2.1)))] ?_)))))
       refine Ok.midway 3 [(6, pv b3 0), (7, .int .i64 (parS xbase).2), (8, pv b7 0), (11, sv ((rresV16 xbase xref).1)), (13, .slice a19_0 ((rsegS (tpfM (rresV16 xbase xref).1 ([47] : Bs))).1).length c19_0), (62, .bool ((!((rresV16 xbase xref).2.1)) || (!((rsegS (tpfM (rresV16 xbase xref).1 ([47] : Bs))).2))))] (fun hR20 => ?_) ?_
       ·refine Ok.boolAt 59 (!((rresV16 xbase xref).2.1)) rfl (fun hc21 => ?_) (fun hc21 => ?_)
        ·skip
         refine Ok.bat 3 [6, 7, 8, 11, 13] [(62, .bool true)] ?_
         refine Ok.reval 62 rfl (show (.bool true : Value) = .bool ((!((rresV16 xbase xref).2.1)) || (!((rsegS (tpfM (rresV16 xbase xref).1 ([47] : Bs))).2))) from congrArg Value.bool (mor_t hc21)) (Ok.bat 0 [6, 7, 8, 11, 13] [(62, .bool ((!((rresV16 xbase xref).2.1)) || (!((rsegS (tpfM (rresV16 xbase xref).1 ([47] : Bs))).2))))] ?_)
         exact hR20
        ·skip
         refine Ok.bat 3 [6, 7, 8, 11, 13] [(62, .bool (!((rsegS (tpfM (rresV16 xbase xref).1 ([47] : Bs))).2)))] ?_
         refine Ok.reval 62 rfl (show (.bool (!((rsegS (tpfM (rresV16 xbase xref).1 ([47] : Bs))).2)) : Value) = .bool ((!((rresV16 xbase xref).2.1)) || (!((rsegS (tpfM (rresV16 xbase xref).1 ([47] : Bs))).2))) from congrArg Value.bool (mor_f hc21)) (Ok.bat 0 [6, 7, 8, 11, 13] [(62, .bool ((!((rresV16 xbase xref).2.1)) || (!((rsegS (tpfM (rresV16 xbase xref).1 ([47] : Bs))).2))))] ?_)
         exact hR20
       refine Ok.nil (Ok.thenN (Ok.cond (b := ((!((rresV16 xbase xref).2.1)) || (!((rsegS (tpfM (rresV16 xbase xref).1 ([47] : Bs))).2)))) rfl (fun hc22 => ?_) (fun hc22 => ?_)))
       ·replace hF := hF.1 hc22
        refine Ok.seq (Ok.region (Ok.batch 2 [(4, sv ([] : Bs)), (5, .int .i64 3)] (by kernel_rfl) (Ok.nil (Ok.thenN (Ok.ret (Ok.thenR (Ok.blockR (Ok.thenR ?_))))))))
        exact Ok.resP (vs := [sv ([] : Bs), .int .i64 3]) [] [] (by decide) rfl (.inl rfl) rfl (.cons (.tmp rfl) (.cons (.tmp rfl) .nil)) (((hx1.trans hx17).trans hxj37).trans hx19) ⟨([] : Bs), 3, rfl, rfl, hF⟩
       ·replace hF := hF.2 hc22
        refine Ok.skip (Ok.thenN (Ok.cut (fun a W => ∃ gj53 : Ghost, Gext w0 g19 gj53 ∧ ∃ (ax13j53 : Option Addr) (cx13j53 : Nat), Rep gj53 (.slice (.str)) [.slice ax13j53 (rresV21 xbase xref).length cx13j53] (rresV21 xbase xref) ∧ StA 114 [(7, .int .i64 (parS xbase).2), (8, pv b7 0), (11, sv ((rresV16 xbase xref).1)), (13, .slice ax13j53 (rresV21 xbase xref).length cx13j53)] a ∧ StW w0 [.blk b7 (.cells #[sv ((rresV16 xbase xref).2.2.1), sv ((rresV16 xbase xref).2.2.2.1), .int .i64 (rresV16 xbase xref).2.2.2.2.1, .slice a17_0 ((rresV16 xbase xref).2.2.2.2.2.1).length c17_0, sv (rresV18 xbase xref), .bool (rresV19 xbase xref), sv ((rresV16 xbase xref).2.2.2.2.2.2.2.2.1), .bool (rresV16 xbase xref).2.2.2.2.2.2.2.2.2] 53)] gj53 W ∧ rresj53 xbase xref K) ?_ ?_))
        ·
         refine Ok.cut (fun a W => ∃ gj54 : Ghost, Gext w0 g19 gj54 ∧ StA 114 [(6, pv b3 0), (7, .int .i64 (parS xbase).2), (8, pv b7 0), (11, sv ((rresV16 xbase xref).1)), (13, .slice a19_0 ((rsegS (tpfM (rresV16 xbase xref).1 ([47] : Bs))).1).length c19_0), (69, .bool (rresV20 xbase xref))] a ∧ StW w0 [.blk b7 (.cells #[sv ((rresV16 xbase xref).2.2.1), sv ((rresV16 xbase xref).2.2.2.1), .int .i64 (rresV16 xbase xref).2.2.2.2.1, .slice a17_0 ((rresV16 xbase xref).2.2.2.2.2.1).length c17_0, sv (rresV18 xbase xref), .bool (rresV19 xbase xref), sv ((rresV16 xbase xref).2.2.2.2.2.2.2.2.1), .bool (rresV16 xbase xref).2.2.2.2.2.2.2.2.2] 53), .blk b3 (.cells ⟨vJ (parS xbase).1 a1_0 c1_0⟩ 53)] gj54 W ∧ rresj54 xbase xref K) ?_ ?_
         ·
          refine Ok.region (Ok.bat 1 [6, 7, 8, 11, 13] [(63, sv ((rresV16 xbase xref).1))] ?_)
          refine Ok.op rfl (OpOk.step (v := .bool (!((rresV16 xbase xref).1 == ([] : Bs)))) (Yields.strCmp (f := .neq) (a := (rresV16 xbase xref).1) (b := ([] : Bs)) (by kernel_rfl) (by kernel_rfl) rfl) rfl rfl (Ok.bat 1 [6, 7, 8, 11, 13] [(65, .bool (!((rresV16 xbase xref).1 == ([] : Bs))))] ?_))
          refine Ok.boolAt 65 (!((rresV16 xbase xref).1 == ([] : Bs))) rfl (fun hc32 => ?_) (fun hc32 => ?_)
          ·replace hF := hF.1 hc32
           refine Ok.bat 1 [6, 7, 8, 11, 13] [(65, .bool true), (66, sv ((rresV16 xbase xref).1))] ?_
           refine Ok.opYes (j := 2) (d := 65) (want := true) (b := true) rfl (by kernel_rfl) (by kernel_rfl) rfl (OpOk.callG (v := .bool (hpfM (rresV16 xbase xref).1 ([47] : Bs))) enr (fun W hW => hpf_c (rresV16 xbase xref).1 ([47] : Bs)) rfl ?_)
           refine Ok.bat 2 [6, 7, 8, 11, 13] [(69, .bool (!(hpfM (rresV16 xbase xref).1 ([47] : Bs))))] ?_
           refine Ok.nil (Ok.thenN (Ok.reval 69 rfl (show (.bool (!(hpfM (rresV16 xbase xref).1 ([47] : Bs))) : Value) = .bool (rresV20 xbase xref) from congrArg (Value.bool) (mand_t hc32)) ?_))
           exact fun a W hA hW => ⟨g19, (Gext.refl w0 g19), hA.sub (by kernel_rfl), hW, hF⟩
          ·replace hF := hF.2 hc32
           refine Ok.bat 4 [6, 7, 8, 11, 13] [(69, .bool false)] ?_
           refine Ok.nil (Ok.thenN (Ok.reval 69 rfl (show (.bool false : Value) = .bool (rresV20 xbase xref) from congrArg (Value.bool) (mand_f hc32)) ?_))
           exact fun a W hA hW => ⟨g19, (Gext.refl w0 g19), hA.sub (by kernel_rfl), hW, hF⟩
         ·
          clear hF
          rintro a W ⟨gj54, hxj54, hA, hW, hF⟩
          refine (?_ : Ok _ _ _ _ _ _) a W hA hW
          clear hA hW
          replace hR19_0 := hR19_0.mono hxj54.1
          replace hR17_0 := hR17_0.mono hxj54.1
          replace hR1_0 := hR1_0.mono hxj54.1
          replace hG0 := hG0.mono hxj54.1
          replace hG1 := hG1.mono hxj54.1
          refine Ok.cond (b := (rresV20 xbase xref)) rfl (fun hc26 => ?_) (fun hc26 => ?_)
          ·replace hF := hF.1 hc26
           refine Ok.region ?_
           have hL27 : RepL gj54 (.str) ([] : List Value) ([] : List Bs) := rfl
           refine Ok.op rfl (OpOk.lit (E := 9) (.str) ([] : List Bs) ([] : List Value) (by kernel_rfl) (by kernel_rfl) rfl (by kernel_rfl) hL27 rfl fun b27 => ?_)
           refine Ok.bat 1 [6, 7, 8, 11, 13] [(70, .slice (some ⟨b27, 0, none⟩) ([] : List Bs).length 0), (71, pv b3 3)] ?_
           refine Ok.op rfl (OpOk.step (v := .slice a1_0 ((parS xbase).1.2.2.2.1).length c1_0) (Yields.load 2 rfl rfl Tryz.underlying51 rfl (by kernel_rfl)) rfl rfl (Ok.bat 1 [7, 8, 11, 13, 70] [(72, .slice a1_0 ((parS xbase).1.2.2.2.1).length c1_0), (73, pv b3 3)] ?_))
           refine Ok.op rfl (OpOk.step (v := .slice a1_0 ((parS xbase).1.2.2.2.1).length c1_0) (Yields.load 2 rfl rfl Tryz.underlying51 rfl (by kernel_rfl)) rfl rfl (Ok.bat 2 [7, 8, 11, 13, 70, 72] [(76, .int .i64 (w6 ((((parS xbase).1.2.2.2.1).length : Int) - 1)))] ?_))
           obtain ⟨h028, h128, h228, hF⟩ := hF
           refine Ok.op rfl (OpOk.sliceRo (e := .str) (l := 0) (h := (w6 ((((parS xbase).1.2.2.2.1).length : Int) - 1))) rfl Tryz.underlying51 (by kernel_rfl) (.inr ⟨rfl, rfl⟩) (.inl ⟨_, _, rfl, rfl⟩) hR1_0 h028 h128 h228 rfl (((parS xbase).1.2.2.2.1).take (Int.toNat (w6 ((((parS xbase).1.2.2.2.1).length : Int) - 1)))) (by simp) fun a28 c28 hR28 => ?_)
           obtain ⟨hb29, hF⟩ := hF
           refine Ok.op rfl (OpOk.appendRo (e := .str) 16 8796093022208 0 rfl rfl rfl hL27 hR28 Tryz.underlying51 (by kernel_rfl) (by kernel_rfl) (by kernel_rfl) hb29 rfl fun a29 c29 xs29 hL29 => ?_)
           refine Ok.bat 1 [7, 8, 11] [(78, .slice a29 (([] : List Bs) ++ (((parS xbase).1.2.2.2.1).take (Int.toNat (w6 ((((parS xbase).1.2.2.2.1).length : Int) - 1))))).length c29), (79, .slice a19_0 ((rsegS (tpfM (rresV16 xbase xref).1 ([47] : Bs))).1).length c19_0)] ?_
           obtain ⟨hb30, hF⟩ := hF
           refine Ok.op rfl (OpOk.appendRo (e := .str) 16 8796093022208 0 rfl rfl rfl hL29 hR19_0 Tryz.underlying51 (by kernel_rfl) (by kernel_rfl) (by kernel_rfl) hb30 rfl fun a30 c30 xs30 hL30 => ?_)
           refine Ok.bat 1 [7, 8, 11] [(13, .slice a30 ((([] : List Bs) ++ (((parS xbase).1.2.2.2.1).take (Int.toNat (w6 ((((parS xbase).1.2.2.2.1).length : Int) - 1))))) ++ (rsegS (tpfM (rresV16 xbase xref).1 ([47] : Bs))).1).length c30)] ?_
           refine Ok.nil (Ok.frz 0 rfl hL30 fun g31 hx31 hRf31 => ?_)
           replace hR17_0 := hR17_0.mono hx31.1
           replace hR1_0 := hR1_0.mono hx31.1
           replace hG0 := hG0.mono hx31.1
           replace hG1 := hG1.mono hx31.1
           refine Ok.thenN (Ok.reval 13 rfl (show (.slice a30 ((([] : List Bs) ++ (((parS xbase).1.2.2.2.1).take (Int.toNat (w6 ((((parS xbase).1.2.2.2.1).length : Int) - 1))))) ++ (rsegS (tpfM (rresV16 xbase xref).1 ([47] : Bs))).1).length c30 : Value) = .slice a30 (rresV21 xbase xref).length c30 from congrArg (fun l : List Bs => Value.slice a30 l.length c30) ((if_t hc26).symm)) ?_)
           exact fun a W hA hW => ⟨g31, (hxj54.trans hx31), a30, c30, (Eq.mp (congrArg (fun l : List Bs => Rep g31 (.slice (.str)) [.slice a30 l.length c30] l) ((if_t hc26).symm)) hRf31), hA.sub (by kernel_rfl), hW.sub (.cons_cons _ (.cons _ .slnil)), hF⟩
          ·replace hF := hF.2 hc26
           refine Ok.skip (Ok.thenN (Ok.reval 13 rfl (show (.slice a19_0 ((rsegS (tpfM (rresV16 xbase xref).1 ([47] : Bs))).1).length c19_0 : Value) = .slice a19_0 (rresV21 xbase xref).length c19_0 from congrArg (fun l : List Bs => Value.slice a19_0 l.length c19_0) ((if_f hc26).symm)) ?_))
           exact fun a W hA hW => ⟨gj54, hxj54, a19_0, c19_0, (Eq.mp (congrArg (fun l : List Bs => Rep gj54 (.slice (.str)) [.slice a19_0 l.length c19_0] l) ((if_f hc26).symm)) hR19_0), hA.sub (by kernel_rfl), hW.sub (.cons_cons _ (.cons _ .slnil)), hF⟩
        ·
         clear hF
         rintro a W ⟨gj53, hxj53, ax13j53, cx13j53, hRx13j53, hA, hW, hF⟩
         refine (?_ : Ok _ _ _ _ _ _) a W hA hW
         clear hA hW
         replace hR17_0 := hR17_0.mono hxj53.1
         replace hG0 := hG0.mono hxj53.1
         replace hG1 := hG1.mono hxj53.1
         refine Ok.seq (Ok.region (Ok.bat 1 [7, 8, 13] [(81, sv ((rresV16 xbase xref).1))] ?_))
         refine Ok.op rfl (OpOk.step (v := .bool (!((rresV16 xbase xref).1 == ([] : Bs)))) (Yields.strCmp (f := .neq) (a := (rresV16 xbase xref).1) (b := ([] : Bs)) (by kernel_rfl) (by kernel_rfl) rfl) rfl rfl (Ok.nil (Ok.thenN (Ok.cond (b := !((rresV16 xbase xref).1 == ([] : Bs))) rfl (fun hc23 => ?_) (fun hc23 => ?_)))))
         ·replace hF := hF.1 hc23
          refine Ok.region (Ok.bat 1 [7, 8] [(83, .slice ax13j53 (rresV21 xbase xref).length cx13j53)] ?_)
          obtain ⟨hp24, hF⟩ := hF
          refine Ok.op rfl (OpOk.callH [] _ enr rfl (rtid_c (rresV21 xbase xref) hRx13j53 hp24) rfl fun g25 _ _ hx25 hV25 => ?_)
          obtain ⟨a25_0, c25_0, rfl, hR25_0, rfl⟩ := hV25
          replace hRx13j53 := hRx13j53.mono hx25.1
          replace hR17_0 := hR17_0.mono hx25.1
          replace hG0 := hG0.mono hx25.1
          replace hG1 := hG1.mono hx25.1
          refine Ok.bat 1 [7, 8] [(84, .slice a25_0 (tidyS (rresV21 xbase xref)).length c25_0), (85, pv b7 3)] ?_
          refine Ok.op rfl (OpOk.sto (k := 1) (v := .slice a25_0 (tidyS (rresV21 xbase xref)).length c25_0) 0 #[sv ((rresV16 xbase xref).2.2.1), sv ((rresV16 xbase xref).2.2.2.1), .int .i64 (rresV16 xbase xref).2.2.2.2.1, .slice a25_0 (tidyS (rresV21 xbase xref)).length c25_0, sv (rresV18 xbase xref), .bool (rresV19 xbase xref), sv ((rresV16 xbase xref).2.2.2.2.2.2.2.2.1), .bool (rresV16 xbase xref).2.2.2.2.2.2.2.2.2] rfl rfl rfl ?_)
          refine Ok.nil (Ok.blockN (Ok.thenN (Ok.reval 7 rfl (show (.int .i64 (parS xbase).2 : Value) = .int .i64 (rresV5 xbase xref) from congrArg (Value.int .i64) ((Eq.trans ((if_f hc14).symm) ((if_f hc12).symm)))) (Ok.heapEq (H' := [.blk b7 (.cells #[sv (rresV6 xbase xref), sv (rresV7 xbase xref), .int .i64 (rresV8 xbase xref), .slice a25_0 (rresV9 xbase xref).length c25_0, sv (rresV10 xbase xref), .bool (rresV11 xbase xref), sv (rresV12 xbase xref), .bool (rresV13 xbase xref)] 53)]) (econs (congrArg (fun l : List Value => Ent.blk b7 (.cells ⟨l⟩ 53)) (lcons (congrArg ((fun s : Bs => Value.string ⟨⟨s⟩⟩)) ((Eq.trans ((if_f hc14).symm) ((if_f hc12).symm)))) (lcons (congrArg ((fun s : Bs => Value.string ⟨⟨s⟩⟩)) ((Eq.trans ((if_f hc14).symm) ((if_f hc12).symm)))) (lcons (congrArg (Value.int .i64) ((Eq.trans ((if_f hc14).symm) ((if_f hc12).symm)))) (lcons (congrArg (fun l : List Bs => Value.slice a25_0 l.length c25_0) ((Eq.trans ((Eq.trans ((if_t hc23).symm) ((if_f hc14).symm))) ((if_f hc12).symm)))) (lcons (congrArg ((fun s : Bs => Value.string ⟨⟨s⟩⟩)) ((Eq.trans ((if_f hc14).symm) ((if_f hc12).symm)))) (lcons (congrArg (Value.bool) ((Eq.trans ((if_f hc14).symm) ((if_f hc12).symm)))) (lcons (congrArg ((fun s : Bs => Value.string ⟨⟨s⟩⟩)) ((Eq.trans ((if_f hc14).symm) ((if_f hc12).symm)))) (lcons (congrArg (Value.bool) ((Eq.trans ((if_f hc14).symm) ((if_f hc12).symm)))) rfl))))))))) rfl) ?_))))
          exact fun a W hA hW => ⟨g25, ((((hx17.trans hxj37).trans hx19).trans hxj53).trans hx25), a25_0, c25_0, (Eq.mp (congrArg (fun l : List Bs => Rep g25 (.slice (.str)) [.slice a25_0 l.length c25_0] l) ((Eq.trans ((Eq.trans ((if_t hc23).symm) ((if_f hc14).symm))) ((if_f hc12).symm)))) hR25_0), hA.sub (by kernel_rfl), hW, hF⟩
         ·replace hF := hF.2 hc23
          refine Ok.skip (Ok.blockN (Ok.thenN (Ok.reval 7 rfl (show (.int .i64 (parS xbase).2 : Value) = .int .i64 (rresV5 xbase xref) from congrArg (Value.int .i64) ((Eq.trans ((if_f hc14).symm) ((if_f hc12).symm)))) (Ok.heapEq (H' := [.blk b7 (.cells #[sv (rresV6 xbase xref), sv (rresV7 xbase xref), .int .i64 (rresV8 xbase xref), .slice a17_0 (rresV9 xbase xref).length c17_0, sv (rresV10 xbase xref), .bool (rresV11 xbase xref), sv (rresV12 xbase xref), .bool (rresV13 xbase xref)] 53)]) (econs (congrArg (fun l : List Value => Ent.blk b7 (.cells ⟨l⟩ 53)) (lcons (congrArg ((fun s : Bs => Value.string ⟨⟨s⟩⟩)) ((Eq.trans ((if_f hc14).symm) ((if_f hc12).symm)))) (lcons (congrArg ((fun s : Bs => Value.string ⟨⟨s⟩⟩)) ((Eq.trans ((if_f hc14).symm) ((if_f hc12).symm)))) (lcons (congrArg (Value.int .i64) ((Eq.trans ((if_f hc14).symm) ((if_f hc12).symm)))) (lcons (congrArg (fun l : List Bs => Value.slice a17_0 l.length c17_0) ((Eq.trans ((Eq.trans ((if_f hc23).symm) ((if_f hc14).symm))) ((if_f hc12).symm)))) (lcons (congrArg ((fun s : Bs => Value.string ⟨⟨s⟩⟩)) ((Eq.trans ((if_f hc14).symm) ((if_f hc12).symm)))) (lcons (congrArg (Value.bool) ((Eq.trans ((if_f hc14).symm) ((if_f hc12).symm)))) (lcons (congrArg ((fun s : Bs => Value.string ⟨⟨s⟩⟩)) ((Eq.trans ((if_f hc14).symm) ((if_f hc12).symm)))) (lcons (congrArg (Value.bool) ((Eq.trans ((if_f hc14).symm) ((if_f hc12).symm)))) rfl))))))))) rfl) ?_))))
          exact fun a W hA hW => ⟨gj53, (((hx17.trans hxj37).trans hx19).trans hxj53), a17_0, c17_0, (Eq.mp (congrArg (fun l : List Bs => Rep gj53 (.slice (.str)) [.slice a17_0 l.length c17_0] l) ((Eq.trans ((Eq.trans ((if_f hc23).symm) ((if_f hc14).symm))) ((if_f hc12).symm)))) hR17_0), hA.sub (by kernel_rfl), hW, hF⟩
   ·
    clear hF
    rintro a W ⟨gj25, hxj25, ayb7_3j25, cyb7_3j25, hRyb7_3j25, hA, hW, hF⟩
    refine (?_ : Ok _ _ _ _ _ _) a W hA hW
    clear hA hW
    replace hG0 := hG0.mono hxj25.1
    replace hG1 := hG1.mono hxj25.1
    refine Ok.seq (Ok.seq (Ok.region (Ok.bat 2 [7, 8] [(106, .bool ((rresV5 xbase xref) != 0))] ?_)))
    refine Ok.nil (Ok.thenN (Ok.cond (b := ((rresV5 xbase xref) != 0)) rfl (fun hc9 => ?_) (fun hc9 => ?_)))
    ·replace hF := hF.1 hc9
     refine Ok.seq (Ok.region (Ok.batch 3 [(4, sv ([] : Bs)), (5, .int .i64 (rresV5 xbase xref))] (by kernel_rfl) (Ok.nil (Ok.thenN (Ok.ret (Ok.thenR ?_))))))
     exact Ok.resP (vs := [sv ([] : Bs), .int .i64 (rresV5 xbase xref)]) [] [] (by decide) rfl (.inl rfl) rfl (.cons (.tmp rfl) (.cons (.tmp rfl) .nil)) (hx1.trans hxj25) ⟨([] : Bs), (rresV5 xbase xref), rfl, rfl, hF⟩
    ·replace hF := hF.2 hc9
     refine Ok.skip (Ok.thenN (Ok.seq (Ok.region (Ok.op rfl (OpOk.step (v := .agg #[sv (rresV6 xbase xref), sv (rresV7 xbase xref), .int .i64 (rresV8 xbase xref), .slice ayb7_3j25 (rresV9 xbase xref).length cyb7_3j25, sv (rresV10 xbase xref), .bool (rresV11 xbase xref), sv (rresV12 xbase xref), .bool (rresV13 xbase xref)]) (Yields.loadAgg 0 8 #[sv (rresV6 xbase xref), sv (rresV7 xbase xref), .int .i64 (rresV8 xbase xref), .slice ayb7_3j25 (rresV9 xbase xref).length cyb7_3j25, sv (rresV10 xbase xref), .bool (rresV11 xbase xref), sv (rresV12 xbase xref), .bool (rresV13 xbase xref)] rfl rfl Tryz.underlying53 rfl (by kernel_rfl) (by kernel_rfl) (by kernel_rfl)) rfl rfl ?_)))))
     obtain ⟨hp10, hF⟩ := hF
     refine Ok.op rfl (OpOk.callG (v := sv (rresV14 xbase xref)) enr (fun W hW => rtxt_c ((rresV6 xbase xref), (rresV7 xbase xref), (rresV8 xbase xref), (rresV9 xbase xref), (rresV10 xbase xref), (rresV11 xbase xref), (rresV12 xbase xref), (rresV13 xbase xref)) (hRyb7_3j25.mono hW.sees) (hG0.mono hW.sees) (hG1.mono hW.sees) hp10) rfl ?_)
     refine Ok.batch 1 [(15, sv (rresV14 xbase xref))] (by kernel_rfl) (Ok.nil (Ok.thenN (Ok.seq (Ok.seq (Ok.region (Ok.bat 3 [15] [(112, .bool (decide (((rresV14 xbase xref).length : Int) > 500)))] ?_))))))
     refine Ok.nil (Ok.thenN (Ok.cond (b := decide (((rresV14 xbase xref).length : Int) > 500)) rfl (fun hc11 => ?_) (fun hc11 => ?_)))
     ·replace hF := hF.1 hc11
      refine Ok.seq (Ok.region (Ok.batch 2 [(4, sv ([] : Bs)), (5, .int .i64 2)] (by kernel_rfl) (Ok.nil (Ok.thenN (Ok.ret (Ok.thenR ?_))))))
      exact Ok.resP (vs := [sv ([] : Bs), .int .i64 2]) [] [] (by decide) rfl (.inl rfl) rfl (.cons (.tmp rfl) (.cons (.tmp rfl) .nil)) (hx1.trans hxj25) ⟨([] : Bs), 2, rfl, rfl, hF⟩
     ·replace hF := hF.2 hc11
      refine Ok.skip (Ok.thenN (Ok.seq (Ok.region (Ok.batch 3 [(4, sv (rresV14 xbase xref)), (5, .int .i64 0)] (by kernel_rfl) (Ok.nil (Ok.thenN (Ok.ret ?_)))))))
      exact Ok.resP (vs := [sv (rresV14 xbase xref), .int .i64 0]) [] [] (by decide) rfl (.inl rfl) rfl (.cons (.tmp rfl) (.cons (.tmp rfl) .nil)) (hx1.trans hxj25) ⟨(rresV14 xbase xref), 0, rfl, rfl, hF⟩
theorem cpf_parts (l : Bs) : (cpfM l [47]).1 = tpfM l [47] ∧ (cpfM l [47]).2 = hpfM l [47] := by
 have h1 : cpfM l [47] = if (!(slhpM l [47])) = true then (l, false) else (l.drop 1, true) := rfl
 have h2 : tpfM l [47] = if slhpM l [47] = true then l.drop 1 else l := rfl
 have h3 : hpfM l [47] = slhpM l [47] := rfl
 rw [h1, h2, h3]
 cases slhpM l [47] <;> exact ⟨rfl, rfl⟩
theorem rres_F (b r : Bs) : rresF b r (fun x y => (x, y) = resS b r) := by
 rw [resS_eq]
 unfold resS0
 refine ⟨fun h => by rw [if_t h], fun h => ?_⟩
 rw [if_f h]
 have h0 : (parS b).2 = 0 := by simpa using h
 refine ⟨fun h2 => by rw [if_t h2], fun h2 => ?_⟩
 rw [if_f h2]
 have h5 := of_decide_eq_false h2
 obtain ⟨ht, hb⟩ := res_txt (b := b) (r := r) h0 (by omega)
 obtain ⟨hb1, hb2, hb3⟩ := hb
 have hori := par_ori b
 have hrs : (rschS r).2 = (schS r).2.2 := by
  unfold rschS
  cases hc : (schS r).2.2 <;> rfl
 have hl1 : (parS b).1.1.length ≤ 100000000 := hori.1
 -- the answer, where an address has been found
 have fin : ∀ (u : JU) (e : Int), (u, e) = resU b r → (rresV6 b r, rresV7 b r, rresV8 b r, rresV9 b r, rresV10 b r, rresV11 b r, rresV12 b r, rresV13 b r) = u → rresV5 b r = e →
   rresj25 b r (fun x y => (x, y) = if ((resU b r).2 != 0) = true then ([], (resU b r).2) else if decide (((txtS (resU b r).1).length : Int) > 500) = true then ([], 2) else (txtS (resU b r).1, 0)) := by
  intro u e hue hu he
  unfold rresj25 rresV14
  rw [he, hu, ← hue]
  rw [← hue] at ht
  refine ⟨fun h6 => by rw [if_t h6], fun h6 => ?_⟩
  rw [if_f h6]
  exact ⟨ht, fun h7 => by rw [if_t h7], fun h7 => by rw [if_f h7]⟩
 refine ⟨by unfold smP; omega, fun h6 => ?_, fun h6 => ⟨fun h7 => ?_, fun h7 => ?_⟩⟩
 ·-- an address of its own
  have hru : resU b r = parS r := by unfold resU; rw [← hrs, if_t h6]
  refine fin (parS r).1 (parS r).2 hru.symm ?_ ?_
  ·unfold rresV6 rresV7 rresV8 rresV9 rresV10 rresV11 rresV12 rresV13
   simp only [if_pos h6]
  ·unfold rresV5; rw [if_t h6]
 ·have hru : resU b r = parS (((parS b).1.1 ++ [58]) ++ r) := by unfold resU; rw [← hrs, if_f h6, if_t h7]
  refine ⟨by rw [maxLen_eq]; simp only [List.length_cons, List.length_nil]; omega, by rw [maxLen_eq, List.length_append, List.length_cons, List.length_nil]; omega, ?_⟩
  refine fin (parS (((parS b).1.1 ++ [58]) ++ r)).1 (parS (((parS b).1.1 ++ [58]) ++ r)).2 hru.symm ?_ ?_
  ·have h6' : ¬ (rschS r).2 = true := by rw [h6]; exact Bool.false_ne_true
   unfold rresV6 rresV7 rresV8 rresV9 rresV10 rresV11 rresV12 rresV13
   simp only [if_neg h6', if_pos h7]
  ·unfold rresV5; rw [if_f h6, if_t h7]
 ·-- beside the other one
  have hru : resU b r = besS (parS b).1 r := by unfold resU; rw [← hrs, if_f h6, if_f h7]
  have h6' : ¬ (rschS r).2 = true := by rw [h6]; exact Bool.false_ne_true
  have h7' : ¬ hpfM r [47, 47] = true := by rw [h7]; exact Bool.false_ne_true
  obtain ⟨u, hu⟩ : ∃ u, (parS b).1 = u := ⟨_, rfl⟩
  obtain ⟨T, hT⟩ : ∃ T, tailS u r = T := ⟨_, rfl⟩
  have hV16 : rresV16 b r = T := by
   rw [← hT, ← hu]; rfl
  have t0 : T = tailS0 u r := by rw [← hT, tailS_eq]
  have b0 : besT u r = tailS0 (u.1, u.2.1, u.2.2.1, [], [], false, [], false) r := by unfold besT; rw [tailS_eq]
  have e1 : (besT u r).1 = T.1 := by rw [t0, b0]; rfl
  have e2 : (besT u r).2.1 = T.2.1 := by rw [t0, b0]; rfl
  have e3 : (besT u r).2.2.2.2.2.2 = T.2.2.2.2.2.2 := by rw [t0, b0]; rfl
  have f1 : T.2.2.1 = u.1 := by rw [t0]; rfl
  have f2 : T.2.2.2.1 = u.2.1 := by rw [t0]; rfl
  have f3 : T.2.2.2.2.1 = u.2.2.1 := by rw [t0]; rfl
  have f4 : T.2.2.2.2.2.1 = u.2.2.2.1 := by rw [t0]; rfl
  have htl : T.1.length ≤ r.length := by rw [← hT]; exact tail_len u r
  have htp := tpf_len T.1 [47]
  obtain ⟨c1, c2⟩ := cpf_parts T.1
  have hG : besG u r = segS (tpfM T.1 [47]) := by unfold besG; rw [e1, c1]
  obtain ⟨g1, g2⟩ := seg_two (tpfM T.1 [47])
  have hsg := seg_len (tpfM T.1 [47])
  rw [hu] at hb1 hb2 hru
  have hw : w6 ((u.2.2.2.1.length : Int) - 1) = ((u.2.2.2.1.length - 1 : Nat) : Int) := by rw [w64 (by omega)]; omega
  have hbes := besS_eq
  have j37 : rresj37 b r (fun x y => (x, y) = if ((resU b r).2 != 0) = true then ([], (resU b r).2) else if decide (((txtS (resU b r).1).length : Int) > 500) = true then ([], 2) else (txtS (resU b r).1, 0)) := by
   unfold rresj37
   rw [hV16]
   refine ⟨by unfold smP; omega, fun h8 => ?_, fun h8 => ?_⟩
   ·have : resU b r = (ju0, 3) := by
     rw [hru, hbes]
     unfold besS0
     rw [e2, hG, g1, if_t h8]
    rw [this]; rfl
   ·have h8' := h8
    rw [Bool.or_eq_false_iff] at h8'
    have hseg := g2 (by simpa using h8'.2)
    have hrl : (rsegS (tpfM T.1 [47])).1.length ≤ 501 := by rw [← hseg]; omega
    -- the segments
    have hV20 : rresV20 b r = (!(T.1 == []) && !(hpfM T.1 [47])) := by unfold rresV20; rw [hV16]
    have hV21 : rresV21 b r = if (!(T.1 == []) && !(hpfM T.1 [47])) = true then u.2.2.2.1.take (u.2.2.2.1.length - 1) ++ (rsegS (tpfM T.1 [47])).1 else (rsegS (tpfM T.1 [47])).1 := by
     unfold rresV21
     rw [hV20, hV16, hu]
     show (if _ then (([] : List Bs) ++ u.2.2.2.1.take (Int.toNat (w6 ((u.2.2.2.1.length : Int) - 1)))) ++ _ else _) = _
     rw [hw, Int.toNat_natCast, List.nil_append]
    have hV4 : rresV4 b r = rresV21 b r := rfl
    have hL : (T.1 == []) = false → besL u r = rresV21 b r := fun hne => by
     unfold besL
     rw [hV21, e1, c2, hG, hseg, hne]
     rfl
    have hlen21 : (rresV21 b r).length ≤ 2000 := by
     rw [hV21]
     split
     ·rw [List.length_append, List.length_take]; omega
     ·omega
    have j25 : rresj25 b r (fun x y => (x, y) = if ((resU b r).2 != 0) = true then ([], (resU b r).2) else if decide (((txtS (resU b r).1).length : Int) > 500) = true then ([], 2) else (txtS (resU b r).1, 0)) := by
     have hV0 : rresV0 b r = ((T.1 == []) && !(T.2.2.2.2.2.2.2.1)) := by
      show (((rresV16 b r).1 == []) && !((rresV16 b r).2.2.2.2.2.2.2.1)) = _
      rw [hV16]
     have hres : resU b r = ((u.1, u.2.1, u.2.2.1, (if (!(T.1 == [])) = true then tidyS (rresV4 b r) else u.2.2.2.1), (if rresV0 b r = true then u.2.2.2.2.1 else T.2.2.2.2.2.2.1), (if rresV0 b r = true then u.2.2.2.2.2.1 else T.2.2.2.2.2.2.2.1), T.2.2.2.2.2.2.2.2), 0) := by
      rw [hru, hbes]
      unfold besS0
      rw [e2, hG, g1, if_f h8, e1, hV0, e3]
      cases hne : (T.1 == [])
      ·rw [if_f rfl, hL hne, hV4]
       rfl
      ·rw [if_t rfl, Bool.true_and]
       rfl
     refine fin _ 0 hres.symm ?_ ?_
     ·have v6 : rresV6 b r = u.1 := by
       unfold rresV6; rw [if_neg h6', if_neg h7']
       show (rresV16 b r).2.2.1 = _
       rw [hV16, f1]
      have v7 : rresV7 b r = u.2.1 := by
       unfold rresV7; rw [if_neg h6', if_neg h7']
       show (rresV16 b r).2.2.2.1 = _
       rw [hV16, f2]
      have v8 : rresV8 b r = u.2.2.1 := by
       unfold rresV8; rw [if_neg h6', if_neg h7']
       show (rresV16 b r).2.2.2.2.1 = _
       rw [hV16, f3]
      have v9 : rresV9 b r = if (!(T.1 == [])) = true then tidyS (rresV4 b r) else u.2.2.2.1 := by
       unfold rresV9; rw [if_neg h6', if_neg h7']
       show (if (!((rresV16 b r).1 == [])) = true then tidyS (rresV4 b r) else (rresV16 b r).2.2.2.2.2.1) = _
       rw [hV16, f4]
      have v10 : rresV10 b r = if rresV0 b r = true then u.2.2.2.2.1 else T.2.2.2.2.2.2.1 := by
       unfold rresV10; rw [if_neg h6', if_neg h7']
       show (if rresV0 b r = true then (parS b).1.2.2.2.2.1 else (rresV16 b r).2.2.2.2.2.2.1) = _
       rw [hV16, hu]
      have v11 : rresV11 b r = if rresV0 b r = true then u.2.2.2.2.2.1 else T.2.2.2.2.2.2.2.1 := by
       unfold rresV11; rw [if_neg h6', if_neg h7']
       show (if rresV0 b r = true then (parS b).1.2.2.2.2.2.1 else (rresV16 b r).2.2.2.2.2.2.2.1) = _
       rw [hV16, hu]
      have v12 : rresV12 b r = T.2.2.2.2.2.2.2.2.1 := by
       unfold rresV12; rw [if_neg h6', if_neg h7']
       show (rresV16 b r).2.2.2.2.2.2.2.2.1 = _
       rw [hV16]
      have v13 : rresV13 b r = T.2.2.2.2.2.2.2.2.2 := by
       unfold rresV13; rw [if_neg h6', if_neg h7']
       show (rresV16 b r).2.2.2.2.2.2.2.2.2 = _
       rw [hV16]
      rw [v6, v7, v8, v9, v10, v11, v12, v13]
     ·unfold rresV5; rw [if_neg h6', if_neg h7']; exact h0
    have j53 : rresj53 b r (fun x y => (x, y) = if ((resU b r).2 != 0) = true then ([], (resU b r).2) else if decide (((txtS (resU b r).1).length : Int) > 500) = true then ([], 2) else (txtS (resU b r).1, 0)) :=
     ⟨fun _ => ⟨by unfold tidyP; omega, j25⟩, fun _ => j25⟩
    have j54 : rresj54 b r (fun x y => (x, y) = if ((resU b r).2 != 0) = true then ([], (resU b r).2) else if decide (((txtS (resU b r).1).length : Int) > 500) = true then ([], 2) else (txtS (resU b r).1, 0)) := by
     unfold rresj54
     rw [hV16, hu]
     refine ⟨fun _ => ⟨by omega, ?_, ?_, ?_, ?_, j53⟩, fun _ => j53⟩
     ·show 0 ≤ w6 ((u.2.2.2.1.length : Int) - 1)
      rw [hw]; omega
     ·show w6 ((u.2.2.2.1.length : Int) - 1) ≤ (u.2.2.2.1.length : Int)
      rw [hw]; omega
     ·rw [List.nil_append, List.length_take]; omega
     ·rw [List.nil_append, List.length_append, List.length_take]; omega
    exact ⟨fun _ => j54, fun _ => j54⟩
  have j38 : rresj38 b r (fun x y => (x, y) = if ((resU b r).2 != 0) = true then ([], (resU b r).2) else if decide (((txtS (resU b r).1).length : Int) > 500) = true then ([], 2) else (txtS (resU b r).1, 0)) := ⟨fun _ => j37, fun _ => j37⟩
  exact ⟨by show r.length ≤ 4000; omega, fun _ => j38, fun _ => j38⟩
theorem rres_c {g : Ghost} (xbase : Bs) (xref : Bs) (hG0 : SomeInt g 0) (hG1 : GlobL g 1 (.int .u64) DPow)  : CallsG Tryz.prog 9 #[sv xbase, sv xref] g (.tuple #[sv ((resS xbase xref).1), .int .i64 (resS xbase xref).2]) :=
 (rres_ok xbase xref hG0 hG1 _ (rres_F xbase xref)).gives (by rintro g' H' v _ ⟨r0, r1, rfl, rfl, hK⟩; obtain ⟨rfl, rfl⟩ : r0 = (resS xbase xref).1 ∧ r1 = (resS xbase xref).2 := ⟨congrArg (fun z => z.1) hK, congrArg (fun z => z.2) hK⟩; rfl)
end
end Go.Proofs.YtdaagfgedkdmjaaGreatDoor.Ub
