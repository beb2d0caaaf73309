/- Addresses: the reference's Resolved; UrlResolves. -/
import Derived.Test.YthgabkffamgfaaaGreatDoorUtd
namespace Go.Proofs.YthgabkffamgfaaaGreatDoor.Ub
open Go Go.Eng Go.RowKit Go.Shelf Go.Proofs Bld Sp Ti Uc Ua Ui
set_option linter.unusedVariables false
noncomputable section
def rresV0 (xbase : List UInt8) (xref : List UInt8) : Bool :=
  ((((tailS ((parS xbase).1.1, (parS xbase).1.2.1, (parS xbase).1.2.2.1, (parS xbase).1.2.2.2.1, (parS xbase).1.2.2.2.2.1, (parS xbase).1.2.2.2.2.2.1, (parS xbase).1.2.2.2.2.2.2.1, (parS xbase).1.2.2.2.2.2.2.2) xref).1) == ([] : List UInt8)) && (!((((((((tailS ((parS xbase).1.1, (parS xbase).1.2.1, (parS xbase).1.2.2.1, (parS xbase).1.2.2.2.1, (parS xbase).1.2.2.2.2.1, (parS xbase).1.2.2.2.2.2.1, (parS xbase).1.2.2.2.2.2.2.1, (parS xbase).1.2.2.2.2.2.2.2) xref).2.2).2).2).2).2).2).1)))
def rresV1 (xbase : List UInt8) (xref : List UInt8) : List UInt8 :=
  (if (rresV0 xbase xref) = true then (parS xbase).1.2.2.2.2.1 else ((((((tailS ((parS xbase).1.1, (parS xbase).1.2.1, (parS xbase).1.2.2.1, (parS xbase).1.2.2.2.1, (parS xbase).1.2.2.2.2.1, (parS xbase).1.2.2.2.2.2.1, (parS xbase).1.2.2.2.2.2.2.1, (parS xbase).1.2.2.2.2.2.2.2) xref).2.2).2).2).2).2).1)
def rresV2 (xbase : List UInt8) (xref : List UInt8) : Bool :=
  (if (rresV0 xbase xref) = true then (parS xbase).1.2.2.2.2.2.1 else (((((((tailS ((parS xbase).1.1, (parS xbase).1.2.1, (parS xbase).1.2.2.1, (parS xbase).1.2.2.2.1, (parS xbase).1.2.2.2.2.1, (parS xbase).1.2.2.2.2.2.1, (parS xbase).1.2.2.2.2.2.2.1, (parS xbase).1.2.2.2.2.2.2.2) xref).2.2).2).2).2).2).2).1)
def rresV3 (xbase : List UInt8) (xref : List UInt8) : Bool :=
  ((!(((tailS ((parS xbase).1.1, (parS xbase).1.2.1, (parS xbase).1.2.2.1, (parS xbase).1.2.2.2.1, (parS xbase).1.2.2.2.2.1, (parS xbase).1.2.2.2.2.2.1, (parS xbase).1.2.2.2.2.2.2.1, (parS xbase).1.2.2.2.2.2.2.2) xref).1) == ([] : List UInt8))) && (!(hpfM ((tailS ((parS xbase).1.1, (parS xbase).1.2.1, (parS xbase).1.2.2.1, (parS xbase).1.2.2.2.1, (parS xbase).1.2.2.2.2.1, (parS xbase).1.2.2.2.2.2.1, (parS xbase).1.2.2.2.2.2.2.1, (parS xbase).1.2.2.2.2.2.2.2) xref).1) ([47] : List UInt8))))
def rresV4 (xbase : List UInt8) (xref : List UInt8) : List (List UInt8) :=
  (if (rresV3 xbase xref) = true then ((([] : List (List UInt8)) ++ (((parS xbase).1.2.2.2.1).take (Int.toNat (IntKind.wrap .i64 ((((parS xbase).1.2.2.2.1).length : Int) - 1))))) ++ ((rsegS (tpfM ((tailS ((parS xbase).1.1, (parS xbase).1.2.1, (parS xbase).1.2.2.1, (parS xbase).1.2.2.2.1, (parS xbase).1.2.2.2.2.1, (parS xbase).1.2.2.2.2.2.1, (parS xbase).1.2.2.2.2.2.2.1, (parS xbase).1.2.2.2.2.2.2.2) xref).1) ([47] : List UInt8))).1)) else (rsegS (tpfM ((tailS ((parS xbase).1.1, (parS xbase).1.2.1, (parS xbase).1.2.2.1, (parS xbase).1.2.2.2.1, (parS xbase).1.2.2.2.2.1, (parS xbase).1.2.2.2.2.2.1, (parS xbase).1.2.2.2.2.2.2.1, (parS xbase).1.2.2.2.2.2.2.2) xref).1) ([47] : List UInt8))).1)
def rresV5 (xbase : List UInt8) (xref : List UInt8) : Int :=
  (if (rschS xref).2 = true then (parS xref).2 else (if (hpfM xref ([47, 47] : List UInt8)) = true then (parS (((parS xbase).1.1 ++ ([58] : List UInt8)) ++ xref)).2 else (parS xbase).2))
def rresV6 (xbase : List UInt8) (xref : List UInt8) : List UInt8 :=
  (if (rschS xref).2 = true then (parS xref).1.1 else (if (hpfM xref ([47, 47] : List UInt8)) = true then ((parS (((parS xbase).1.1 ++ ([58] : List UInt8)) ++ xref)).1).1 else ((tailS ((parS xbase).1.1, (parS xbase).1.2.1, (parS xbase).1.2.2.1, (parS xbase).1.2.2.2.1, (parS xbase).1.2.2.2.2.1, (parS xbase).1.2.2.2.2.2.1, (parS xbase).1.2.2.2.2.2.2.1, (parS xbase).1.2.2.2.2.2.2.2) xref).2.2).1))
def rresV7 (xbase : List UInt8) (xref : List UInt8) : List UInt8 :=
  (if (rschS xref).2 = true then (parS xref).1.2.1 else (if (hpfM xref ([47, 47] : List UInt8)) = true then (((parS (((parS xbase).1.1 ++ ([58] : List UInt8)) ++ xref)).1).2).1 else (((tailS ((parS xbase).1.1, (parS xbase).1.2.1, (parS xbase).1.2.2.1, (parS xbase).1.2.2.2.1, (parS xbase).1.2.2.2.2.1, (parS xbase).1.2.2.2.2.2.1, (parS xbase).1.2.2.2.2.2.2.1, (parS xbase).1.2.2.2.2.2.2.2) xref).2.2).2).1))
def rresV8 (xbase : List UInt8) (xref : List UInt8) : Int :=
  (if (rschS xref).2 = true then (parS xref).1.2.2.1 else (if (hpfM xref ([47, 47] : List UInt8)) = true then ((((parS (((parS xbase).1.1 ++ ([58] : List UInt8)) ++ xref)).1).2).2).1 else ((((tailS ((parS xbase).1.1, (parS xbase).1.2.1, (parS xbase).1.2.2.1, (parS xbase).1.2.2.2.1, (parS xbase).1.2.2.2.2.1, (parS xbase).1.2.2.2.2.2.1, (parS xbase).1.2.2.2.2.2.2.1, (parS xbase).1.2.2.2.2.2.2.2) xref).2.2).2).2).1))
def rresV9 (xbase : List UInt8) (xref : List UInt8) : List (List UInt8) :=
  (if (rschS xref).2 = true then (parS xref).1.2.2.2.1 else (if (hpfM xref ([47, 47] : List UInt8)) = true then (((((parS (((parS xbase).1.1 ++ ([58] : List UInt8)) ++ xref)).1).2).2).2).1 else (if (!(((tailS ((parS xbase).1.1, (parS xbase).1.2.1, (parS xbase).1.2.2.1, (parS xbase).1.2.2.2.1, (parS xbase).1.2.2.2.2.1, (parS xbase).1.2.2.2.2.2.1, (parS xbase).1.2.2.2.2.2.2.1, (parS xbase).1.2.2.2.2.2.2.2) xref).1) == ([] : List UInt8))) = true then (tidyS (rresV4 xbase xref)) else (((((tailS ((parS xbase).1.1, (parS xbase).1.2.1, (parS xbase).1.2.2.1, (parS xbase).1.2.2.2.1, (parS xbase).1.2.2.2.2.1, (parS xbase).1.2.2.2.2.2.1, (parS xbase).1.2.2.2.2.2.2.1, (parS xbase).1.2.2.2.2.2.2.2) xref).2.2).2).2).2).1)))
def rresV10 (xbase : List UInt8) (xref : List UInt8) : List UInt8 :=
  (if (rschS xref).2 = true then (parS xref).1.2.2.2.2.1 else (if (hpfM xref ([47, 47] : List UInt8)) = true then ((((((parS (((parS xbase).1.1 ++ ([58] : List UInt8)) ++ xref)).1).2).2).2).2).1 else (rresV1 xbase xref)))
def rresV11 (xbase : List UInt8) (xref : List UInt8) : Bool :=
  (if (rschS xref).2 = true then (parS xref).1.2.2.2.2.2.1 else (if (hpfM xref ([47, 47] : List UInt8)) = true then (((((((parS (((parS xbase).1.1 ++ ([58] : List UInt8)) ++ xref)).1).2).2).2).2).2).1 else (rresV2 xbase xref)))
def rresV12 (xbase : List UInt8) (xref : List UInt8) : List UInt8 :=
  (if (rschS xref).2 = true then (parS xref).1.2.2.2.2.2.2.1 else (if (hpfM xref ([47, 47] : List UInt8)) = true then ((((((((parS (((parS xbase).1.1 ++ ([58] : List UInt8)) ++ xref)).1).2).2).2).2).2).2).1 else ((((((((tailS ((parS xbase).1.1, (parS xbase).1.2.1, (parS xbase).1.2.2.1, (parS xbase).1.2.2.2.1, (parS xbase).1.2.2.2.2.1, (parS xbase).1.2.2.2.2.2.1, (parS xbase).1.2.2.2.2.2.2.1, (parS xbase).1.2.2.2.2.2.2.2) xref).2.2).2).2).2).2).2).2).1))
def rresV13 (xbase : List UInt8) (xref : List UInt8) : Bool :=
  (if (rschS xref).2 = true then (parS xref).1.2.2.2.2.2.2.2 else (if (hpfM xref ([47, 47] : List UInt8)) = true then ((((((((parS (((parS xbase).1.1 ++ ([58] : List UInt8)) ++ xref)).1).2).2).2).2).2).2).2 else ((((((((tailS ((parS xbase).1.1, (parS xbase).1.2.1, (parS xbase).1.2.2.1, (parS xbase).1.2.2.2.1, (parS xbase).1.2.2.2.2.1, (parS xbase).1.2.2.2.2.2.1, (parS xbase).1.2.2.2.2.2.2.1, (parS xbase).1.2.2.2.2.2.2.2) xref).2.2).2).2).2).2).2).2).2))
def rresV14 (xbase : List UInt8) (xref : List UInt8) : List UInt8 :=
  (txtS ((rresV6 xbase xref), (rresV7 xbase xref), (rresV8 xbase xref), (rresV9 xbase xref), (rresV10 xbase xref), (rresV11 xbase xref), (rresV12 xbase xref), (rresV13 xbase xref)))
def rresV15 (xbase : List UInt8) (xref : List UInt8) : JU × Int :=
  (parS (((parS xbase).1.1 ++ ([58] : List UInt8)) ++ xref))
def rresV16 (xbase : List UInt8) (xref : List UInt8) : List UInt8 × Bool × JU :=
  (tailS ((parS xbase).1.1, (parS xbase).1.2.1, (parS xbase).1.2.2.1, (parS xbase).1.2.2.2.1, (parS xbase).1.2.2.2.2.1, (parS xbase).1.2.2.2.2.2.1, (parS xbase).1.2.2.2.2.2.2.1, (parS xbase).1.2.2.2.2.2.2.2) xref)
def rresV17 (xbase : List UInt8) (xref : List UInt8) : Bool :=
  (((rresV16 xbase xref).1 == ([] : List UInt8)) && (!((rresV16 xbase xref).2.2.2.2.2.2.2.1)))
def rresV18 (xbase : List UInt8) (xref : List UInt8) : List UInt8 :=
  (if (rresV17 xbase xref) = true then (parS xbase).1.2.2.2.2.1 else (rresV16 xbase xref).2.2.2.2.2.2.1)
def rresV19 (xbase : List UInt8) (xref : List UInt8) : Bool :=
  (if (rresV17 xbase xref) = true then (parS xbase).1.2.2.2.2.2.1 else (rresV16 xbase xref).2.2.2.2.2.2.2.1)
def rresV20 (xbase : List UInt8) (xref : List UInt8) : Bool :=
  ((!((rresV16 xbase xref).1 == ([] : List UInt8))) && (!(hpfM (rresV16 xbase xref).1 ([47] : List UInt8))))
def rresV21 (xbase : List UInt8) (xref : List UInt8) : List (List UInt8) :=
  (if (rresV20 xbase xref) = true then ((([] : List (List UInt8)) ++ (((parS xbase).1.2.2.2.1).take (Int.toNat (IntKind.wrap .i64 ((((parS xbase).1.2.2.2.1).length : Int) - 1))))) ++ ((rsegS (tpfM (rresV16 xbase xref).1 ([47] : List UInt8))).1)) else (rsegS (tpfM (rresV16 xbase xref).1 ([47] : List UInt8))).1)
def rresj25 (xbase : List UInt8) (xref : List UInt8) (K : (List UInt8) → Int → Prop) : Prop :=
  ((((rresV5 xbase xref) != 0)) = true → K ([] : List UInt8) (rresV5 xbase xref)) ∧ ((((rresV5 xbase xref) != 0)) = false → txtP ((rresV6 xbase xref), (rresV7 xbase xref), (rresV8 xbase xref), (rresV9 xbase xref), (rresV10 xbase xref), (rresV11 xbase xref), (rresV12 xbase xref), (rresV13 xbase xref)) ∧ ((decide (((rresV14 xbase xref).length : Int) > 500)) = true → K ([] : List UInt8) 2) ∧ ((decide (((rresV14 xbase xref).length : Int) > 500)) = false → K (rresV14 xbase xref) 0))
def rresj53 (xbase : List UInt8) (xref : List UInt8) (K : (List UInt8) → Int → Prop) : Prop :=
  ((!((rresV16 xbase xref).1 == ([] : List UInt8))) = true → tidyP (rresV21 xbase xref) ∧ rresj25 xbase xref K) ∧ ((!((rresV16 xbase xref).1 == ([] : List UInt8))) = false → rresj25 xbase xref K)
def rresj54 (xbase : List UInt8) (xref : List UInt8) (K : (List UInt8) → Int → Prop) : Prop :=
  (((rresV20 xbase xref)) = true → (0 : Int) ≤ 0 ∧ (0 : Int) ≤ (IntKind.wrap .i64 ((((parS xbase).1.2.2.2.1).length : Int) - 1)) ∧ (IntKind.wrap .i64 ((((parS xbase).1.2.2.2.1).length : Int) - 1)) ≤ (((parS xbase).1.2.2.2.1).length : Int) ∧ (([] : List (List UInt8)) ++ (((parS xbase).1.2.2.2.1).take (Int.toNat (IntKind.wrap .i64 ((((parS xbase).1.2.2.2.1).length : Int) - 1))))).length ≤ 8796093022208 ∧ ((([] : List (List UInt8)) ++ (((parS xbase).1.2.2.2.1).take (Int.toNat (IntKind.wrap .i64 ((((parS xbase).1.2.2.2.1).length : Int) - 1))))) ++ ((rsegS (tpfM (rresV16 xbase xref).1 ([47] : List UInt8))).1)).length ≤ 8796093022208 ∧ rresj53 xbase xref K) ∧ (((rresV20 xbase xref)) = false → rresj53 xbase xref K)
def rresj37 (xbase : List UInt8) (xref : List UInt8) (K : (List UInt8) → Int → Prop) : Prop :=
  smP (tpfM (rresV16 xbase xref).1 ([47] : List UInt8)) ∧ ((((!((rresV16 xbase xref).2.1)) || (!((rsegS (tpfM (rresV16 xbase xref).1 ([47] : List UInt8))).2)))) = true → K ([] : List UInt8) 3) ∧ ((((!((rresV16 xbase xref).2.1)) || (!((rsegS (tpfM (rresV16 xbase xref).1 ([47] : List UInt8))).2)))) = false → ((!((rresV16 xbase xref).1 == ([] : List UInt8))) = true → rresj54 xbase xref K) ∧ ((!((rresV16 xbase xref).1 == ([] : List UInt8))) = false → rresj54 xbase xref K))
def rresj38 (xbase : List UInt8) (xref : List UInt8) (K : (List UInt8) → Int → Prop) : Prop :=
  (((rresV17 xbase xref)) = true → rresj37 xbase xref K) ∧ (((rresV17 xbase xref)) = false → rresj37 xbase xref K)
def rresF (xbase : List UInt8) (xref : List UInt8) (K : (List UInt8) → Int → Prop) : Prop :=
  ((((parS xbase).2 != 0)) = true → K ([] : List UInt8) (parS xbase).2) ∧ ((((parS xbase).2 != 0)) = false → ((decide ((xref.length : Int) > 500)) = true → K ([] : List UInt8) 2) ∧ ((decide ((xref.length : Int) > 500)) = false → smP xref ∧ ((rschS xref).2 = true → rresj25 xbase xref K) ∧ ((rschS xref).2 = false → (((hpfM xref ([47, 47] : List UInt8))) = true → ((parS xbase).1.1).length + ([58] : List UInt8).length ≤ maxLen ∧ ((parS xbase).1.1 ++ ([58] : List UInt8)).length + xref.length ≤ maxLen ∧ rresj25 xbase xref K) ∧ (((hpfM xref ([47, 47] : List UInt8))) = false → tailP ((parS xbase).1.1, (parS xbase).1.2.1, (parS xbase).1.2.2.1, (parS xbase).1.2.2.2.1, (parS xbase).1.2.2.2.2.1, (parS xbase).1.2.2.2.2.2.1, (parS xbase).1.2.2.2.2.2.2.1, (parS xbase).1.2.2.2.2.2.2.2) xref ∧ ((((rresV16 xbase xref).1 == ([] : List UInt8))) = true → rresj38 xbase xref K) ∧ ((((rresV16 xbase xref).1 == ([] : List UInt8))) = false → rresj38 xbase xref K)))))
set_option maxHeartbeats 4000000 in
set_option maxRecDepth 100000 in
set_option linter.unusedVariables false in
theorem rres_ok {g : Ghost} (xbase : List UInt8) (xref : List UInt8) (hG0 : SomeInt g 0) (hG3 : GlobL g 3 (.int .u64) DPow) (K : (List UInt8) → Int → Prop)
    (hF : rresF xbase xref K) : CallsH Tryz.prog 16 #[.string ⟨⟨xbase⟩⟩, .string ⟨⟨xref⟩⟩] g [] (fun g' H' v => ∃ (r0 : List UInt8), ∃ (r1 : Int), v = .tuple #[.string ⟨⟨r0⟩⟩, .int .i64 r1] ∧ H' = [] ∧ K r0 r1) := by
  refine CallsH.enter 114 [(0, .string ⟨⟨xbase⟩⟩), (1, .string ⟨⟨xref⟩⟩)] Tryz.func16 rfl (by kernel_rfl) (by kernel_rfl) (by kernel_rfl) fun w0 => ?_
  refine Ok.seq ?_
  refine Ok.region ?_
  refine Ok.batch 2 [(0, .string ⟨⟨xbase⟩⟩), (1, .string ⟨⟨xref⟩⟩)] (by kernel_rfl) ?_
  refine Ok.nil ?_
  refine Ok.thenN ?_
  refine Ok.seq ?_
  refine Ok.region ?_
  refine Ok.batch 1 [(1, .string ⟨⟨xref⟩⟩), (17, .string ⟨⟨xbase⟩⟩)] (by kernel_rfl) ?_
  refine Ok.op rfl (OpOk.callH [] [] (enters (by kernel_rfl) (fun _ => by kernel_rfl)) rfl (radr_c xbase hG0) rfl fun g1 _ _ hx1 hV1 => ?_)
  obtain ⟨a1_0, c1_0, rfl, hR1_0, rfl⟩ := hV1
  replace hG0 := hG0.mono hx1.1
  replace hG3 := hG3.mono hx1.1
  refine Ok.batch 3 [(1, .string ⟨⟨xref⟩⟩), (19, .agg #[.string ⟨⟨(parS xbase).1.1⟩⟩, .string ⟨⟨(parS xbase).1.2.1⟩⟩, .int .i64 (parS xbase).1.2.2.1, .slice a1_0 ((parS xbase).1.2.2.2.1).length c1_0, .string ⟨⟨(parS xbase).1.2.2.2.2.1⟩⟩, .bool (parS xbase).1.2.2.2.2.2.1, .string ⟨⟨(parS xbase).1.2.2.2.2.2.2.1⟩⟩, .bool (parS xbase).1.2.2.2.2.2.2.2]), (20, .int .i64 (parS xbase).2)] (by kernel_rfl) ?_
  have hL2 : RepL g1 (.str) [] [] := rfl
  refine Ok.ownNil 9 1 ?_
  refine Ok.op rfl (OpOk.alloc (z := .agg #[.string ⟨⟨([] : List UInt8)⟩⟩, .string ⟨⟨([] : List UInt8)⟩⟩, .int .i64 0, .slice none ([] : List (List UInt8)).length 0, .string ⟨⟨([] : List UInt8)⟩⟩, .bool false, .string ⟨⟨([] : List UInt8)⟩⟩, .bool false]) (cs := #[.string ⟨⟨([] : List UInt8)⟩⟩, .string ⟨⟨([] : List UInt8)⟩⟩, .int .i64 0, .slice none ([] : List (List UInt8)).length 0, .string ⟨⟨([] : List UInt8)⟩⟩, .bool false, .string ⟨⟨([] : List UInt8)⟩⟩, .bool false]) (by kernel_rfl) (by kernel_rfl) rfl fun b3 => ?_)
  refine Ok.op rfl (OpOk.store (k := 8) (v := .agg #[.string ⟨⟨(parS xbase).1.1⟩⟩, .string ⟨⟨(parS xbase).1.2.1⟩⟩, .int .i64 (parS xbase).1.2.2.1, .slice a1_0 ((parS xbase).1.2.2.2.1).length c1_0, .string ⟨⟨(parS xbase).1.2.2.2.2.1⟩⟩, .bool (parS xbase).1.2.2.2.2.2.1, .string ⟨⟨(parS xbase).1.2.2.2.2.2.2.1⟩⟩, .bool (parS xbase).1.2.2.2.2.2.2.2]) (H' := [.blk b3 (.cells #[.string ⟨⟨(parS xbase).1.1⟩⟩, .string ⟨⟨(parS xbase).1.2.1⟩⟩, .int .i64 (parS xbase).1.2.2.1, .slice a1_0 ((parS xbase).1.2.2.2.1).length c1_0, .string ⟨⟨(parS xbase).1.2.2.2.2.1⟩⟩, .bool (parS xbase).1.2.2.2.2.2.1, .string ⟨⟨(parS xbase).1.2.2.2.2.2.2.1⟩⟩, .bool (parS xbase).1.2.2.2.2.2.2.2] 24), .own (.slice none ([] : List (List UInt8)).length 0) 9 1 ([] : List (List UInt8)).length ([])]) 0 rfl rfl rfl (by kernel_rfl) (by kernel_rfl) (by kernel_rfl) (by kernel_rfl) (by kernel_rfl) ?_)
  refine Ok.batch 1 [(1, .string ⟨⟨xref⟩⟩), (6, .pointer (some ⟨b3, 0, none⟩)), (7, .int .i64 (parS xbase).2)] (by kernel_rfl) ?_
  refine Ok.nil ?_
  refine Ok.thenN ?_
  refine Ok.seq ?_
  refine Ok.seq ?_
  refine Ok.region ?_
  refine Ok.batch 2 [(1, .string ⟨⟨xref⟩⟩), (6, .pointer (some ⟨b3, 0, none⟩)), (7, .int .i64 (parS xbase).2), (22, .bool ((parS xbase).2 != 0))] (by kernel_rfl) ?_
  refine Ok.nil ?_
  refine Ok.thenN ?_
  refine Ok.cond (b := ((parS xbase).2 != 0)) rfl (fun hc4 => ?_) (fun hc4 => ?_)
  · replace hF := hF.1 hc4
    refine Ok.seq ?_
    refine Ok.region ?_
    refine Ok.batch 3 [(4, .string ⟨⟨([] : List UInt8)⟩⟩), (5, .int .i64 (parS xbase).2)] (by kernel_rfl) ?_
    refine Ok.nil ?_
    refine Ok.thenN ?_
    refine Ok.ret ?_
    refine Ok.thenR ?_
    exact Ok.resP (vs := [.string ⟨⟨([] : List UInt8)⟩⟩, .int .i64 (parS xbase).2]) [] [] (by decide) rfl (.inl rfl) rfl (.cons (.tmp rfl) (.cons (.tmp rfl) .nil)) hx1 ⟨([] : List UInt8), (parS xbase).2, rfl, rfl, hF⟩
  · replace hF := hF.2 hc4
    refine Ok.skip ?_
    refine Ok.thenN ?_
    refine Ok.seq ?_
    refine Ok.seq ?_
    refine Ok.region ?_
    refine Ok.batch 3 [(1, .string ⟨⟨xref⟩⟩), (6, .pointer (some ⟨b3, 0, none⟩)), (7, .int .i64 (parS xbase).2), (26, .bool (decide ((xref.length : Int) > 500)))] (by kernel_rfl) ?_
    refine Ok.nil ?_
    refine Ok.thenN ?_
    refine Ok.cond (b := decide ((xref.length : Int) > 500)) rfl (fun hc5 => ?_) (fun hc5 => ?_)
    · replace hF := hF.1 hc5
      refine Ok.seq ?_
      refine Ok.region ?_
      refine Ok.batch 2 [(4, .string ⟨⟨([] : List UInt8)⟩⟩), (5, .int .i64 2)] (by kernel_rfl) ?_
      refine Ok.nil ?_
      refine Ok.thenN ?_
      refine Ok.ret ?_
      refine Ok.thenR ?_
      exact Ok.resP (vs := [.string ⟨⟨([] : List UInt8)⟩⟩, .int .i64 2]) [] [] (by decide) rfl (.inl rfl) rfl (.cons (.tmp rfl) (.cons (.tmp rfl) .nil)) hx1 ⟨([] : List UInt8), 2, rfl, rfl, hF⟩
    · replace hF := hF.2 hc5
      refine Ok.skip ?_
      refine Ok.thenN ?_
      refine Ok.seq ?_
      refine Ok.region ?_
      refine Ok.op rfl (OpOk.step (v := .agg #[.string ⟨⟨(parS xbase).1.1⟩⟩, .string ⟨⟨(parS xbase).1.2.1⟩⟩, .int .i64 (parS xbase).1.2.2.1, .slice a1_0 ((parS xbase).1.2.2.2.1).length c1_0, .string ⟨⟨(parS xbase).1.2.2.2.2.1⟩⟩, .bool (parS xbase).1.2.2.2.2.2.1, .string ⟨⟨(parS xbase).1.2.2.2.2.2.2.1⟩⟩, .bool (parS xbase).1.2.2.2.2.2.2.2]) (Yields.loadAgg 0 8 #[.string ⟨⟨(parS xbase).1.1⟩⟩, .string ⟨⟨(parS xbase).1.2.1⟩⟩, .int .i64 (parS xbase).1.2.2.1, .slice a1_0 ((parS xbase).1.2.2.2.1).length c1_0, .string ⟨⟨(parS xbase).1.2.2.2.2.1⟩⟩, .bool (parS xbase).1.2.2.2.2.2.1, .string ⟨⟨(parS xbase).1.2.2.2.2.2.2.1⟩⟩, .bool (parS xbase).1.2.2.2.2.2.2.2] rfl rfl Tryz.underlying24 rfl (by kernel_rfl) (by kernel_rfl) (by kernel_rfl)) rfl rfl ?_)
      have hL6 : RepL g1 (.str) [] [] := rfl
      refine Ok.ownNil 9 1 ?_
      refine Ok.op rfl (OpOk.alloc (z := .agg #[.string ⟨⟨([] : List UInt8)⟩⟩, .string ⟨⟨([] : List UInt8)⟩⟩, .int .i64 0, .slice none ([] : List (List UInt8)).length 0, .string ⟨⟨([] : List UInt8)⟩⟩, .bool false, .string ⟨⟨([] : List UInt8)⟩⟩, .bool false]) (cs := #[.string ⟨⟨([] : List UInt8)⟩⟩, .string ⟨⟨([] : List UInt8)⟩⟩, .int .i64 0, .slice none ([] : List (List UInt8)).length 0, .string ⟨⟨([] : List UInt8)⟩⟩, .bool false, .string ⟨⟨([] : List UInt8)⟩⟩, .bool false]) (by kernel_rfl) (by kernel_rfl) rfl fun b7 => ?_)
      refine Ok.op rfl (OpOk.store (k := 8) (v := .agg #[.string ⟨⟨(parS xbase).1.1⟩⟩, .string ⟨⟨(parS xbase).1.2.1⟩⟩, .int .i64 (parS xbase).1.2.2.1, .slice a1_0 ((parS xbase).1.2.2.2.1).length c1_0, .string ⟨⟨(parS xbase).1.2.2.2.2.1⟩⟩, .bool (parS xbase).1.2.2.2.2.2.1, .string ⟨⟨(parS xbase).1.2.2.2.2.2.2.1⟩⟩, .bool (parS xbase).1.2.2.2.2.2.2.2]) (H' := [.blk b7 (.cells #[.string ⟨⟨(parS xbase).1.1⟩⟩, .string ⟨⟨(parS xbase).1.2.1⟩⟩, .int .i64 (parS xbase).1.2.2.1, .slice a1_0 ((parS xbase).1.2.2.2.1).length c1_0, .string ⟨⟨(parS xbase).1.2.2.2.2.1⟩⟩, .bool (parS xbase).1.2.2.2.2.2.1, .string ⟨⟨(parS xbase).1.2.2.2.2.2.2.1⟩⟩, .bool (parS xbase).1.2.2.2.2.2.2.2] 24), .own (.slice none ([] : List (List UInt8)).length 0) 9 1 ([] : List (List UInt8)).length ([]), .blk b3 (.cells #[.string ⟨⟨(parS xbase).1.1⟩⟩, .string ⟨⟨(parS xbase).1.2.1⟩⟩, .int .i64 (parS xbase).1.2.2.1, .slice a1_0 ((parS xbase).1.2.2.2.1).length c1_0, .string ⟨⟨(parS xbase).1.2.2.2.2.1⟩⟩, .bool (parS xbase).1.2.2.2.2.2.1, .string ⟨⟨(parS xbase).1.2.2.2.2.2.2.1⟩⟩, .bool (parS xbase).1.2.2.2.2.2.2.2] 24), .own (.slice none ([] : List (List UInt8)).length 0) 9 1 ([] : List (List UInt8)).length ([])]) 0 rfl rfl rfl (by kernel_rfl) (by kernel_rfl) (by kernel_rfl) (by kernel_rfl) (by kernel_rfl) ?_)
      refine Ok.nil ?_
      refine Ok.thenN ?_
      refine Ok.seq ?_
      refine Ok.region ?_
      refine Ok.batch 1 [(1, .string ⟨⟨xref⟩⟩), (6, .pointer (some ⟨b3, 0, none⟩)), (7, .int .i64 (parS xbase).2), (8, .pointer (some ⟨b7, 0, none⟩)), (29, .string ⟨⟨xref⟩⟩)] (by kernel_rfl) ?_
      obtain ⟨hp8, hF⟩ := hF
      refine Ok.op rfl (OpOk.callG (v := .tuple #[.string ⟨⟨(rschS xref).1⟩⟩, .bool (rschS xref).2]) (enters (by kernel_rfl) (fun _ => by kernel_rfl)) (fun W hW => rsch_c xref (hG0.mono hW.sees) hp8) rfl ?_)
      refine Ok.batch 5 [(1, .string ⟨⟨xref⟩⟩), (6, .pointer (some ⟨b3, 0, none⟩)), (7, .int .i64 (parS xbase).2), (8, .pointer (some ⟨b7, 0, none⟩)), (10, .bool (rschS xref).2)] (by kernel_rfl) ?_
      refine Ok.nil ?_
      refine Ok.thenN ?_
      refine Ok.cut (fun a W => ∃ gj25 : Ghost, Gext w0 g1 gj25 ∧ ∃ (ayb7_3j25 : Option Addr) (cyb7_3j25 : Nat), Rep gj25 (.slice (.str)) [.slice ayb7_3j25 (rresV9 xbase xref).length cyb7_3j25] (rresV9 xbase xref) ∧ StA 114 [(7, .int .i64 (rresV5 xbase xref)), (8, .pointer (some ⟨b7, 0, none⟩))] a ∧ StW w0 [.blk b7 (.cells #[.string ⟨⟨(rresV6 xbase xref)⟩⟩, .string ⟨⟨(rresV7 xbase xref)⟩⟩, .int .i64 (rresV8 xbase xref), .slice ayb7_3j25 (rresV9 xbase xref).length cyb7_3j25, .string ⟨⟨(rresV10 xbase xref)⟩⟩, .bool (rresV11 xbase xref), .string ⟨⟨(rresV12 xbase xref)⟩⟩, .bool (rresV13 xbase xref)] 24)] gj25 W ∧ rresj25 xbase xref K) ?_ ?_
      ·
        refine Ok.block ?_
        refine Ok.seq ?_
        refine Ok.region ?_
        refine Ok.batch 2 [(1, .string ⟨⟨xref⟩⟩), (6, .pointer (some ⟨b3, 0, none⟩)), (7, .int .i64 (parS xbase).2), (8, .pointer (some ⟨b7, 0, none⟩)), (86, .bool (rschS xref).2)] (by kernel_rfl) ?_
        refine Ok.nil ?_
        refine Ok.thenN ?_
        refine Ok.cond (b := (rschS xref).2) rfl (fun hc12 => ?_) (fun hc12 => ?_)
        · replace hF := hF.1 hc12
          refine Ok.region ?_
          refine Ok.batch 1 [(8, .pointer (some ⟨b7, 0, none⟩)), (89, .string ⟨⟨xref⟩⟩)] (by kernel_rfl) ?_
          refine Ok.op rfl (OpOk.callH [] [.blk b7 (.cells #[.string ⟨⟨(parS xbase).1.1⟩⟩, .string ⟨⟨(parS xbase).1.2.1⟩⟩, .int .i64 (parS xbase).1.2.2.1, .slice a1_0 ((parS xbase).1.2.2.2.1).length c1_0, .string ⟨⟨(parS xbase).1.2.2.2.2.1⟩⟩, .bool (parS xbase).1.2.2.2.2.2.1, .string ⟨⟨(parS xbase).1.2.2.2.2.2.2.1⟩⟩, .bool (parS xbase).1.2.2.2.2.2.2.2] 24), .own (.slice none ([] : List (List UInt8)).length 0) 9 1 ([] : List (List UInt8)).length ([]), .blk b3 (.cells #[.string ⟨⟨(parS xbase).1.1⟩⟩, .string ⟨⟨(parS xbase).1.2.1⟩⟩, .int .i64 (parS xbase).1.2.2.1, .slice a1_0 ((parS xbase).1.2.2.2.1).length c1_0, .string ⟨⟨(parS xbase).1.2.2.2.2.1⟩⟩, .bool (parS xbase).1.2.2.2.2.2.1, .string ⟨⟨(parS xbase).1.2.2.2.2.2.2.1⟩⟩, .bool (parS xbase).1.2.2.2.2.2.2.2] 24), .own (.slice none ([] : List (List UInt8)).length 0) 9 1 ([] : List (List UInt8)).length ([])] (enters (by kernel_rfl) (fun _ => by kernel_rfl)) rfl (radr_c xref hG0) rfl fun g13 _ _ hx13 hV13 => ?_)
          obtain ⟨a13_0, c13_0, rfl, hR13_0, rfl⟩ := hV13
          replace hR1_0 := hR1_0.mono hx13.1
          replace hL6 := hL6.mono hx13.1
          replace hL2 := hL2.mono hx13.1
          replace hG0 := hG0.mono hx13.1
          replace hG3 := hG3.mono hx13.1
          refine Ok.batch 3 [(8, .pointer (some ⟨b7, 0, none⟩)), (91, .agg #[.string ⟨⟨(parS xref).1.1⟩⟩, .string ⟨⟨(parS xref).1.2.1⟩⟩, .int .i64 (parS xref).1.2.2.1, .slice a13_0 ((parS xref).1.2.2.2.1).length c13_0, .string ⟨⟨(parS xref).1.2.2.2.2.1⟩⟩, .bool (parS xref).1.2.2.2.2.2.1, .string ⟨⟨(parS xref).1.2.2.2.2.2.2.1⟩⟩, .bool (parS xref).1.2.2.2.2.2.2.2]), (92, .int .i64 (parS xref).2)] (by kernel_rfl) ?_
          refine Ok.op rfl (OpOk.store (k := 8) (v := .agg #[.string ⟨⟨(parS xref).1.1⟩⟩, .string ⟨⟨(parS xref).1.2.1⟩⟩, .int .i64 (parS xref).1.2.2.1, .slice a13_0 ((parS xref).1.2.2.2.1).length c13_0, .string ⟨⟨(parS xref).1.2.2.2.2.1⟩⟩, .bool (parS xref).1.2.2.2.2.2.1, .string ⟨⟨(parS xref).1.2.2.2.2.2.2.1⟩⟩, .bool (parS xref).1.2.2.2.2.2.2.2]) (H' := [.blk b7 (.cells #[.string ⟨⟨(parS xref).1.1⟩⟩, .string ⟨⟨(parS xref).1.2.1⟩⟩, .int .i64 (parS xref).1.2.2.1, .slice a13_0 ((parS xref).1.2.2.2.1).length c13_0, .string ⟨⟨(parS xref).1.2.2.2.2.1⟩⟩, .bool (parS xref).1.2.2.2.2.2.1, .string ⟨⟨(parS xref).1.2.2.2.2.2.2.1⟩⟩, .bool (parS xref).1.2.2.2.2.2.2.2] 24), .own (.slice none ([] : List (List UInt8)).length 0) 9 1 ([] : List (List UInt8)).length ([]), .blk b3 (.cells #[.string ⟨⟨(parS xbase).1.1⟩⟩, .string ⟨⟨(parS xbase).1.2.1⟩⟩, .int .i64 (parS xbase).1.2.2.1, .slice a1_0 ((parS xbase).1.2.2.2.1).length c1_0, .string ⟨⟨(parS xbase).1.2.2.2.2.1⟩⟩, .bool (parS xbase).1.2.2.2.2.2.1, .string ⟨⟨(parS xbase).1.2.2.2.2.2.2.1⟩⟩, .bool (parS xbase).1.2.2.2.2.2.2.2] 24), .own (.slice none ([] : List (List UInt8)).length 0) 9 1 ([] : List (List UInt8)).length ([])]) 0 rfl rfl rfl (by kernel_rfl) (by kernel_rfl) (by kernel_rfl) (by kernel_rfl) (by kernel_rfl) ?_)
          refine Ok.batch 1 [(7, .int .i64 (parS xref).2), (8, .pointer (some ⟨b7, 0, none⟩))] (by kernel_rfl) ?_
          refine Ok.nil ?_
          refine Ok.blockN ?_
          refine Ok.thenN ?_
          refine Ok.reval 7 rfl (show (.int .i64 (parS xref).2 : Value) = .int .i64 (rresV5 xbase xref) from congrArg (Value.int .i64) ((if_t hc12).symm)) ?_
          refine Ok.heapEq (H' := [.blk b7 (.cells #[.string ⟨⟨(rresV6 xbase xref)⟩⟩, .string ⟨⟨(rresV7 xbase xref)⟩⟩, .int .i64 (rresV8 xbase xref), .slice a13_0 (rresV9 xbase xref).length c13_0, .string ⟨⟨(rresV10 xbase xref)⟩⟩, .bool (rresV11 xbase xref), .string ⟨⟨(rresV12 xbase xref)⟩⟩, .bool (rresV13 xbase xref)] 24), .own (.slice none ([] : List (List UInt8)).length 0) 9 1 ([] : List (List UInt8)).length ([]), .blk b3 (.cells #[.string ⟨⟨(parS xbase).1.1⟩⟩, .string ⟨⟨(parS xbase).1.2.1⟩⟩, .int .i64 (parS xbase).1.2.2.1, .slice a1_0 ((parS xbase).1.2.2.2.1).length c1_0, .string ⟨⟨(parS xbase).1.2.2.2.2.1⟩⟩, .bool (parS xbase).1.2.2.2.2.2.1, .string ⟨⟨(parS xbase).1.2.2.2.2.2.2.1⟩⟩, .bool (parS xbase).1.2.2.2.2.2.2.2] 24), .own (.slice none ([] : List (List UInt8)).length 0) 9 1 ([] : List (List UInt8)).length ([])]) (econs (congrArg (fun l : List Value => Ent.blk b7 (.cells ⟨l⟩ 24)) (lcons (congrArg ((fun s : List UInt8 => Value.string ⟨⟨s⟩⟩)) ((if_t hc12).symm)) (lcons (congrArg ((fun s : List UInt8 => Value.string ⟨⟨s⟩⟩)) ((if_t hc12).symm)) (lcons (congrArg (Value.int .i64) ((if_t hc12).symm)) (lcons (congrArg (fun l : List (List UInt8) => Value.slice a13_0 l.length c13_0) ((if_t hc12).symm)) (lcons (congrArg ((fun s : List UInt8 => Value.string ⟨⟨s⟩⟩)) ((if_t hc12).symm)) (lcons (congrArg (Value.bool) ((if_t hc12).symm)) (lcons (congrArg ((fun s : List UInt8 => Value.string ⟨⟨s⟩⟩)) ((if_t hc12).symm)) (lcons (congrArg (Value.bool) ((if_t hc12).symm)) rfl))))))))) (econs (rfl) (econs (rfl) (econs (rfl) rfl)))) ?_
          exact fun a W hA hW => ⟨g13, hx13, a13_0, c13_0, (Eq.mp (congrArg (fun l : List (List UInt8) => Rep g13 (.slice (.str)) [.slice a13_0 l.length c13_0] l) ((if_t hc12).symm)) hR13_0), hA.sub (by kernel_rfl), hW.sub (.cons_cons _ (.cons _ (.cons _ (.cons _ .slnil)))), hF⟩
        · replace hF := hF.2 hc12
          refine Ok.seq ?_
          refine Ok.region ?_
          refine Ok.batch 1 [(1, .string ⟨⟨xref⟩⟩), (6, .pointer (some ⟨b3, 0, none⟩)), (7, .int .i64 (parS xbase).2), (8, .pointer (some ⟨b7, 0, none⟩)), (94, .string ⟨⟨xref⟩⟩)] (by kernel_rfl) ?_
          refine Ok.op rfl (OpOk.callG (v := .bool (hpfM xref ([47, 47] : List UInt8))) (enters (by kernel_rfl) (fun _ => by kernel_rfl)) (fun W hW => hpf_c xref ([47, 47] : List UInt8)) rfl ?_)
          refine Ok.batch 1 [(1, .string ⟨⟨xref⟩⟩), (6, .pointer (some ⟨b3, 0, none⟩)), (7, .int .i64 (parS xbase).2), (8, .pointer (some ⟨b7, 0, none⟩)), (93, .bool (hpfM xref ([47, 47] : List UInt8)))] (by kernel_rfl) ?_
          refine Ok.nil ?_
          refine Ok.thenN ?_
          refine Ok.cond (b := (hpfM xref ([47, 47] : List UInt8))) rfl (fun hc14 => ?_) (fun hc14 => ?_)
          · replace hF := hF.1 hc14
            refine Ok.region ?_
            refine Ok.batch 1 [(1, .string ⟨⟨xref⟩⟩), (8, .pointer (some ⟨b7, 0, none⟩)), (97, .pointer (some ⟨b3, 0, none⟩))] (by kernel_rfl) ?_
            refine Ok.op rfl (OpOk.step (v := .string ⟨⟨(parS xbase).1.1⟩⟩) (Yields.load 2 rfl rfl Tryz.underlying9 rfl (by kernel_rfl)) rfl rfl ?_)
            obtain ⟨hv, hF⟩ := hF
            refine Ok.op rfl (OpOk.step (v := .string ⟨⟨(parS xbase).1.1 ++ ([58] : List UInt8)⟩⟩) (Yields.strAdd rfl rfl hv) rfl rfl ?_)
            refine Ok.batch 1 [(8, .pointer (some ⟨b7, 0, none⟩)), (99, .string ⟨⟨(parS xbase).1.1 ++ ([58] : List UInt8)⟩⟩), (100, .string ⟨⟨xref⟩⟩)] (by kernel_rfl) ?_
            obtain ⟨hv, hF⟩ := hF
            refine Ok.op rfl (OpOk.step (v := .string ⟨⟨((parS xbase).1.1 ++ ([58] : List UInt8)) ++ xref⟩⟩) (Yields.strAdd rfl rfl hv) rfl rfl ?_)
            refine Ok.op rfl (OpOk.callH [] [.blk b7 (.cells #[.string ⟨⟨(parS xbase).1.1⟩⟩, .string ⟨⟨(parS xbase).1.2.1⟩⟩, .int .i64 (parS xbase).1.2.2.1, .slice a1_0 ((parS xbase).1.2.2.2.1).length c1_0, .string ⟨⟨(parS xbase).1.2.2.2.2.1⟩⟩, .bool (parS xbase).1.2.2.2.2.2.1, .string ⟨⟨(parS xbase).1.2.2.2.2.2.2.1⟩⟩, .bool (parS xbase).1.2.2.2.2.2.2.2] 24), .own (.slice none ([] : List (List UInt8)).length 0) 9 1 ([] : List (List UInt8)).length ([]), .blk b3 (.cells #[.string ⟨⟨(parS xbase).1.1⟩⟩, .string ⟨⟨(parS xbase).1.2.1⟩⟩, .int .i64 (parS xbase).1.2.2.1, .slice a1_0 ((parS xbase).1.2.2.2.1).length c1_0, .string ⟨⟨(parS xbase).1.2.2.2.2.1⟩⟩, .bool (parS xbase).1.2.2.2.2.2.1, .string ⟨⟨(parS xbase).1.2.2.2.2.2.2.1⟩⟩, .bool (parS xbase).1.2.2.2.2.2.2.2] 24), .own (.slice none ([] : List (List UInt8)).length 0) 9 1 ([] : List (List UInt8)).length ([])] (enters (by kernel_rfl) (fun _ => by kernel_rfl)) rfl (radr_c (((parS xbase).1.1 ++ ([58] : List UInt8)) ++ xref) hG0) rfl fun g15 _ _ hx15 hV15 => ?_)
            obtain ⟨a15_0, c15_0, rfl, hR15_0, rfl⟩ := hV15
            replace hR1_0 := hR1_0.mono hx15.1
            replace hL6 := hL6.mono hx15.1
            replace hL2 := hL2.mono hx15.1
            replace hG0 := hG0.mono hx15.1
            replace hG3 := hG3.mono hx15.1
            refine Ok.batch 3 [(8, .pointer (some ⟨b7, 0, none⟩)), (103, .agg #[.string ⟨⟨(rresV15 xbase xref).1.1⟩⟩, .string ⟨⟨(rresV15 xbase xref).1.2.1⟩⟩, .int .i64 (rresV15 xbase xref).1.2.2.1, .slice a15_0 ((rresV15 xbase xref).1.2.2.2.1).length c15_0, .string ⟨⟨(rresV15 xbase xref).1.2.2.2.2.1⟩⟩, .bool (rresV15 xbase xref).1.2.2.2.2.2.1, .string ⟨⟨(rresV15 xbase xref).1.2.2.2.2.2.2.1⟩⟩, .bool (rresV15 xbase xref).1.2.2.2.2.2.2.2]), (104, .int .i64 (rresV15 xbase xref).2)] (by kernel_rfl) ?_
            refine Ok.op rfl (OpOk.store (k := 8) (v := .agg #[.string ⟨⟨(rresV15 xbase xref).1.1⟩⟩, .string ⟨⟨(rresV15 xbase xref).1.2.1⟩⟩, .int .i64 (rresV15 xbase xref).1.2.2.1, .slice a15_0 ((rresV15 xbase xref).1.2.2.2.1).length c15_0, .string ⟨⟨(rresV15 xbase xref).1.2.2.2.2.1⟩⟩, .bool (rresV15 xbase xref).1.2.2.2.2.2.1, .string ⟨⟨(rresV15 xbase xref).1.2.2.2.2.2.2.1⟩⟩, .bool (rresV15 xbase xref).1.2.2.2.2.2.2.2]) (H' := [.blk b7 (.cells #[.string ⟨⟨(rresV15 xbase xref).1.1⟩⟩, .string ⟨⟨(rresV15 xbase xref).1.2.1⟩⟩, .int .i64 (rresV15 xbase xref).1.2.2.1, .slice a15_0 ((rresV15 xbase xref).1.2.2.2.1).length c15_0, .string ⟨⟨(rresV15 xbase xref).1.2.2.2.2.1⟩⟩, .bool (rresV15 xbase xref).1.2.2.2.2.2.1, .string ⟨⟨(rresV15 xbase xref).1.2.2.2.2.2.2.1⟩⟩, .bool (rresV15 xbase xref).1.2.2.2.2.2.2.2] 24), .own (.slice none ([] : List (List UInt8)).length 0) 9 1 ([] : List (List UInt8)).length ([]), .blk b3 (.cells #[.string ⟨⟨(parS xbase).1.1⟩⟩, .string ⟨⟨(parS xbase).1.2.1⟩⟩, .int .i64 (parS xbase).1.2.2.1, .slice a1_0 ((parS xbase).1.2.2.2.1).length c1_0, .string ⟨⟨(parS xbase).1.2.2.2.2.1⟩⟩, .bool (parS xbase).1.2.2.2.2.2.1, .string ⟨⟨(parS xbase).1.2.2.2.2.2.2.1⟩⟩, .bool (parS xbase).1.2.2.2.2.2.2.2] 24), .own (.slice none ([] : List (List UInt8)).length 0) 9 1 ([] : List (List UInt8)).length ([])]) 0 rfl rfl rfl (by kernel_rfl) (by kernel_rfl) (by kernel_rfl) (by kernel_rfl) (by kernel_rfl) ?_)
            refine Ok.batch 1 [(7, .int .i64 (rresV15 xbase xref).2), (8, .pointer (some ⟨b7, 0, none⟩))] (by kernel_rfl) ?_
            refine Ok.nil ?_
            refine Ok.blockN ?_
            refine Ok.thenN ?_
            refine Ok.reval 7 rfl (show (.int .i64 (rresV15 xbase xref).2 : Value) = .int .i64 (rresV5 xbase xref) from congrArg (Value.int .i64) ((Eq.trans ((if_t hc14).symm) ((if_f hc12).symm)))) ?_
            refine Ok.heapEq (H' := [.blk b7 (.cells #[.string ⟨⟨(rresV6 xbase xref)⟩⟩, .string ⟨⟨(rresV7 xbase xref)⟩⟩, .int .i64 (rresV8 xbase xref), .slice a15_0 (rresV9 xbase xref).length c15_0, .string ⟨⟨(rresV10 xbase xref)⟩⟩, .bool (rresV11 xbase xref), .string ⟨⟨(rresV12 xbase xref)⟩⟩, .bool (rresV13 xbase xref)] 24), .own (.slice none ([] : List (List UInt8)).length 0) 9 1 ([] : List (List UInt8)).length ([]), .blk b3 (.cells #[.string ⟨⟨(parS xbase).1.1⟩⟩, .string ⟨⟨(parS xbase).1.2.1⟩⟩, .int .i64 (parS xbase).1.2.2.1, .slice a1_0 ((parS xbase).1.2.2.2.1).length c1_0, .string ⟨⟨(parS xbase).1.2.2.2.2.1⟩⟩, .bool (parS xbase).1.2.2.2.2.2.1, .string ⟨⟨(parS xbase).1.2.2.2.2.2.2.1⟩⟩, .bool (parS xbase).1.2.2.2.2.2.2.2] 24), .own (.slice none ([] : List (List UInt8)).length 0) 9 1 ([] : List (List UInt8)).length ([])]) (econs (congrArg (fun l : List Value => Ent.blk b7 (.cells ⟨l⟩ 24)) (lcons (congrArg ((fun s : List UInt8 => Value.string ⟨⟨s⟩⟩)) ((Eq.trans ((if_t hc14).symm) ((if_f hc12).symm)))) (lcons (congrArg ((fun s : List UInt8 => Value.string ⟨⟨s⟩⟩)) ((Eq.trans ((if_t hc14).symm) ((if_f hc12).symm)))) (lcons (congrArg (Value.int .i64) ((Eq.trans ((if_t hc14).symm) ((if_f hc12).symm)))) (lcons (congrArg (fun l : List (List UInt8) => Value.slice a15_0 l.length c15_0) ((Eq.trans ((if_t hc14).symm) ((if_f hc12).symm)))) (lcons (congrArg ((fun s : List UInt8 => Value.string ⟨⟨s⟩⟩)) ((Eq.trans ((if_t hc14).symm) ((if_f hc12).symm)))) (lcons (congrArg (Value.bool) ((Eq.trans ((if_t hc14).symm) ((if_f hc12).symm)))) (lcons (congrArg ((fun s : List UInt8 => Value.string ⟨⟨s⟩⟩)) ((Eq.trans ((if_t hc14).symm) ((if_f hc12).symm)))) (lcons (congrArg (Value.bool) ((Eq.trans ((if_t hc14).symm) ((if_f hc12).symm)))) rfl))))))))) (econs (rfl) (econs (rfl) (econs (rfl) rfl)))) ?_
            exact fun a W hA hW => ⟨g15, hx15, a15_0, c15_0, (Eq.mp (congrArg (fun l : List (List UInt8) => Rep g15 (.slice (.str)) [.slice a15_0 l.length c15_0] l) ((Eq.trans ((if_t hc14).symm) ((if_f hc12).symm)))) hR15_0), hA.sub (by kernel_rfl), hW.sub (.cons_cons _ (.cons _ (.cons _ (.cons _ .slnil)))), hF⟩
          · replace hF := hF.2 hc14
            refine Ok.seq ?_
            refine Ok.region ?_
            refine Ok.batch 1 [(6, .pointer (some ⟨b3, 0, none⟩)), (7, .int .i64 (parS xbase).2), (8, .pointer (some ⟨b7, 0, none⟩)), (34, .string ⟨⟨xref⟩⟩)] (by kernel_rfl) ?_
            obtain ⟨hp16, hF⟩ := hF
            refine Ok.op rfl (OpOk.callH [.blk b7 (.cells #[.string ⟨⟨(parS xbase).1.1⟩⟩, .string ⟨⟨(parS xbase).1.2.1⟩⟩, .int .i64 (parS xbase).1.2.2.1, .slice a1_0 ((parS xbase).1.2.2.2.1).length c1_0, .string ⟨⟨(parS xbase).1.2.2.2.2.1⟩⟩, .bool (parS xbase).1.2.2.2.2.2.1, .string ⟨⟨(parS xbase).1.2.2.2.2.2.2.1⟩⟩, .bool (parS xbase).1.2.2.2.2.2.2.2] 24)] [.own (.slice none ([] : List (List UInt8)).length 0) 9 1 ([] : List (List UInt8)).length ([]), .blk b3 (.cells #[.string ⟨⟨(parS xbase).1.1⟩⟩, .string ⟨⟨(parS xbase).1.2.1⟩⟩, .int .i64 (parS xbase).1.2.2.1, .slice a1_0 ((parS xbase).1.2.2.2.1).length c1_0, .string ⟨⟨(parS xbase).1.2.2.2.2.1⟩⟩, .bool (parS xbase).1.2.2.2.2.2.1, .string ⟨⟨(parS xbase).1.2.2.2.2.2.2.1⟩⟩, .bool (parS xbase).1.2.2.2.2.2.2.2] 24), .own (.slice none ([] : List (List UInt8)).length 0) 9 1 ([] : List (List UInt8)).length ([])] (enters (by kernel_rfl) (fun _ => by kernel_rfl)) rfl (rtai_c ((parS xbase).1.1, (parS xbase).1.2.1, (parS xbase).1.2.2.1, (parS xbase).1.2.2.2.1, (parS xbase).1.2.2.2.2.1, (parS xbase).1.2.2.2.2.2.1, (parS xbase).1.2.2.2.2.2.2.1, (parS xbase).1.2.2.2.2.2.2.2) xref hR1_0 hG0 hp16) rfl fun g17 _ _ hx17 hV17 => ?_)
            obtain ⟨a17_0, c17_0, rfl, hR17_0, rfl⟩ := hV17
            replace hL6 := hL6.mono hx17.1
            replace hR1_0 := hR1_0.mono hx17.1
            replace hL2 := hL2.mono hx17.1
            replace hG0 := hG0.mono hx17.1
            replace hG3 := hG3.mono hx17.1
            refine Ok.batch 5 [(6, .pointer (some ⟨b3, 0, none⟩)), (7, .int .i64 (parS xbase).2), (8, .pointer (some ⟨b7, 0, none⟩)), (11, .string ⟨⟨(rresV16 xbase xref).1⟩⟩), (12, .bool (rresV16 xbase xref).2.1)] (by kernel_rfl) ?_
            refine Ok.nil ?_
            refine Ok.thenN ?_
            refine Ok.cut (fun a W => ∃ gj37 : Ghost, Gext w0 g17 gj37 ∧ StA 114 [(6, .pointer (some ⟨b3, 0, none⟩)), (7, .int .i64 (parS xbase).2), (8, .pointer (some ⟨b7, 0, none⟩)), (11, .string ⟨⟨(rresV16 xbase xref).1⟩⟩), (12, .bool (rresV16 xbase xref).2.1)] a ∧ StW w0 [.blk b7 (.cells #[.string ⟨⟨(rresV16 xbase xref).2.2.1⟩⟩, .string ⟨⟨(rresV16 xbase xref).2.2.2.1⟩⟩, .int .i64 (rresV16 xbase xref).2.2.2.2.1, .slice a17_0 ((rresV16 xbase xref).2.2.2.2.2.1).length c17_0, .string ⟨⟨(rresV18 xbase xref)⟩⟩, .bool (rresV19 xbase xref), .string ⟨⟨(rresV16 xbase xref).2.2.2.2.2.2.2.2.1⟩⟩, .bool (rresV16 xbase xref).2.2.2.2.2.2.2.2.2] 24), .blk b3 (.cells #[.string ⟨⟨(parS xbase).1.1⟩⟩, .string ⟨⟨(parS xbase).1.2.1⟩⟩, .int .i64 (parS xbase).1.2.2.1, .slice a1_0 ((parS xbase).1.2.2.2.1).length c1_0, .string ⟨⟨(parS xbase).1.2.2.2.2.1⟩⟩, .bool (parS xbase).1.2.2.2.2.2.1, .string ⟨⟨(parS xbase).1.2.2.2.2.2.2.1⟩⟩, .bool (parS xbase).1.2.2.2.2.2.2.2] 24)] gj37 W ∧ rresj37 xbase xref K) ?_ ?_
            ·
              refine Ok.cut (fun a W => ∃ gj38 : Ghost, Gext w0 g17 gj38 ∧ StA 114 [(6, .pointer (some ⟨b3, 0, none⟩)), (7, .int .i64 (parS xbase).2), (8, .pointer (some ⟨b7, 0, none⟩)), (11, .string ⟨⟨(rresV16 xbase xref).1⟩⟩), (12, .bool (rresV16 xbase xref).2.1), (44, .bool (rresV17 xbase xref))] a ∧ StW w0 [.blk b7 (.cells #[.string ⟨⟨(rresV16 xbase xref).2.2.1⟩⟩, .string ⟨⟨(rresV16 xbase xref).2.2.2.1⟩⟩, .int .i64 (rresV16 xbase xref).2.2.2.2.1, .slice a17_0 ((rresV16 xbase xref).2.2.2.2.2.1).length c17_0, .string ⟨⟨(rresV16 xbase xref).2.2.2.2.2.2.1⟩⟩, .bool (rresV16 xbase xref).2.2.2.2.2.2.2.1, .string ⟨⟨(rresV16 xbase xref).2.2.2.2.2.2.2.2.1⟩⟩, .bool (rresV16 xbase xref).2.2.2.2.2.2.2.2.2] 24), .blk b3 (.cells #[.string ⟨⟨(parS xbase).1.1⟩⟩, .string ⟨⟨(parS xbase).1.2.1⟩⟩, .int .i64 (parS xbase).1.2.2.1, .slice a1_0 ((parS xbase).1.2.2.2.1).length c1_0, .string ⟨⟨(parS xbase).1.2.2.2.2.1⟩⟩, .bool (parS xbase).1.2.2.2.2.2.1, .string ⟨⟨(parS xbase).1.2.2.2.2.2.2.1⟩⟩, .bool (parS xbase).1.2.2.2.2.2.2.2] 24)] gj38 W ∧ rresj38 xbase xref K) ?_ ?_
              ·
                refine Ok.region ?_
                refine Ok.batch 1 [(6, .pointer (some ⟨b3, 0, none⟩)), (7, .int .i64 (parS xbase).2), (8, .pointer (some ⟨b7, 0, none⟩)), (11, .string ⟨⟨(rresV16 xbase xref).1⟩⟩), (12, .bool (rresV16 xbase xref).2.1), (38, .string ⟨⟨(rresV16 xbase xref).1⟩⟩)] (by kernel_rfl) ?_
                refine Ok.op rfl (OpOk.step (v := .bool ((rresV16 xbase xref).1 == ([] : List UInt8))) (Yields.strCmp (f := .eql) (a := (rresV16 xbase xref).1) (b := ([] : List UInt8)) (by kernel_rfl) (by kernel_rfl) rfl) rfl rfl ?_)
                refine Ok.batch 1 [(6, .pointer (some ⟨b3, 0, none⟩)), (7, .int .i64 (parS xbase).2), (8, .pointer (some ⟨b7, 0, none⟩)), (11, .string ⟨⟨(rresV16 xbase xref).1⟩⟩), (12, .bool (rresV16 xbase xref).2.1), (40, .bool ((rresV16 xbase xref).1 == ([] : List UInt8)))] (by kernel_rfl) ?_
                refine Ok.boolAt 40 (((rresV16 xbase xref).1 == ([] : List UInt8))) rfl (fun hc34 => ?_) (fun hc34 => ?_)
                · replace hF := hF.1 hc34
                  refine Ok.batch 1 [(6, .pointer (some ⟨b3, 0, none⟩)), (7, .int .i64 (parS xbase).2), (8, .pointer (some ⟨b7, 0, none⟩)), (11, .string ⟨⟨(rresV16 xbase xref).1⟩⟩), (12, .bool (rresV16 xbase xref).2.1), (40, .bool true), (41, .pointer (some ⟨b7, 5, none⟩))] (by kernel_rfl) ?_
                  refine Ok.opYes (j := 2) (d := 40) (want := true) (b := true) rfl (by kernel_rfl) (by kernel_rfl) rfl (OpOk.step (v := .bool (rresV16 xbase xref).2.2.2.2.2.2.2.1) (Yields.load 0 rfl rfl Tryz.underlying4 rfl (by kernel_rfl)) rfl rfl ?_)
                  refine Ok.batch 2 [(6, .pointer (some ⟨b3, 0, none⟩)), (7, .int .i64 (parS xbase).2), (8, .pointer (some ⟨b7, 0, none⟩)), (11, .string ⟨⟨(rresV16 xbase xref).1⟩⟩), (12, .bool (rresV16 xbase xref).2.1), (44, .bool (!((rresV16 xbase xref).2.2.2.2.2.2.2.1)))] (by kernel_rfl) ?_
                  refine Ok.nil ?_
                  refine Ok.thenN ?_
                  refine Ok.reval 44 rfl (show (.bool (!((rresV16 xbase xref).2.2.2.2.2.2.2.1)) : Value) = .bool (rresV17 xbase xref) from congrArg (Value.bool) (mand_t hc34)) ?_
                  exact fun a W hA hW => ⟨g17, (Gext.refl w0 g17), hA.sub (by kernel_rfl), hW.sub (.cons_cons _ (.cons _ (.cons_cons _ (.cons _ .slnil)))), hF⟩
                · replace hF := hF.2 hc34
                  refine Ok.batch 4 [(6, .pointer (some ⟨b3, 0, none⟩)), (7, .int .i64 (parS xbase).2), (8, .pointer (some ⟨b7, 0, none⟩)), (11, .string ⟨⟨(rresV16 xbase xref).1⟩⟩), (12, .bool (rresV16 xbase xref).2.1), (44, .bool false)] (by kernel_rfl) ?_
                  refine Ok.nil ?_
                  refine Ok.thenN ?_
                  refine Ok.reval 44 rfl (show (.bool false : Value) = .bool (rresV17 xbase xref) from congrArg (Value.bool) (mand_f hc34)) ?_
                  exact fun a W hA hW => ⟨g17, (Gext.refl w0 g17), hA.sub (by kernel_rfl), hW.sub (.cons_cons _ (.cons _ (.cons_cons _ (.cons _ .slnil)))), hF⟩
              ·
                clear hF
                rintro a W ⟨gj38, hxj38, hA, hW, hF⟩
                refine (?_ : Ok _ _ _ _ _ _) a W hA hW
                clear hA hW
                replace hR17_0 := hR17_0.mono hxj38.1
                replace hR1_0 := hR1_0.mono hxj38.1
                replace hG0 := hG0.mono hxj38.1
                replace hG3 := hG3.mono hxj38.1
                refine Ok.cond (b := (rresV17 xbase xref)) rfl (fun hc33 => ?_) (fun hc33 => ?_)
                · replace hF := hF.1 hc33
                  refine Ok.mix [] [] [.blk b3 (.cells #[.string ⟨⟨(parS xbase).1.1⟩⟩, .string ⟨⟨(parS xbase).1.2.1⟩⟩, .int .i64 (parS xbase).1.2.2.1, .slice a1_0 ((parS xbase).1.2.2.2.1).length c1_0, .string ⟨⟨(parS xbase).1.2.2.2.2.1⟩⟩, .bool (parS xbase).1.2.2.2.2.2.1, .string ⟨⟨(parS xbase).1.2.2.2.2.2.2.1⟩⟩, .bool (parS xbase).1.2.2.2.2.2.2.2] 24)] [(0, true), (1, true), (2, true), (3, true), (4, true), (5, false), (6, true), (7, false)] (by kernel_rfl) (by kernel_rfl) (.cons _ (.cons_cons _ .slnil)) ?_
                  refine OkM.batch 1 [(6, .pointer (some ⟨b3, 0, none⟩)), (7, .int .i64 (parS xbase).2), (8, .pointer (some ⟨b7, 0, none⟩)), (11, .string ⟨⟨(rresV16 xbase xref).1⟩⟩), (12, .bool (rresV16 xbase xref).2.1), (45, .pointer (some ⟨b3, 4, none⟩))] (by kernel_rfl) ?_
                  refine OkM.head rfl rfl (show _ = [.blk b3 (.cells #[.string ⟨⟨(parS xbase).1.1⟩⟩, .string ⟨⟨(parS xbase).1.2.1⟩⟩, .int .i64 (parS xbase).1.2.2.1, .slice a1_0 ((parS xbase).1.2.2.2.1).length c1_0, .string ⟨⟨(parS xbase).1.2.2.2.2.1⟩⟩, .bool (parS xbase).1.2.2.2.2.2.1, .string ⟨⟨(parS xbase).1.2.2.2.2.2.2.1⟩⟩, .bool (parS xbase).1.2.2.2.2.2.2.2] 24)] from rfl) (OpQ.step (v := .string ⟨⟨(parS xbase).1.2.2.2.2.1⟩⟩) (Yields.load 0 rfl rfl Tryz.underlying9 rfl (by kernel_rfl)) rfl rfl ?_)
                  refine OkM.batch 1 [(6, .pointer (some ⟨b3, 0, none⟩)), (7, .int .i64 (parS xbase).2), (8, .pointer (some ⟨b7, 0, none⟩)), (11, .string ⟨⟨(rresV16 xbase xref).1⟩⟩), (12, .bool (rresV16 xbase xref).2.1), (46, .string ⟨⟨(parS xbase).1.2.2.2.2.1⟩⟩), (47, .pointer (some ⟨b3, 5, none⟩))] (by kernel_rfl) ?_
                  refine OkM.head rfl rfl (show _ = [.blk b3 (.cells #[.string ⟨⟨(parS xbase).1.1⟩⟩, .string ⟨⟨(parS xbase).1.2.1⟩⟩, .int .i64 (parS xbase).1.2.2.1, .slice a1_0 ((parS xbase).1.2.2.2.1).length c1_0, .string ⟨⟨(parS xbase).1.2.2.2.2.1⟩⟩, .bool (parS xbase).1.2.2.2.2.2.1, .string ⟨⟨(parS xbase).1.2.2.2.2.2.2.1⟩⟩, .bool (parS xbase).1.2.2.2.2.2.2.2] 24)] from rfl) (OpQ.step (v := .bool (parS xbase).1.2.2.2.2.2.1) (Yields.load 0 rfl rfl Tryz.underlying4 rfl (by kernel_rfl)) rfl rfl ?_)
                  refine OkM.batch 1 [(6, .pointer (some ⟨b3, 0, none⟩)), (7, .int .i64 (parS xbase).2), (8, .pointer (some ⟨b7, 0, none⟩)), (11, .string ⟨⟨(rresV16 xbase xref).1⟩⟩), (12, .bool (rresV16 xbase xref).2.1), (46, .string ⟨⟨(parS xbase).1.2.2.2.2.1⟩⟩), (48, .bool (parS xbase).1.2.2.2.2.2.1), (49, .pointer (some ⟨b7, 4, none⟩))] (by kernel_rfl) ?_
                  refine OkM.tail rfl rfl (OpOk.store (k := 1) (v := .string ⟨⟨(parS xbase).1.2.2.2.2.1⟩⟩) (H' := [.blk b7 (.cells #[.string ⟨⟨(rresV16 xbase xref).2.2.1⟩⟩, .string ⟨⟨(rresV16 xbase xref).2.2.2.1⟩⟩, .int .i64 (rresV16 xbase xref).2.2.2.2.1, .slice a17_0 ((rresV16 xbase xref).2.2.2.2.2.1).length c17_0, .string ⟨⟨(parS xbase).1.2.2.2.2.1⟩⟩, .bool (rresV16 xbase xref).2.2.2.2.2.2.2.1, .string ⟨⟨(rresV16 xbase xref).2.2.2.2.2.2.2.2.1⟩⟩, .bool (rresV16 xbase xref).2.2.2.2.2.2.2.2.2] 24), .blk b3 (.cells #[.string ⟨⟨(parS xbase).1.1⟩⟩, .string ⟨⟨(parS xbase).1.2.1⟩⟩, .int .i64 (parS xbase).1.2.2.1, .slice a1_0 ((parS xbase).1.2.2.2.1).length c1_0, .string ⟨⟨(parS xbase).1.2.2.2.2.1⟩⟩, .bool (parS xbase).1.2.2.2.2.2.1, .string ⟨⟨(parS xbase).1.2.2.2.2.2.2.1⟩⟩, .bool (parS xbase).1.2.2.2.2.2.2.2] 24)]) 0 rfl rfl rfl (by kernel_rfl) (by kernel_rfl) (by kernel_rfl) (by kernel_rfl) (by kernel_rfl) ?_)
                  refine OkM.leaf (i := 5) (show _ = [.blk b3 (.cells #[.string ⟨⟨(parS xbase).1.1⟩⟩, .string ⟨⟨(parS xbase).1.2.1⟩⟩, .int .i64 (parS xbase).1.2.2.1, .slice a1_0 ((parS xbase).1.2.2.2.1).length c1_0, .string ⟨⟨(parS xbase).1.2.2.2.2.1⟩⟩, .bool (parS xbase).1.2.2.2.2.2.1, .string ⟨⟨(parS xbase).1.2.2.2.2.2.2.1⟩⟩, .bool (parS xbase).1.2.2.2.2.2.2.2] 24)] from rfl) (Gle.refl _) (.cons _ (.cons_cons _ .slnil)) ?_
                  refine OkM.batch 1 [(6, .pointer (some ⟨b3, 0, none⟩)), (7, .int .i64 (parS xbase).2), (8, .pointer (some ⟨b7, 0, none⟩)), (11, .string ⟨⟨(rresV16 xbase xref).1⟩⟩), (12, .bool (rresV16 xbase xref).2.1), (48, .bool (parS xbase).1.2.2.2.2.2.1), (50, .pointer (some ⟨b7, 5, none⟩))] (by kernel_rfl) ?_
                  refine OkM.tail rfl rfl (OpOk.store (k := 1) (v := .bool (parS xbase).1.2.2.2.2.2.1) (H' := [.blk b7 (.cells #[.string ⟨⟨(rresV16 xbase xref).2.2.1⟩⟩, .string ⟨⟨(rresV16 xbase xref).2.2.2.1⟩⟩, .int .i64 (rresV16 xbase xref).2.2.2.2.1, .slice a17_0 ((rresV16 xbase xref).2.2.2.2.2.1).length c17_0, .string ⟨⟨(parS xbase).1.2.2.2.2.1⟩⟩, .bool (parS xbase).1.2.2.2.2.2.1, .string ⟨⟨(rresV16 xbase xref).2.2.2.2.2.2.2.2.1⟩⟩, .bool (rresV16 xbase xref).2.2.2.2.2.2.2.2.2] 24), .blk b3 (.cells #[.string ⟨⟨(parS xbase).1.1⟩⟩, .string ⟨⟨(parS xbase).1.2.1⟩⟩, .int .i64 (parS xbase).1.2.2.1, .slice a1_0 ((parS xbase).1.2.2.2.1).length c1_0, .string ⟨⟨(parS xbase).1.2.2.2.2.1⟩⟩, .bool (parS xbase).1.2.2.2.2.2.1, .string ⟨⟨(parS xbase).1.2.2.2.2.2.2.1⟩⟩, .bool (parS xbase).1.2.2.2.2.2.2.2] 24)]) 0 rfl rfl rfl (by kernel_rfl) (by kernel_rfl) (by kernel_rfl) (by kernel_rfl) (by kernel_rfl) ?_)
                  refine OkM.leaf (i := 7) (show _ = [.blk b3 (.cells #[.string ⟨⟨(parS xbase).1.1⟩⟩, .string ⟨⟨(parS xbase).1.2.1⟩⟩, .int .i64 (parS xbase).1.2.2.1, .slice a1_0 ((parS xbase).1.2.2.2.1).length c1_0, .string ⟨⟨(parS xbase).1.2.2.2.2.1⟩⟩, .bool (parS xbase).1.2.2.2.2.2.1, .string ⟨⟨(parS xbase).1.2.2.2.2.2.2.1⟩⟩, .bool (parS xbase).1.2.2.2.2.2.2.2] 24)] from rfl) (Gle.refl _) (.cons _ (.cons_cons _ .slnil)) ?_
                  refine OkM.nil ?_
                  refine Ok.thenN ?_
                  refine Ok.heapEq (H' := [.blk b7 (.cells #[.string ⟨⟨(rresV16 xbase xref).2.2.1⟩⟩, .string ⟨⟨(rresV16 xbase xref).2.2.2.1⟩⟩, .int .i64 (rresV16 xbase xref).2.2.2.2.1, .slice a17_0 ((rresV16 xbase xref).2.2.2.2.2.1).length c17_0, .string ⟨⟨(rresV18 xbase xref)⟩⟩, .bool (rresV19 xbase xref), .string ⟨⟨(rresV16 xbase xref).2.2.2.2.2.2.2.2.1⟩⟩, .bool (rresV16 xbase xref).2.2.2.2.2.2.2.2.2] 24), .blk b3 (.cells #[.string ⟨⟨(parS xbase).1.1⟩⟩, .string ⟨⟨(parS xbase).1.2.1⟩⟩, .int .i64 (parS xbase).1.2.2.1, .slice a1_0 ((parS xbase).1.2.2.2.1).length c1_0, .string ⟨⟨(parS xbase).1.2.2.2.2.1⟩⟩, .bool (parS xbase).1.2.2.2.2.2.1, .string ⟨⟨(parS xbase).1.2.2.2.2.2.2.1⟩⟩, .bool (parS xbase).1.2.2.2.2.2.2.2] 24)]) (econs (congrArg (fun l : List Value => Ent.blk b7 (.cells ⟨l⟩ 24)) (lcons (rfl) (lcons (rfl) (lcons (rfl) (lcons (rfl) (lcons (congrArg ((fun s : List UInt8 => Value.string ⟨⟨s⟩⟩)) ((if_t hc33).symm)) (lcons (congrArg (Value.bool) ((if_t hc33).symm)) (lcons (rfl) (lcons (rfl) rfl))))))))) (econs (rfl) rfl)) ?_
                  exact fun a W hA hW => ⟨gj38, hxj38, hA.sub (by kernel_rfl), hW, hF⟩
                · replace hF := hF.2 hc33
                  refine Ok.skip ?_
                  refine Ok.thenN ?_
                  refine Ok.heapEq (H' := [.blk b7 (.cells #[.string ⟨⟨(rresV16 xbase xref).2.2.1⟩⟩, .string ⟨⟨(rresV16 xbase xref).2.2.2.1⟩⟩, .int .i64 (rresV16 xbase xref).2.2.2.2.1, .slice a17_0 ((rresV16 xbase xref).2.2.2.2.2.1).length c17_0, .string ⟨⟨(rresV18 xbase xref)⟩⟩, .bool (rresV19 xbase xref), .string ⟨⟨(rresV16 xbase xref).2.2.2.2.2.2.2.2.1⟩⟩, .bool (rresV16 xbase xref).2.2.2.2.2.2.2.2.2] 24), .blk b3 (.cells #[.string ⟨⟨(parS xbase).1.1⟩⟩, .string ⟨⟨(parS xbase).1.2.1⟩⟩, .int .i64 (parS xbase).1.2.2.1, .slice a1_0 ((parS xbase).1.2.2.2.1).length c1_0, .string ⟨⟨(parS xbase).1.2.2.2.2.1⟩⟩, .bool (parS xbase).1.2.2.2.2.2.1, .string ⟨⟨(parS xbase).1.2.2.2.2.2.2.1⟩⟩, .bool (parS xbase).1.2.2.2.2.2.2.2] 24)]) (econs (congrArg (fun l : List Value => Ent.blk b7 (.cells ⟨l⟩ 24)) (lcons (rfl) (lcons (rfl) (lcons (rfl) (lcons (rfl) (lcons (congrArg ((fun s : List UInt8 => Value.string ⟨⟨s⟩⟩)) ((if_f hc33).symm)) (lcons (congrArg (Value.bool) ((if_f hc33).symm)) (lcons (rfl) (lcons (rfl) rfl))))))))) (econs (rfl) rfl)) ?_
                  exact fun a W hA hW => ⟨gj38, hxj38, hA.sub (by kernel_rfl), hW, hF⟩
            ·
              clear hF
              rintro a W ⟨gj37, hxj37, hA, hW, hF⟩
              refine (?_ : Ok _ _ _ _ _ _) a W hA hW
              clear hA hW
              replace hR17_0 := hR17_0.mono hxj37.1
              replace hR1_0 := hR1_0.mono hxj37.1
              replace hG0 := hG0.mono hxj37.1
              replace hG3 := hG3.mono hxj37.1
              refine Ok.seq ?_
              refine Ok.region ?_
              refine Ok.batch 1 [(6, .pointer (some ⟨b3, 0, none⟩)), (7, .int .i64 (parS xbase).2), (8, .pointer (some ⟨b7, 0, none⟩)), (11, .string ⟨⟨(rresV16 xbase xref).1⟩⟩), (12, .bool (rresV16 xbase xref).2.1), (52, .string ⟨⟨(rresV16 xbase xref).1⟩⟩)] (by kernel_rfl) ?_
              refine Ok.op rfl (OpOk.callG (v := .string ⟨⟨(tpfM (rresV16 xbase xref).1 ([47] : List UInt8))⟩⟩) (enters (by kernel_rfl) (fun _ => by kernel_rfl)) (fun W hW => tpf_c (rresV16 xbase xref).1 ([47] : List UInt8)) rfl ?_)
              obtain ⟨hp18, hF⟩ := hF
              refine Ok.op rfl (OpOk.callH [] [.blk b7 (.cells #[.string ⟨⟨(rresV16 xbase xref).2.2.1⟩⟩, .string ⟨⟨(rresV16 xbase xref).2.2.2.1⟩⟩, .int .i64 (rresV16 xbase xref).2.2.2.2.1, .slice a17_0 ((rresV16 xbase xref).2.2.2.2.2.1).length c17_0, .string ⟨⟨(rresV18 xbase xref)⟩⟩, .bool (rresV19 xbase xref), .string ⟨⟨(rresV16 xbase xref).2.2.2.2.2.2.2.2.1⟩⟩, .bool (rresV16 xbase xref).2.2.2.2.2.2.2.2.2] 24), .blk b3 (.cells #[.string ⟨⟨(parS xbase).1.1⟩⟩, .string ⟨⟨(parS xbase).1.2.1⟩⟩, .int .i64 (parS xbase).1.2.2.1, .slice a1_0 ((parS xbase).1.2.2.2.1).length c1_0, .string ⟨⟨(parS xbase).1.2.2.2.2.1⟩⟩, .bool (parS xbase).1.2.2.2.2.2.1, .string ⟨⟨(parS xbase).1.2.2.2.2.2.2.1⟩⟩, .bool (parS xbase).1.2.2.2.2.2.2.2] 24)] (enters (by kernel_rfl) (fun _ => by kernel_rfl)) rfl (rseg_c (tpfM (rresV16 xbase xref).1 ([47] : List UInt8)) hG0 hp18) rfl fun g19 _ _ hx19 hV19 => ?_)
              obtain ⟨a19_0, c19_0, rfl, hR19_0, rfl⟩ := hV19
              replace hR17_0 := hR17_0.mono hx19.1
              replace hR1_0 := hR1_0.mono hx19.1
              replace hG0 := hG0.mono hx19.1
              replace hG3 := hG3.mono hx19.1
              refine Ok.batch 5 [(6, .pointer (some ⟨b3, 0, none⟩)), (7, .int .i64 (parS xbase).2), (8, .pointer (some ⟨b7, 0, none⟩)), (11, .string ⟨⟨(rresV16 xbase xref).1⟩⟩), (12, .bool (rresV16 xbase xref).2.1), (13, .slice a19_0 ((rsegS (tpfM (rresV16 xbase xref).1 ([47] : List UInt8))).1).length c19_0), (14, .bool ((rsegS (tpfM (rresV16 xbase xref).1 ([47] : List UInt8))).2))] (by kernel_rfl) ?_
              refine Ok.nil ?_
              refine Ok.thenN ?_
              refine Ok.seq ?_
              refine Ok.seq ?_
              refine Ok.region ?_
              refine Ok.batch 3 [(6, .pointer (some ⟨b3, 0, none⟩)), (7, .int .i64 (parS xbase).2), (8, .pointer (some ⟨b7, 0, none⟩)), (11, .string ⟨⟨(rresV16 xbase xref).1⟩⟩), (13, .slice a19_0 ((rsegS (tpfM (rresV16 xbase xref).1 ([47] : List UInt8))).1).length c19_0), (14, .bool ((rsegS (tpfM (rresV16 xbase xref).1 ([47] : List UInt8))).2)), (59, .bool (!((rresV16 xbase xref).2.1)))] (by kernel_rfl) ?_
              refine Ok.midway 3 [(6, .pointer (some ⟨b3, 0, none⟩)), (7, .int .i64 (parS xbase).2), (8, .pointer (some ⟨b7, 0, none⟩)), (11, .string ⟨⟨(rresV16 xbase xref).1⟩⟩), (13, .slice a19_0 ((rsegS (tpfM (rresV16 xbase xref).1 ([47] : List UInt8))).1).length c19_0), (62, .bool ((!((rresV16 xbase xref).2.1)) || (!((rsegS (tpfM (rresV16 xbase xref).1 ([47] : List UInt8))).2))))] (fun hR20 => ?_) ?_
              · refine Ok.boolAt 59 (!((rresV16 xbase xref).2.1)) rfl (fun hc21 => ?_) (fun hc21 => ?_)
                · skip
                  refine Ok.batch 3 [(6, .pointer (some ⟨b3, 0, none⟩)), (7, .int .i64 (parS xbase).2), (8, .pointer (some ⟨b7, 0, none⟩)), (11, .string ⟨⟨(rresV16 xbase xref).1⟩⟩), (13, .slice a19_0 ((rsegS (tpfM (rresV16 xbase xref).1 ([47] : List UInt8))).1).length c19_0), (62, .bool true)] (by kernel_rfl) ?_
                  refine Ok.reval 62 rfl (show (.bool true : Value) = .bool ((!((rresV16 xbase xref).2.1)) || (!((rsegS (tpfM (rresV16 xbase xref).1 ([47] : List UInt8))).2))) from congrArg Value.bool (mor_t hc21)) ?_
                  refine Ok.batch 0 [(6, .pointer (some ⟨b3, 0, none⟩)), (7, .int .i64 (parS xbase).2), (8, .pointer (some ⟨b7, 0, none⟩)), (11, .string ⟨⟨(rresV16 xbase xref).1⟩⟩), (13, .slice a19_0 ((rsegS (tpfM (rresV16 xbase xref).1 ([47] : List UInt8))).1).length c19_0), (62, .bool ((!((rresV16 xbase xref).2.1)) || (!((rsegS (tpfM (rresV16 xbase xref).1 ([47] : List UInt8))).2))))] (by kernel_rfl) ?_
                  exact hR20
                · skip
                  refine Ok.batch 3 [(6, .pointer (some ⟨b3, 0, none⟩)), (7, .int .i64 (parS xbase).2), (8, .pointer (some ⟨b7, 0, none⟩)), (11, .string ⟨⟨(rresV16 xbase xref).1⟩⟩), (13, .slice a19_0 ((rsegS (tpfM (rresV16 xbase xref).1 ([47] : List UInt8))).1).length c19_0), (62, .bool (!((rsegS (tpfM (rresV16 xbase xref).1 ([47] : List UInt8))).2)))] (by kernel_rfl) ?_
                  refine Ok.reval 62 rfl (show (.bool (!((rsegS (tpfM (rresV16 xbase xref).1 ([47] : List UInt8))).2)) : Value) = .bool ((!((rresV16 xbase xref).2.1)) || (!((rsegS (tpfM (rresV16 xbase xref).1 ([47] : List UInt8))).2))) from congrArg Value.bool (mor_f hc21)) ?_
                  refine Ok.batch 0 [(6, .pointer (some ⟨b3, 0, none⟩)), (7, .int .i64 (parS xbase).2), (8, .pointer (some ⟨b7, 0, none⟩)), (11, .string ⟨⟨(rresV16 xbase xref).1⟩⟩), (13, .slice a19_0 ((rsegS (tpfM (rresV16 xbase xref).1 ([47] : List UInt8))).1).length c19_0), (62, .bool ((!((rresV16 xbase xref).2.1)) || (!((rsegS (tpfM (rresV16 xbase xref).1 ([47] : List UInt8))).2))))] (by kernel_rfl) ?_
                  exact hR20
              refine Ok.nil ?_
              refine Ok.thenN ?_
              refine Ok.cond (b := ((!((rresV16 xbase xref).2.1)) || (!((rsegS (tpfM (rresV16 xbase xref).1 ([47] : List UInt8))).2)))) rfl (fun hc22 => ?_) (fun hc22 => ?_)
              · replace hF := hF.1 hc22
                refine Ok.seq ?_
                refine Ok.region ?_
                refine Ok.batch 2 [(4, .string ⟨⟨([] : List UInt8)⟩⟩), (5, .int .i64 3)] (by kernel_rfl) ?_
                refine Ok.nil ?_
                refine Ok.thenN ?_
                refine Ok.ret ?_
                refine Ok.thenR ?_
                refine Ok.blockR ?_
                refine Ok.thenR ?_
                exact Ok.resP (vs := [.string ⟨⟨([] : List UInt8)⟩⟩, .int .i64 3]) [] [] (by decide) rfl (.inl rfl) rfl (.cons (.tmp rfl) (.cons (.tmp rfl) .nil)) (((hx1.trans hx17).trans hxj37).trans hx19) ⟨([] : List UInt8), 3, rfl, rfl, hF⟩
              · replace hF := hF.2 hc22
                refine Ok.skip ?_
                refine Ok.thenN ?_
                refine Ok.cut (fun a W => ∃ gj53 : Ghost, Gext w0 g19 gj53 ∧ ∃ (ax13j53 : Option Addr) (cx13j53 : Nat), Rep gj53 (.slice (.str)) [.slice ax13j53 (rresV21 xbase xref).length cx13j53] (rresV21 xbase xref) ∧ StA 114 [(7, .int .i64 (parS xbase).2), (8, .pointer (some ⟨b7, 0, none⟩)), (11, .string ⟨⟨(rresV16 xbase xref).1⟩⟩), (13, .slice ax13j53 (rresV21 xbase xref).length cx13j53)] a ∧ StW w0 [.blk b7 (.cells #[.string ⟨⟨(rresV16 xbase xref).2.2.1⟩⟩, .string ⟨⟨(rresV16 xbase xref).2.2.2.1⟩⟩, .int .i64 (rresV16 xbase xref).2.2.2.2.1, .slice a17_0 ((rresV16 xbase xref).2.2.2.2.2.1).length c17_0, .string ⟨⟨(rresV18 xbase xref)⟩⟩, .bool (rresV19 xbase xref), .string ⟨⟨(rresV16 xbase xref).2.2.2.2.2.2.2.2.1⟩⟩, .bool (rresV16 xbase xref).2.2.2.2.2.2.2.2.2] 24)] gj53 W ∧ rresj53 xbase xref K) ?_ ?_
                ·
                  refine Ok.cut (fun a W => ∃ gj54 : Ghost, Gext w0 g19 gj54 ∧ StA 114 [(6, .pointer (some ⟨b3, 0, none⟩)), (7, .int .i64 (parS xbase).2), (8, .pointer (some ⟨b7, 0, none⟩)), (11, .string ⟨⟨(rresV16 xbase xref).1⟩⟩), (13, .slice a19_0 ((rsegS (tpfM (rresV16 xbase xref).1 ([47] : List UInt8))).1).length c19_0), (69, .bool (rresV20 xbase xref))] a ∧ StW w0 [.blk b7 (.cells #[.string ⟨⟨(rresV16 xbase xref).2.2.1⟩⟩, .string ⟨⟨(rresV16 xbase xref).2.2.2.1⟩⟩, .int .i64 (rresV16 xbase xref).2.2.2.2.1, .slice a17_0 ((rresV16 xbase xref).2.2.2.2.2.1).length c17_0, .string ⟨⟨(rresV18 xbase xref)⟩⟩, .bool (rresV19 xbase xref), .string ⟨⟨(rresV16 xbase xref).2.2.2.2.2.2.2.2.1⟩⟩, .bool (rresV16 xbase xref).2.2.2.2.2.2.2.2.2] 24), .blk b3 (.cells #[.string ⟨⟨(parS xbase).1.1⟩⟩, .string ⟨⟨(parS xbase).1.2.1⟩⟩, .int .i64 (parS xbase).1.2.2.1, .slice a1_0 ((parS xbase).1.2.2.2.1).length c1_0, .string ⟨⟨(parS xbase).1.2.2.2.2.1⟩⟩, .bool (parS xbase).1.2.2.2.2.2.1, .string ⟨⟨(parS xbase).1.2.2.2.2.2.2.1⟩⟩, .bool (parS xbase).1.2.2.2.2.2.2.2] 24)] gj54 W ∧ rresj54 xbase xref K) ?_ ?_
                  ·
                    refine Ok.region ?_
                    refine Ok.batch 1 [(6, .pointer (some ⟨b3, 0, none⟩)), (7, .int .i64 (parS xbase).2), (8, .pointer (some ⟨b7, 0, none⟩)), (11, .string ⟨⟨(rresV16 xbase xref).1⟩⟩), (13, .slice a19_0 ((rsegS (tpfM (rresV16 xbase xref).1 ([47] : List UInt8))).1).length c19_0), (63, .string ⟨⟨(rresV16 xbase xref).1⟩⟩)] (by kernel_rfl) ?_
                    refine Ok.op rfl (OpOk.step (v := .bool (!((rresV16 xbase xref).1 == ([] : List UInt8)))) (Yields.strCmp (f := .neq) (a := (rresV16 xbase xref).1) (b := ([] : List UInt8)) (by kernel_rfl) (by kernel_rfl) rfl) rfl rfl ?_)
                    refine Ok.batch 1 [(6, .pointer (some ⟨b3, 0, none⟩)), (7, .int .i64 (parS xbase).2), (8, .pointer (some ⟨b7, 0, none⟩)), (11, .string ⟨⟨(rresV16 xbase xref).1⟩⟩), (13, .slice a19_0 ((rsegS (tpfM (rresV16 xbase xref).1 ([47] : List UInt8))).1).length c19_0), (65, .bool (!((rresV16 xbase xref).1 == ([] : List UInt8))))] (by kernel_rfl) ?_
                    refine Ok.boolAt 65 (!((rresV16 xbase xref).1 == ([] : List UInt8))) rfl (fun hc32 => ?_) (fun hc32 => ?_)
                    · replace hF := hF.1 hc32
                      refine Ok.batch 1 [(6, .pointer (some ⟨b3, 0, none⟩)), (7, .int .i64 (parS xbase).2), (8, .pointer (some ⟨b7, 0, none⟩)), (11, .string ⟨⟨(rresV16 xbase xref).1⟩⟩), (13, .slice a19_0 ((rsegS (tpfM (rresV16 xbase xref).1 ([47] : List UInt8))).1).length c19_0), (65, .bool true), (66, .string ⟨⟨(rresV16 xbase xref).1⟩⟩)] (by kernel_rfl) ?_
                      refine Ok.opYes (j := 2) (d := 65) (want := true) (b := true) rfl (by kernel_rfl) (by kernel_rfl) rfl (OpOk.callG (v := .bool (hpfM (rresV16 xbase xref).1 ([47] : List UInt8))) (enters (by kernel_rfl) (fun _ => by kernel_rfl)) (fun W hW => hpf_c (rresV16 xbase xref).1 ([47] : List UInt8)) rfl ?_)
                      refine Ok.batch 2 [(6, .pointer (some ⟨b3, 0, none⟩)), (7, .int .i64 (parS xbase).2), (8, .pointer (some ⟨b7, 0, none⟩)), (11, .string ⟨⟨(rresV16 xbase xref).1⟩⟩), (13, .slice a19_0 ((rsegS (tpfM (rresV16 xbase xref).1 ([47] : List UInt8))).1).length c19_0), (69, .bool (!(hpfM (rresV16 xbase xref).1 ([47] : List UInt8))))] (by kernel_rfl) ?_
                      refine Ok.nil ?_
                      refine Ok.thenN ?_
                      refine Ok.reval 69 rfl (show (.bool (!(hpfM (rresV16 xbase xref).1 ([47] : List UInt8))) : Value) = .bool (rresV20 xbase xref) from congrArg (Value.bool) (mand_t hc32)) ?_
                      exact fun a W hA hW => ⟨g19, (Gext.refl w0 g19), hA.sub (by kernel_rfl), hW, hF⟩
                    · replace hF := hF.2 hc32
                      refine Ok.batch 4 [(6, .pointer (some ⟨b3, 0, none⟩)), (7, .int .i64 (parS xbase).2), (8, .pointer (some ⟨b7, 0, none⟩)), (11, .string ⟨⟨(rresV16 xbase xref).1⟩⟩), (13, .slice a19_0 ((rsegS (tpfM (rresV16 xbase xref).1 ([47] : List UInt8))).1).length c19_0), (69, .bool false)] (by kernel_rfl) ?_
                      refine Ok.nil ?_
                      refine Ok.thenN ?_
                      refine Ok.reval 69 rfl (show (.bool false : Value) = .bool (rresV20 xbase xref) from congrArg (Value.bool) (mand_f hc32)) ?_
                      exact fun a W hA hW => ⟨g19, (Gext.refl w0 g19), hA.sub (by kernel_rfl), hW, hF⟩
                  ·
                    clear hF
                    rintro a W ⟨gj54, hxj54, hA, hW, hF⟩
                    refine (?_ : Ok _ _ _ _ _ _) a W hA hW
                    clear hA hW
                    replace hR19_0 := hR19_0.mono hxj54.1
                    replace hR17_0 := hR17_0.mono hxj54.1
                    replace hR1_0 := hR1_0.mono hxj54.1
                    replace hG0 := hG0.mono hxj54.1
                    replace hG3 := hG3.mono hxj54.1
                    refine Ok.cond (b := (rresV20 xbase xref)) rfl (fun hc26 => ?_) (fun hc26 => ?_)
                    · replace hF := hF.1 hc26
                      refine Ok.region ?_
                      have hL27 : RepL gj54 (.str) ([] : List Value) ([] : List (List UInt8)) := rfl
                      refine Ok.op rfl (OpOk.lit (E := 9) (.str) ([] : List (List UInt8)) ([] : List Value) (by kernel_rfl) (by kernel_rfl) rfl (by kernel_rfl) hL27 rfl fun b27 => ?_)
                      refine Ok.batch 1 [(6, .pointer (some ⟨b3, 0, none⟩)), (7, .int .i64 (parS xbase).2), (8, .pointer (some ⟨b7, 0, none⟩)), (11, .string ⟨⟨(rresV16 xbase xref).1⟩⟩), (13, .slice a19_0 ((rsegS (tpfM (rresV16 xbase xref).1 ([47] : List UInt8))).1).length c19_0), (70, .slice (some ⟨b27, 0, none⟩) ([] : List (List UInt8)).length 0), (71, .pointer (some ⟨b3, 3, none⟩))] (by kernel_rfl) ?_
                      refine Ok.op rfl (OpOk.step (v := .slice a1_0 ((parS xbase).1.2.2.2.1).length c1_0) (Yields.load 2 rfl rfl Tryz.underlying22 rfl (by kernel_rfl)) rfl rfl ?_)
                      refine Ok.batch 1 [(7, .int .i64 (parS xbase).2), (8, .pointer (some ⟨b7, 0, none⟩)), (11, .string ⟨⟨(rresV16 xbase xref).1⟩⟩), (13, .slice a19_0 ((rsegS (tpfM (rresV16 xbase xref).1 ([47] : List UInt8))).1).length c19_0), (70, .slice (some ⟨b27, 0, none⟩) ([] : List (List UInt8)).length 0), (72, .slice a1_0 ((parS xbase).1.2.2.2.1).length c1_0), (73, .pointer (some ⟨b3, 3, none⟩))] (by kernel_rfl) ?_
                      refine Ok.op rfl (OpOk.step (v := .slice a1_0 ((parS xbase).1.2.2.2.1).length c1_0) (Yields.load 2 rfl rfl Tryz.underlying22 rfl (by kernel_rfl)) rfl rfl ?_)
                      refine Ok.batch 2 [(7, .int .i64 (parS xbase).2), (8, .pointer (some ⟨b7, 0, none⟩)), (11, .string ⟨⟨(rresV16 xbase xref).1⟩⟩), (13, .slice a19_0 ((rsegS (tpfM (rresV16 xbase xref).1 ([47] : List UInt8))).1).length c19_0), (70, .slice (some ⟨b27, 0, none⟩) ([] : List (List UInt8)).length 0), (72, .slice a1_0 ((parS xbase).1.2.2.2.1).length c1_0), (76, .int .i64 (IntKind.wrap .i64 ((((parS xbase).1.2.2.2.1).length : Int) - 1)))] (by kernel_rfl) ?_
                      obtain ⟨h028, h128, h228, hF⟩ := hF
                      refine Ok.op rfl (OpOk.sliceRo (e := .str) (l := 0) (h := (IntKind.wrap .i64 ((((parS xbase).1.2.2.2.1).length : Int) - 1))) rfl Tryz.underlying22 (by kernel_rfl) (.inr ⟨rfl, rfl⟩) (.inl ⟨_, _, rfl, rfl⟩) hR1_0 h028 h128 h228 rfl (((parS xbase).1.2.2.2.1).take (Int.toNat (IntKind.wrap .i64 ((((parS xbase).1.2.2.2.1).length : Int) - 1)))) (by simp) fun a28 c28 hR28 => ?_)
                      obtain ⟨hb29, hF⟩ := hF
                      refine Ok.op rfl (OpOk.appendRo (e := .str) 16 8796093022208 0 rfl rfl rfl hL27 hR28 Tryz.underlying22 (by kernel_rfl) (by kernel_rfl) (by kernel_rfl) hb29 rfl fun a29 c29 xs29 hL29 => ?_)
                      refine Ok.batch 1 [(7, .int .i64 (parS xbase).2), (8, .pointer (some ⟨b7, 0, none⟩)), (11, .string ⟨⟨(rresV16 xbase xref).1⟩⟩), (78, .slice a29 (([] : List (List UInt8)) ++ (((parS xbase).1.2.2.2.1).take (Int.toNat (IntKind.wrap .i64 ((((parS xbase).1.2.2.2.1).length : Int) - 1))))).length c29), (79, .slice a19_0 ((rsegS (tpfM (rresV16 xbase xref).1 ([47] : List UInt8))).1).length c19_0)] (by kernel_rfl) ?_
                      obtain ⟨hb30, hF⟩ := hF
                      refine Ok.op rfl (OpOk.appendRo (e := .str) 16 8796093022208 0 rfl rfl rfl hL29 hR19_0 Tryz.underlying22 (by kernel_rfl) (by kernel_rfl) (by kernel_rfl) hb30 rfl fun a30 c30 xs30 hL30 => ?_)
                      refine Ok.batch 1 [(7, .int .i64 (parS xbase).2), (8, .pointer (some ⟨b7, 0, none⟩)), (11, .string ⟨⟨(rresV16 xbase xref).1⟩⟩), (13, .slice a30 ((([] : List (List UInt8)) ++ (((parS xbase).1.2.2.2.1).take (Int.toNat (IntKind.wrap .i64 ((((parS xbase).1.2.2.2.1).length : Int) - 1))))) ++ ((rsegS (tpfM (rresV16 xbase xref).1 ([47] : List UInt8))).1)).length c30)] (by kernel_rfl) ?_
                      refine Ok.nil ?_
                      refine Ok.freeze (H' := [.blk b7 (.cells #[.string ⟨⟨(rresV16 xbase xref).2.2.1⟩⟩, .string ⟨⟨(rresV16 xbase xref).2.2.2.1⟩⟩, .int .i64 (rresV16 xbase xref).2.2.2.2.1, .slice a17_0 ((rresV16 xbase xref).2.2.2.2.2.1).length c17_0, .string ⟨⟨(rresV18 xbase xref)⟩⟩, .bool (rresV19 xbase xref), .string ⟨⟨(rresV16 xbase xref).2.2.2.2.2.2.2.2.1⟩⟩, .bool (rresV16 xbase xref).2.2.2.2.2.2.2.2.2] 24), .blk b3 (.cells #[.string ⟨⟨(parS xbase).1.1⟩⟩, .string ⟨⟨(parS xbase).1.2.1⟩⟩, .int .i64 (parS xbase).1.2.2.1, .slice a1_0 ((parS xbase).1.2.2.2.1).length c1_0, .string ⟨⟨(parS xbase).1.2.2.2.2.1⟩⟩, .bool (parS xbase).1.2.2.2.2.2.1, .string ⟨⟨(parS xbase).1.2.2.2.2.2.2.1⟩⟩, .bool (parS xbase).1.2.2.2.2.2.2.2] 24)]) 0 rfl hL30 rfl fun g31 hx31 hRf31 => ?_
                      replace hR17_0 := hR17_0.mono hx31.1
                      replace hR1_0 := hR1_0.mono hx31.1
                      replace hG0 := hG0.mono hx31.1
                      replace hG3 := hG3.mono hx31.1
                      refine Ok.thenN ?_
                      refine Ok.reval 13 rfl (show (.slice a30 ((([] : List (List UInt8)) ++ (((parS xbase).1.2.2.2.1).take (Int.toNat (IntKind.wrap .i64 ((((parS xbase).1.2.2.2.1).length : Int) - 1))))) ++ ((rsegS (tpfM (rresV16 xbase xref).1 ([47] : List UInt8))).1)).length c30 : Value) = .slice a30 (rresV21 xbase xref).length c30 from congrArg (fun l : List (List UInt8) => Value.slice a30 l.length c30) ((if_t hc26).symm)) ?_
                      exact fun a W hA hW => ⟨g31, (hxj54.trans hx31), a30, c30, (Eq.mp (congrArg (fun l : List (List UInt8) => Rep g31 (.slice (.str)) [.slice a30 l.length c30] l) ((if_t hc26).symm)) hRf31), hA.sub (by kernel_rfl), hW.sub (.cons_cons _ (.cons _ .slnil)), hF⟩
                    · replace hF := hF.2 hc26
                      refine Ok.skip ?_
                      refine Ok.thenN ?_
                      refine Ok.reval 13 rfl (show (.slice a19_0 ((rsegS (tpfM (rresV16 xbase xref).1 ([47] : List UInt8))).1).length c19_0 : Value) = .slice a19_0 (rresV21 xbase xref).length c19_0 from congrArg (fun l : List (List UInt8) => Value.slice a19_0 l.length c19_0) ((if_f hc26).symm)) ?_
                      exact fun a W hA hW => ⟨gj54, hxj54, a19_0, c19_0, (Eq.mp (congrArg (fun l : List (List UInt8) => Rep gj54 (.slice (.str)) [.slice a19_0 l.length c19_0] l) ((if_f hc26).symm)) hR19_0), hA.sub (by kernel_rfl), hW.sub (.cons_cons _ (.cons _ .slnil)), hF⟩
                ·
                  clear hF
                  rintro a W ⟨gj53, hxj53, ax13j53, cx13j53, hRx13j53, hA, hW, hF⟩
                  refine (?_ : Ok _ _ _ _ _ _) a W hA hW
                  clear hA hW
                  replace hR17_0 := hR17_0.mono hxj53.1
                  replace hG0 := hG0.mono hxj53.1
                  replace hG3 := hG3.mono hxj53.1
                  refine Ok.seq ?_
                  refine Ok.region ?_
                  refine Ok.batch 1 [(7, .int .i64 (parS xbase).2), (8, .pointer (some ⟨b7, 0, none⟩)), (13, .slice ax13j53 (rresV21 xbase xref).length cx13j53), (81, .string ⟨⟨(rresV16 xbase xref).1⟩⟩)] (by kernel_rfl) ?_
                  refine Ok.op rfl (OpOk.step (v := .bool (!((rresV16 xbase xref).1 == ([] : List UInt8)))) (Yields.strCmp (f := .neq) (a := (rresV16 xbase xref).1) (b := ([] : List UInt8)) (by kernel_rfl) (by kernel_rfl) rfl) rfl rfl ?_)
                  refine Ok.nil ?_
                  refine Ok.thenN ?_
                  refine Ok.cond (b := !((rresV16 xbase xref).1 == ([] : List UInt8))) rfl (fun hc23 => ?_) (fun hc23 => ?_)
                  · replace hF := hF.1 hc23
                    refine Ok.region ?_
                    refine Ok.batch 1 [(7, .int .i64 (parS xbase).2), (8, .pointer (some ⟨b7, 0, none⟩)), (83, .slice ax13j53 (rresV21 xbase xref).length cx13j53)] (by kernel_rfl) ?_
                    obtain ⟨hp24, hF⟩ := hF
                    refine Ok.op rfl (OpOk.callH [] [.blk b7 (.cells #[.string ⟨⟨(rresV16 xbase xref).2.2.1⟩⟩, .string ⟨⟨(rresV16 xbase xref).2.2.2.1⟩⟩, .int .i64 (rresV16 xbase xref).2.2.2.2.1, .slice a17_0 ((rresV16 xbase xref).2.2.2.2.2.1).length c17_0, .string ⟨⟨(rresV18 xbase xref)⟩⟩, .bool (rresV19 xbase xref), .string ⟨⟨(rresV16 xbase xref).2.2.2.2.2.2.2.2.1⟩⟩, .bool (rresV16 xbase xref).2.2.2.2.2.2.2.2.2] 24)] (enters (by kernel_rfl) (fun _ => by kernel_rfl)) rfl (rtid_c (rresV21 xbase xref) hRx13j53 hp24) rfl fun g25 _ _ hx25 hV25 => ?_)
                    obtain ⟨a25_0, c25_0, rfl, hR25_0, rfl⟩ := hV25
                    replace hRx13j53 := hRx13j53.mono hx25.1
                    replace hR17_0 := hR17_0.mono hx25.1
                    replace hG0 := hG0.mono hx25.1
                    replace hG3 := hG3.mono hx25.1
                    refine Ok.batch 1 [(7, .int .i64 (parS xbase).2), (8, .pointer (some ⟨b7, 0, none⟩)), (84, .slice a25_0 (tidyS (rresV21 xbase xref)).length c25_0), (85, .pointer (some ⟨b7, 3, none⟩))] (by kernel_rfl) ?_
                    refine Ok.op rfl (OpOk.store (k := 1) (v := .slice a25_0 (tidyS (rresV21 xbase xref)).length c25_0) (H' := [.blk b7 (.cells #[.string ⟨⟨(rresV16 xbase xref).2.2.1⟩⟩, .string ⟨⟨(rresV16 xbase xref).2.2.2.1⟩⟩, .int .i64 (rresV16 xbase xref).2.2.2.2.1, .slice a25_0 (tidyS (rresV21 xbase xref)).length c25_0, .string ⟨⟨(rresV18 xbase xref)⟩⟩, .bool (rresV19 xbase xref), .string ⟨⟨(rresV16 xbase xref).2.2.2.2.2.2.2.2.1⟩⟩, .bool (rresV16 xbase xref).2.2.2.2.2.2.2.2.2] 24)]) 0 rfl rfl rfl (by kernel_rfl) (by kernel_rfl) (by kernel_rfl) (by kernel_rfl) (by kernel_rfl) ?_)
                    refine Ok.nil ?_
                    refine Ok.blockN ?_
                    refine Ok.thenN ?_
                    refine Ok.reval 7 rfl (show (.int .i64 (parS xbase).2 : Value) = .int .i64 (rresV5 xbase xref) from congrArg (Value.int .i64) ((Eq.trans ((if_f hc14).symm) ((if_f hc12).symm)))) ?_
                    refine Ok.heapEq (H' := [.blk b7 (.cells #[.string ⟨⟨(rresV6 xbase xref)⟩⟩, .string ⟨⟨(rresV7 xbase xref)⟩⟩, .int .i64 (rresV8 xbase xref), .slice a25_0 (rresV9 xbase xref).length c25_0, .string ⟨⟨(rresV10 xbase xref)⟩⟩, .bool (rresV11 xbase xref), .string ⟨⟨(rresV12 xbase xref)⟩⟩, .bool (rresV13 xbase xref)] 24)]) (econs (congrArg (fun l : List Value => Ent.blk b7 (.cells ⟨l⟩ 24)) (lcons (congrArg ((fun s : List UInt8 => Value.string ⟨⟨s⟩⟩)) ((Eq.trans ((if_f hc14).symm) ((if_f hc12).symm)))) (lcons (congrArg ((fun s : List UInt8 => Value.string ⟨⟨s⟩⟩)) ((Eq.trans ((if_f hc14).symm) ((if_f hc12).symm)))) (lcons (congrArg (Value.int .i64) ((Eq.trans ((if_f hc14).symm) ((if_f hc12).symm)))) (lcons (congrArg (fun l : List (List UInt8) => Value.slice a25_0 l.length c25_0) ((Eq.trans ((Eq.trans ((if_t hc23).symm) ((if_f hc14).symm))) ((if_f hc12).symm)))) (lcons (congrArg ((fun s : List UInt8 => Value.string ⟨⟨s⟩⟩)) ((Eq.trans ((if_f hc14).symm) ((if_f hc12).symm)))) (lcons (congrArg (Value.bool) ((Eq.trans ((if_f hc14).symm) ((if_f hc12).symm)))) (lcons (congrArg ((fun s : List UInt8 => Value.string ⟨⟨s⟩⟩)) ((Eq.trans ((if_f hc14).symm) ((if_f hc12).symm)))) (lcons (congrArg (Value.bool) ((Eq.trans ((if_f hc14).symm) ((if_f hc12).symm)))) rfl))))))))) rfl) ?_
                    exact fun a W hA hW => ⟨g25, ((((hx17.trans hxj37).trans hx19).trans hxj53).trans hx25), a25_0, c25_0, (Eq.mp (congrArg (fun l : List (List UInt8) => Rep g25 (.slice (.str)) [.slice a25_0 l.length c25_0] l) ((Eq.trans ((Eq.trans ((if_t hc23).symm) ((if_f hc14).symm))) ((if_f hc12).symm)))) hR25_0), hA.sub (by kernel_rfl), hW, hF⟩
                  · replace hF := hF.2 hc23
                    refine Ok.skip ?_
                    refine Ok.blockN ?_
                    refine Ok.thenN ?_
                    refine Ok.reval 7 rfl (show (.int .i64 (parS xbase).2 : Value) = .int .i64 (rresV5 xbase xref) from congrArg (Value.int .i64) ((Eq.trans ((if_f hc14).symm) ((if_f hc12).symm)))) ?_
                    refine Ok.heapEq (H' := [.blk b7 (.cells #[.string ⟨⟨(rresV6 xbase xref)⟩⟩, .string ⟨⟨(rresV7 xbase xref)⟩⟩, .int .i64 (rresV8 xbase xref), .slice a17_0 (rresV9 xbase xref).length c17_0, .string ⟨⟨(rresV10 xbase xref)⟩⟩, .bool (rresV11 xbase xref), .string ⟨⟨(rresV12 xbase xref)⟩⟩, .bool (rresV13 xbase xref)] 24)]) (econs (congrArg (fun l : List Value => Ent.blk b7 (.cells ⟨l⟩ 24)) (lcons (congrArg ((fun s : List UInt8 => Value.string ⟨⟨s⟩⟩)) ((Eq.trans ((if_f hc14).symm) ((if_f hc12).symm)))) (lcons (congrArg ((fun s : List UInt8 => Value.string ⟨⟨s⟩⟩)) ((Eq.trans ((if_f hc14).symm) ((if_f hc12).symm)))) (lcons (congrArg (Value.int .i64) ((Eq.trans ((if_f hc14).symm) ((if_f hc12).symm)))) (lcons (congrArg (fun l : List (List UInt8) => Value.slice a17_0 l.length c17_0) ((Eq.trans ((Eq.trans ((if_f hc23).symm) ((if_f hc14).symm))) ((if_f hc12).symm)))) (lcons (congrArg ((fun s : List UInt8 => Value.string ⟨⟨s⟩⟩)) ((Eq.trans ((if_f hc14).symm) ((if_f hc12).symm)))) (lcons (congrArg (Value.bool) ((Eq.trans ((if_f hc14).symm) ((if_f hc12).symm)))) (lcons (congrArg ((fun s : List UInt8 => Value.string ⟨⟨s⟩⟩)) ((Eq.trans ((if_f hc14).symm) ((if_f hc12).symm)))) (lcons (congrArg (Value.bool) ((Eq.trans ((if_f hc14).symm) ((if_f hc12).symm)))) rfl))))))))) rfl) ?_
                    exact fun a W hA hW => ⟨gj53, (((hx17.trans hxj37).trans hx19).trans hxj53), a17_0, c17_0, (Eq.mp (congrArg (fun l : List (List UInt8) => Rep gj53 (.slice (.str)) [.slice a17_0 l.length c17_0] l) ((Eq.trans ((Eq.trans ((if_f hc23).symm) ((if_f hc14).symm))) ((if_f hc12).symm)))) hR17_0), hA.sub (by kernel_rfl), hW, hF⟩
      ·
        clear hF
        rintro a W ⟨gj25, hxj25, ayb7_3j25, cyb7_3j25, hRyb7_3j25, hA, hW, hF⟩
        refine (?_ : Ok _ _ _ _ _ _) a W hA hW
        clear hA hW
        replace hG0 := hG0.mono hxj25.1
        replace hG3 := hG3.mono hxj25.1
        refine Ok.seq ?_
        refine Ok.seq ?_
        refine Ok.region ?_
        refine Ok.batch 2 [(7, .int .i64 (rresV5 xbase xref)), (8, .pointer (some ⟨b7, 0, none⟩)), (106, .bool ((rresV5 xbase xref) != 0))] (by kernel_rfl) ?_
        refine Ok.nil ?_
        refine Ok.thenN ?_
        refine Ok.cond (b := ((rresV5 xbase xref) != 0)) rfl (fun hc9 => ?_) (fun hc9 => ?_)
        · replace hF := hF.1 hc9
          refine Ok.seq ?_
          refine Ok.region ?_
          refine Ok.batch 3 [(4, .string ⟨⟨([] : List UInt8)⟩⟩), (5, .int .i64 (rresV5 xbase xref))] (by kernel_rfl) ?_
          refine Ok.nil ?_
          refine Ok.thenN ?_
          refine Ok.ret ?_
          refine Ok.thenR ?_
          exact Ok.resP (vs := [.string ⟨⟨([] : List UInt8)⟩⟩, .int .i64 (rresV5 xbase xref)]) [] [] (by decide) rfl (.inl rfl) rfl (.cons (.tmp rfl) (.cons (.tmp rfl) .nil)) (hx1.trans hxj25) ⟨([] : List UInt8), (rresV5 xbase xref), rfl, rfl, hF⟩
        · replace hF := hF.2 hc9
          refine Ok.skip ?_
          refine Ok.thenN ?_
          refine Ok.seq ?_
          refine Ok.region ?_
          refine Ok.op rfl (OpOk.step (v := .agg #[.string ⟨⟨(rresV6 xbase xref)⟩⟩, .string ⟨⟨(rresV7 xbase xref)⟩⟩, .int .i64 (rresV8 xbase xref), .slice ayb7_3j25 (rresV9 xbase xref).length cyb7_3j25, .string ⟨⟨(rresV10 xbase xref)⟩⟩, .bool (rresV11 xbase xref), .string ⟨⟨(rresV12 xbase xref)⟩⟩, .bool (rresV13 xbase xref)]) (Yields.loadAgg 0 8 #[.string ⟨⟨(rresV6 xbase xref)⟩⟩, .string ⟨⟨(rresV7 xbase xref)⟩⟩, .int .i64 (rresV8 xbase xref), .slice ayb7_3j25 (rresV9 xbase xref).length cyb7_3j25, .string ⟨⟨(rresV10 xbase xref)⟩⟩, .bool (rresV11 xbase xref), .string ⟨⟨(rresV12 xbase xref)⟩⟩, .bool (rresV13 xbase xref)] rfl rfl Tryz.underlying24 rfl (by kernel_rfl) (by kernel_rfl) (by kernel_rfl)) rfl rfl ?_)
          obtain ⟨hp10, hF⟩ := hF
          refine Ok.op rfl (OpOk.callG (v := .string ⟨⟨(rresV14 xbase xref)⟩⟩) (enters (by kernel_rfl) (fun _ => by kernel_rfl)) (fun W hW => rtxt_c ((rresV6 xbase xref), (rresV7 xbase xref), (rresV8 xbase xref), (rresV9 xbase xref), (rresV10 xbase xref), (rresV11 xbase xref), (rresV12 xbase xref), (rresV13 xbase xref)) (hRyb7_3j25.mono hW.sees) (hG0.mono hW.sees) (hG3.mono hW.sees) hp10) rfl ?_)
          refine Ok.batch 1 [(15, .string ⟨⟨(rresV14 xbase xref)⟩⟩)] (by kernel_rfl) ?_
          refine Ok.nil ?_
          refine Ok.thenN ?_
          refine Ok.seq ?_
          refine Ok.seq ?_
          refine Ok.region ?_
          refine Ok.batch 3 [(15, .string ⟨⟨(rresV14 xbase xref)⟩⟩), (112, .bool (decide (((rresV14 xbase xref).length : Int) > 500)))] (by kernel_rfl) ?_
          refine Ok.nil ?_
          refine Ok.thenN ?_
          refine Ok.cond (b := decide (((rresV14 xbase xref).length : Int) > 500)) rfl (fun hc11 => ?_) (fun hc11 => ?_)
          · replace hF := hF.1 hc11
            refine Ok.seq ?_
            refine Ok.region ?_
            refine Ok.batch 2 [(4, .string ⟨⟨([] : List UInt8)⟩⟩), (5, .int .i64 2)] (by kernel_rfl) ?_
            refine Ok.nil ?_
            refine Ok.thenN ?_
            refine Ok.ret ?_
            refine Ok.thenR ?_
            exact Ok.resP (vs := [.string ⟨⟨([] : List UInt8)⟩⟩, .int .i64 2]) [] [] (by decide) rfl (.inl rfl) rfl (.cons (.tmp rfl) (.cons (.tmp rfl) .nil)) (hx1.trans hxj25) ⟨([] : List UInt8), 2, rfl, rfl, hF⟩
          · replace hF := hF.2 hc11
            refine Ok.skip ?_
            refine Ok.thenN ?_
            refine Ok.seq ?_
            refine Ok.region ?_
            refine Ok.batch 3 [(4, .string ⟨⟨(rresV14 xbase xref)⟩⟩), (5, .int .i64 0)] (by kernel_rfl) ?_
            refine Ok.nil ?_
            refine Ok.thenN ?_
            refine Ok.ret ?_
            exact Ok.resP (vs := [.string ⟨⟨(rresV14 xbase xref)⟩⟩, .int .i64 0]) [] [] (by decide) rfl (.inl rfl) rfl (.cons (.tmp rfl) (.cons (.tmp rfl) .nil)) (hx1.trans hxj25) ⟨(rresV14 xbase xref), 0, rfl, rfl, hF⟩
theorem cpf_parts (l : List UInt8) : (cpfM l [47]).1 = tpfM l [47] ∧ (cpfM l [47]).2 = hpfM l [47] := by
  have h1 : cpfM l [47] = if (!(slhpM l [47])) = true then (l, false) else (l.drop 1, true) := rfl
  have h2 : tpfM l [47] = if slhpM l [47] = true then l.drop 1 else l := rfl
  have h3 : hpfM l [47] = slhpM l [47] := rfl
  rw [h1, h2, h3]
  cases slhpM l [47] <;> exact ⟨rfl, rfl⟩
theorem rres_F (b r : List UInt8) : rresF b r (fun x y => (x, y) = resS b r) := by
  rw [resS_eq]
  unfold resS0
  refine ⟨fun h => by rw [if_t h], fun h => ?_⟩
  rw [if_f h]
  have h0 : (parS b).2 = 0 := by simpa using h
  refine ⟨fun h2 => by rw [if_t h2], fun h2 => ?_⟩
  rw [if_f h2]
  have h5 := of_decide_eq_false h2
  obtain ⟨ht, hb⟩ := res_txt (b := b) (r := r) h0 (by omega)
  obtain ⟨hb1, hb2, hb3⟩ := hb
  have hori := par_ori b
  have hrs : (rschS r).2 = (schS r).2.2 := by
    unfold rschS
    cases hc : (schS r).2.2 <;> rfl
  have hl1 : (parS b).1.1.length ≤ 100000000 := hori.1
  -- the answer, where an address has been found
  have fin : ∀ (u : JU) (e : Int), (u, e) = resU b r → (rresV6 b r, rresV7 b r, rresV8 b r, rresV9 b r, rresV10 b r, rresV11 b r, rresV12 b r, rresV13 b r) = u → rresV5 b r = e →
      rresj25 b r (fun x y => (x, y) = if ((resU b r).2 != 0) = true then ([], (resU b r).2) else if decide (((txtS (resU b r).1).length : Int) > 500) = true then ([], 2) else (txtS (resU b r).1, 0)) := by
    intro u e hue hu he
    unfold rresj25 rresV14
    rw [he, hu, ← hue]
    rw [← hue] at ht
    refine ⟨fun h6 => by rw [if_t h6], fun h6 => ?_⟩
    rw [if_f h6]
    exact ⟨ht, fun h7 => by rw [if_t h7], fun h7 => by rw [if_f h7]⟩
  refine ⟨by unfold smP; omega, fun h6 => ?_, fun h6 => ⟨fun h7 => ?_, fun h7 => ?_⟩⟩
  · -- an address of its own
    have hru : resU b r = parS r := by unfold resU; rw [← hrs, if_t h6]
    refine fin (parS r).1 (parS r).2 hru.symm ?_ ?_
    · unfold rresV6 rresV7 rresV8 rresV9 rresV10 rresV11 rresV12 rresV13
      simp only [if_pos h6]
    · unfold rresV5; rw [if_t h6]
  · have hru : resU b r = parS (((parS b).1.1 ++ [58]) ++ r) := by unfold resU; rw [← hrs, if_f h6, if_t h7]
    refine ⟨by rw [maxLen_eq]; simp only [List.length_cons, List.length_nil]; omega, by rw [maxLen_eq, List.length_append, List.length_cons, List.length_nil]; omega, ?_⟩
    refine fin (parS (((parS b).1.1 ++ [58]) ++ r)).1 (parS (((parS b).1.1 ++ [58]) ++ r)).2 hru.symm ?_ ?_
    · have h6' : ¬ (rschS r).2 = true := by rw [h6]; exact Bool.false_ne_true
      unfold rresV6 rresV7 rresV8 rresV9 rresV10 rresV11 rresV12 rresV13
      simp only [if_neg h6', if_pos h7]
    · unfold rresV5; rw [if_f h6, if_t h7]
  · -- beside the other one
    have hru : resU b r = besS (parS b).1 r := by unfold resU; rw [← hrs, if_f h6, if_f h7]
    have h6' : ¬ (rschS r).2 = true := by rw [h6]; exact Bool.false_ne_true
    have h7' : ¬ hpfM r [47, 47] = true := by rw [h7]; exact Bool.false_ne_true
    obtain ⟨u, hu⟩ : ∃ u, (parS b).1 = u := ⟨_, rfl⟩
    obtain ⟨T, hT⟩ : ∃ T, tailS u r = T := ⟨_, rfl⟩
    have hV16 : rresV16 b r = T := by
      rw [← hT, ← hu]; rfl
    have t0 : T = tailS0 u r := by rw [← hT, tailS_eq]
    have b0 : besT u r = tailS0 (u.1, u.2.1, u.2.2.1, [], [], false, [], false) r := by unfold besT; rw [tailS_eq]
    have e1 : (besT u r).1 = T.1 := by rw [t0, b0]; rfl
    have e2 : (besT u r).2.1 = T.2.1 := by rw [t0, b0]; rfl
    have e3 : (besT u r).2.2.2.2.2.2 = T.2.2.2.2.2.2 := by rw [t0, b0]; rfl
    have f1 : T.2.2.1 = u.1 := by rw [t0]; rfl
    have f2 : T.2.2.2.1 = u.2.1 := by rw [t0]; rfl
    have f3 : T.2.2.2.2.1 = u.2.2.1 := by rw [t0]; rfl
    have f4 : T.2.2.2.2.2.1 = u.2.2.2.1 := by rw [t0]; rfl
    have htl : T.1.length ≤ r.length := by rw [← hT]; exact tail_len u r
    have htp := tpf_len T.1 [47]
    obtain ⟨c1, c2⟩ := cpf_parts T.1
    have hG : besG u r = segS (tpfM T.1 [47]) := by unfold besG; rw [e1, c1]
    obtain ⟨g1, g2⟩ := seg_two (tpfM T.1 [47])
    have hsg := seg_len (tpfM T.1 [47])
    rw [hu] at hb1 hb2 hru
    have hw : IntKind.wrap .i64 ((u.2.2.2.1.length : Int) - 1) = ((u.2.2.2.1.length - 1 : Nat) : Int) := by rw [w64 (by omega)]; omega
    have hbes := besS_eq
    have j37 : rresj37 b r (fun x y => (x, y) = if ((resU b r).2 != 0) = true then ([], (resU b r).2) else if decide (((txtS (resU b r).1).length : Int) > 500) = true then ([], 2) else (txtS (resU b r).1, 0)) := by
      unfold rresj37
      rw [hV16]
      refine ⟨by unfold smP; omega, fun h8 => ?_, fun h8 => ?_⟩
      · have : resU b r = (ju0, 3) := by
          rw [hru, hbes]
          unfold besS0
          rw [e2, hG, g1, if_t h8]
        rw [this]; rfl
      · have h8' := h8
        rw [Bool.or_eq_false_iff] at h8'
        have hseg := g2 (by simpa using h8'.2)
        have hrl : (rsegS (tpfM T.1 [47])).1.length ≤ 501 := by rw [← hseg]; omega
        -- the segments
        have hV20 : rresV20 b r = (!(T.1 == []) && !(hpfM T.1 [47])) := by unfold rresV20; rw [hV16]
        have hV21 : rresV21 b r = if (!(T.1 == []) && !(hpfM T.1 [47])) = true then u.2.2.2.1.take (u.2.2.2.1.length - 1) ++ (rsegS (tpfM T.1 [47])).1 else (rsegS (tpfM T.1 [47])).1 := by
          unfold rresV21
          rw [hV20, hV16, hu]
          show (if _ then (([] : List (List UInt8)) ++ u.2.2.2.1.take (Int.toNat (IntKind.wrap .i64 ((u.2.2.2.1.length : Int) - 1)))) ++ _ else _) = _
          rw [hw, Int.toNat_natCast, List.nil_append]
        have hV4 : rresV4 b r = rresV21 b r := rfl
        have hL : (T.1 == []) = false → besL u r = rresV21 b r := fun hne => by
          unfold besL
          rw [hV21, e1, c2, hG, hseg, hne]
          rfl
        have hlen21 : (rresV21 b r).length ≤ 2000 := by
          rw [hV21]
          split
          · rw [List.length_append, List.length_take]; omega
          · omega
        have j25 : rresj25 b r (fun x y => (x, y) = if ((resU b r).2 != 0) = true then ([], (resU b r).2) else if decide (((txtS (resU b r).1).length : Int) > 500) = true then ([], 2) else (txtS (resU b r).1, 0)) := by
          have hV0 : rresV0 b r = ((T.1 == []) && !(T.2.2.2.2.2.2.2.1)) := by
            show (((rresV16 b r).1 == []) && !((rresV16 b r).2.2.2.2.2.2.2.1)) = _
            rw [hV16]
          have hres : resU b r = ((u.1, u.2.1, u.2.2.1, (if (!(T.1 == [])) = true then tidyS (rresV4 b r) else u.2.2.2.1), (if rresV0 b r = true then u.2.2.2.2.1 else T.2.2.2.2.2.2.1), (if rresV0 b r = true then u.2.2.2.2.2.1 else T.2.2.2.2.2.2.2.1), T.2.2.2.2.2.2.2.2), 0) := by
            rw [hru, hbes]
            unfold besS0
            rw [e2, hG, g1, if_f h8, e1, hV0, e3]
            cases hne : (T.1 == [])
            · rw [if_f rfl, hL hne, hV4]
              rfl
            · rw [if_t rfl, Bool.true_and]
              rfl
          refine fin _ 0 hres.symm ?_ ?_
          · have v6 : rresV6 b r = u.1 := by
              unfold rresV6; rw [if_neg h6', if_neg h7']
              show (rresV16 b r).2.2.1 = _
              rw [hV16, f1]
            have v7 : rresV7 b r = u.2.1 := by
              unfold rresV7; rw [if_neg h6', if_neg h7']
              show (rresV16 b r).2.2.2.1 = _
              rw [hV16, f2]
            have v8 : rresV8 b r = u.2.2.1 := by
              unfold rresV8; rw [if_neg h6', if_neg h7']
              show (rresV16 b r).2.2.2.2.1 = _
              rw [hV16, f3]
            have v9 : rresV9 b r = if (!(T.1 == [])) = true then tidyS (rresV4 b r) else u.2.2.2.1 := by
              unfold rresV9; rw [if_neg h6', if_neg h7']
              show (if (!((rresV16 b r).1 == [])) = true then tidyS (rresV4 b r) else (rresV16 b r).2.2.2.2.2.1) = _
              rw [hV16, f4]
            have v10 : rresV10 b r = if rresV0 b r = true then u.2.2.2.2.1 else T.2.2.2.2.2.2.1 := by
              unfold rresV10; rw [if_neg h6', if_neg h7']
              show (if rresV0 b r = true then (parS b).1.2.2.2.2.1 else (rresV16 b r).2.2.2.2.2.2.1) = _
              rw [hV16, hu]
            have v11 : rresV11 b r = if rresV0 b r = true then u.2.2.2.2.2.1 else T.2.2.2.2.2.2.2.1 := by
              unfold rresV11; rw [if_neg h6', if_neg h7']
              show (if rresV0 b r = true then (parS b).1.2.2.2.2.2.1 else (rresV16 b r).2.2.2.2.2.2.2.1) = _
              rw [hV16, hu]
            have v12 : rresV12 b r = T.2.2.2.2.2.2.2.2.1 := by
              unfold rresV12; rw [if_neg h6', if_neg h7']
              show (rresV16 b r).2.2.2.2.2.2.2.2.1 = _
              rw [hV16]
            have v13 : rresV13 b r = T.2.2.2.2.2.2.2.2.2 := by
              unfold rresV13; rw [if_neg h6', if_neg h7']
              show (rresV16 b r).2.2.2.2.2.2.2.2.2 = _
              rw [hV16]
            rw [v6, v7, v8, v9, v10, v11, v12, v13]
          · unfold rresV5; rw [if_neg h6', if_neg h7']; exact h0
        have j53 : rresj53 b r (fun x y => (x, y) = if ((resU b r).2 != 0) = true then ([], (resU b r).2) else if decide (((txtS (resU b r).1).length : Int) > 500) = true then ([], 2) else (txtS (resU b r).1, 0)) :=
          ⟨fun _ => ⟨by unfold tidyP; omega, j25⟩, fun _ => j25⟩
        have j54 : rresj54 b r (fun x y => (x, y) = if ((resU b r).2 != 0) = true then ([], (resU b r).2) else if decide (((txtS (resU b r).1).length : Int) > 500) = true then ([], 2) else (txtS (resU b r).1, 0)) := by
          unfold rresj54
          rw [hV16, hu]
          refine ⟨fun _ => ⟨by omega, ?_, ?_, ?_, ?_, j53⟩, fun _ => j53⟩
          · show 0 ≤ IntKind.wrap .i64 ((u.2.2.2.1.length : Int) - 1)
            rw [hw]; omega
          · show IntKind.wrap .i64 ((u.2.2.2.1.length : Int) - 1) ≤ (u.2.2.2.1.length : Int)
            rw [hw]; omega
          · rw [List.nil_append, List.length_take]; omega
          · rw [List.nil_append, List.length_append, List.length_take]; omega
        exact ⟨fun _ => j54, fun _ => j54⟩
    have j38 : rresj38 b r (fun x y => (x, y) = if ((resU b r).2 != 0) = true then ([], (resU b r).2) else if decide (((txtS (resU b r).1).length : Int) > 500) = true then ([], 2) else (txtS (resU b r).1, 0)) := ⟨fun _ => j37, fun _ => j37⟩
    exact ⟨by show r.length ≤ 4000; omega, fun _ => j38, fun _ => j38⟩
set_option linter.unusedVariables false in
theorem rres_c {g : Ghost} (xbase : List UInt8) (xref : List UInt8) (hG0 : SomeInt g 0) (hG3 : GlobL g 3 (.int .u64) DPow)  : CallsG Tryz.prog 16 #[.string ⟨⟨xbase⟩⟩, .string ⟨⟨xref⟩⟩] g (.tuple #[.string ⟨⟨(resS xbase xref).1⟩⟩, .int .i64 (resS xbase xref).2]) :=
  (rres_ok xbase xref hG0 hG3 _ (rres_F xbase xref)).gives (by rintro g' H' v _ ⟨r0, r1, rfl, rfl, hK⟩; obtain ⟨rfl, rfl⟩ : r0 = (resS xbase xref).1 ∧ r1 = (resS xbase xref).2 := ⟨congrArg (fun z => z.1) hK, congrArg (fun z => z.2) hK⟩; rfl)
def lresF (xbase : List UInt8) (xref : List UInt8) (K : Bool → Prop) : Prop :=
  K (((resS xbase xref).1 == (resS xbase xref).1) && ((resS xbase xref).2 == (resS xbase xref).2))
set_option maxHeartbeats 4000000 in
set_option maxRecDepth 100000 in
set_option linter.unusedVariables false in
theorem lres_ok {g : Ghost} (xbase : List UInt8) (xref : List UInt8) (hG0 : SomeInt g 0) (hG1 : SomeIf g 1) (hG2 : SomeIf g 2) (hG3 : GlobL g 3 (.int .u64) DPow) (hG4 : GlobL g 4 (.int .u8) DFirst) (hG5 : GlobL g 5 (.pair (.int .u8) (.int .u8)) DAcc) (K : Bool → Prop)
    (hF : lresF xbase xref K) : CallsH Tryz.prog 5 #[.string ⟨⟨xbase⟩⟩, .string ⟨⟨xref⟩⟩] g [] (fun g' H' v => ∃ (r0 : Bool), v = .bool r0 ∧ H' = [] ∧ K r0) := by
  refine CallsH.enter 29 [(0, .string ⟨⟨xbase⟩⟩), (1, .string ⟨⟨xref⟩⟩)] Tryz.func5 rfl (by kernel_rfl) (by kernel_rfl) (by kernel_rfl) fun w0 => ?_
  refine Ok.seq ?_
  refine Ok.region ?_
  refine Ok.batch 1 [(0, .string ⟨⟨xbase⟩⟩), (1, .string ⟨⟨xref⟩⟩)] (by kernel_rfl) ?_
  refine Ok.nil ?_
  refine Ok.thenN ?_
  refine Ok.seq ?_
  refine Ok.region ?_
  refine Ok.batch 2 [(0, .string ⟨⟨xbase⟩⟩), (1, .string ⟨⟨xref⟩⟩), (10, .string ⟨⟨xbase⟩⟩), (11, .string ⟨⟨xref⟩⟩)] (by kernel_rfl) ?_
  refine Ok.op rfl (OpOk.callG (v := .tuple #[.string ⟨⟨(resS xbase xref).1⟩⟩, .int .i64 (resS xbase xref).2]) (enters (by kernel_rfl) (fun _ => by kernel_rfl)) (fun W hW => ures_c xbase xref (hG0.mono hW.sees) (hG1.mono hW.sees) (hG2.mono hW.sees) (hG3.mono hW.sees) (hG4.mono hW.sees) (hG5.mono hW.sees)) rfl ?_)
  refine Ok.batch 5 [(0, .string ⟨⟨xbase⟩⟩), (1, .string ⟨⟨xref⟩⟩), (5, .string ⟨⟨(resS xbase xref).1⟩⟩), (6, .int .i64 (resS xbase xref).2)] (by kernel_rfl) ?_
  refine Ok.nil ?_
  refine Ok.thenN ?_
  refine Ok.seq ?_
  refine Ok.region ?_
  refine Ok.batch 2 [(5, .string ⟨⟨(resS xbase xref).1⟩⟩), (6, .int .i64 (resS xbase xref).2), (16, .string ⟨⟨xbase⟩⟩), (17, .string ⟨⟨xref⟩⟩)] (by kernel_rfl) ?_
  refine Ok.op rfl (OpOk.callG (v := .tuple #[.string ⟨⟨(resS xbase xref).1⟩⟩, .int .i64 (resS xbase xref).2]) (enters (by kernel_rfl) (fun _ => by kernel_rfl)) (fun W hW => rres_c xbase xref (hG0.mono hW.sees) (hG3.mono hW.sees)) rfl ?_)
  refine Ok.batch 5 [(5, .string ⟨⟨(resS xbase xref).1⟩⟩), (6, .int .i64 (resS xbase xref).2), (7, .string ⟨⟨(resS xbase xref).1⟩⟩), (8, .int .i64 (resS xbase xref).2)] (by kernel_rfl) ?_
  refine Ok.nil ?_
  refine Ok.thenN ?_
  refine Ok.seq ?_
  refine Ok.region ?_
  refine Ok.batch 2 [(6, .int .i64 (resS xbase xref).2), (8, .int .i64 (resS xbase xref).2), (21, .string ⟨⟨(resS xbase xref).1⟩⟩), (22, .string ⟨⟨(resS xbase xref).1⟩⟩)] (by kernel_rfl) ?_
  refine Ok.op rfl (OpOk.step (v := .bool ((resS xbase xref).1 == (resS xbase xref).1)) (Yields.strCmp (f := .eql) (a := (resS xbase xref).1) (b := (resS xbase xref).1) (by kernel_rfl) (by kernel_rfl) rfl) rfl rfl ?_)
  refine Ok.batch 1 [(6, .int .i64 (resS xbase xref).2), (8, .int .i64 (resS xbase xref).2), (24, .bool ((resS xbase xref).1 == (resS xbase xref).1))] (by kernel_rfl) ?_
  refine Ok.midway 4 [(28, .bool (((resS xbase xref).1 == (resS xbase xref).1) && ((resS xbase xref).2 == (resS xbase xref).2)))] (fun hR1 => ?_) ?_
  · refine Ok.boolAt 24 (((resS xbase xref).1 == (resS xbase xref).1)) rfl (fun hc2 => ?_) (fun hc2 => ?_)
    · skip
      refine Ok.batch 4 [(28, .bool ((resS xbase xref).2 == (resS xbase xref).2))] (by kernel_rfl) ?_
      refine Ok.reval 28 rfl (show (.bool ((resS xbase xref).2 == (resS xbase xref).2) : Value) = .bool (((resS xbase xref).1 == (resS xbase xref).1) && ((resS xbase xref).2 == (resS xbase xref).2)) from congrArg Value.bool (mand_t hc2)) ?_
      refine Ok.batch 0 [(28, .bool (((resS xbase xref).1 == (resS xbase xref).1) && ((resS xbase xref).2 == (resS xbase xref).2)))] (by kernel_rfl) ?_
      exact hR1
    · skip
      refine Ok.batch 4 [(28, .bool false)] (by kernel_rfl) ?_
      refine Ok.reval 28 rfl (show (.bool false : Value) = .bool (((resS xbase xref).1 == (resS xbase xref).1) && ((resS xbase xref).2 == (resS xbase xref).2)) from congrArg Value.bool (mand_f hc2)) ?_
      refine Ok.batch 0 [(28, .bool (((resS xbase xref).1 == (resS xbase xref).1) && ((resS xbase xref).2 == (resS xbase xref).2)))] (by kernel_rfl) ?_
      exact hR1
  refine Ok.batch 1 [(4, .bool (((resS xbase xref).1 == (resS xbase xref).1) && ((resS xbase xref).2 == (resS xbase xref).2)))] (by kernel_rfl) ?_
  refine Ok.nil ?_
  refine Ok.thenN ?_
  refine Ok.ret ?_
  exact Ok.resH (vs := [.bool (((resS xbase xref).1 == (resS xbase xref).1) && ((resS xbase xref).2 == (resS xbase xref).2))]) (.inl rfl) rfl (.cons (.tmp rfl) .nil) (Gext.refl w0 g) ⟨(((resS xbase xref).1 == (resS xbase xref).1) && ((resS xbase xref).2 == (resS xbase xref).2)), rfl, rfl, hF⟩
theorem lres_F (b r : List UInt8) : lresF b r (fun r => r = true) := by
  show (((resS b r).1 == (resS b r).1) && ((resS b r).2 == (resS b r).2)) = true
  simp
set_option linter.unusedVariables false in
theorem lres_c {g : Ghost} (xbase : List UInt8) (xref : List UInt8) (hG0 : SomeInt g 0) (hG1 : SomeIf g 1) (hG2 : SomeIf g 2) (hG3 : GlobL g 3 (.int .u64) DPow) (hG4 : GlobL g 4 (.int .u8) DFirst) (hG5 : GlobL g 5 (.pair (.int .u8) (.int .u8)) DAcc)  : CallsG Tryz.prog 5 #[.string ⟨⟨xbase⟩⟩, .string ⟨⟨xref⟩⟩] g (.bool ((fun _ _ => true) xbase xref)) :=
  (lres_ok xbase xref hG0 hG1 hG2 hG3 hG4 hG5 _ (lres_F xbase xref)).gives (by rintro g' H' v _ ⟨r0, rfl, rfl, hK⟩; subst hK; rfl)
end
end Go.Proofs.YthgabkffamgfaaaGreatDoor.Ub
