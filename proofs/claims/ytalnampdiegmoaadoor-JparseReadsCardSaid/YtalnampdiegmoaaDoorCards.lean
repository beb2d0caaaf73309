/-
  DERIVED. GIVEN WITH THE SEED: THE CARDS: each row of YtalnampdiegmoaaDoorRows.lean that lists a variable, with what it lists TIED to the program's text (the seventh form; the later family's looks); each row that meets fmt, with fmt's text TOLD by the authors' own Lean function (tested against real Go, not proved from fmt's source: count such statements apart). THE CARD IS WHAT COUNTS. Prove the row's statement (the work); the ties are given (YtalnampdiegmoaaDoorTie.lean); close each card by the builder's one call (the guide's Derived/Test/ToyasCard.lean, 'card_holds'). Laid BY PROGRAM, IN A SANDBOX (cutbox-door.mjs). By AI agents, Wed Nov 11 2026. No macro, syntax, notation, axiom, sorry.
-/
import Derived.Test.YtalnampdiegmoaaDoorRows
import GoSem.ClaimSeven
namespace Go.Proofs.YtalnampdiegmoaaDoor
namespace Rows

/-- THE TIED CARD OF 'clerestorylaw4.JparseReads'. -/
def jparseReadsCard : Claim7 := { stood := { row := jparseReadsRow, standIns := [], harness := (true, "05b4b298104f1095b0af8b440efde80f9d6bfa8a9be4c75081c58b8098057c49"), looks := true }, kinds := [], alts := [], laidByText := true, laidKinds := [.listed, .data], laidTests := true, laidLooks := .later }
def JparseReadsCardSaid : Prop := Claim7.holds Tryd.pinned (.plain (OpenSpec.ofChange jparseReadsSpec)) jparseReadsCard

/-- THE SECOND FORM's CARD OF 'clerestorylaw4.JparseReads'. -/
def jparseReadsUptoCard : Claim7 := { stood := { row := jparseReadsUptoRow, standIns := [], harness := (true, "05b4b298104f1095b0af8b440efde80f9d6bfa8a9be4c75081c58b8098057c49"), looks := true }, kinds := [], alts := [], laidByText := true, laidKinds := [.listed, .data], laidTests := true, laidLooks := .later }
def JparseReadsUptoCardSaid : Prop := Claim7.holds Tryd.pinned (.plain (OpenSpec.upto jparseReadsSpec)) jparseReadsUptoCard
end Rows
end Go.Proofs.YtalnampdiegmoaaDoor
