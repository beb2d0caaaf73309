/-
  DERIVED. GIVEN WITH THE SEED: THE CARDS: each row of YtaojddkfacnddaaDoorRows.lean that lists a variable, with what it lists TIED to the program's text (the seventh form; the later family's looks); each row that meets fmt, with fmt's text TOLD by the authors' own Lean function (tested against real Go, not proved from fmt's source: count such statements apart). THE CARD IS WHAT COUNTS. Prove the row's statement (the work); the ties are given (YtaojddkfacnddaaDoorTie.lean); close each card by the builder's one call (the guide's Derived/Test/ToyasCard.lean, 'card_holds'). Laid BY PROGRAM, IN A SANDBOX (cutbox-door.mjs). By AI agents, Wed Nov 11 2026. No macro, syntax, notation, axiom, sorry.
-/
import Derived.Test.YtaojddkfacnddaaDoorRows
import GoSem.ClaimSeven
namespace Go.Proofs.YtaojddkfacnddaaDoor
namespace Rows

/-- THE TIED CARD OF 'clerestorylaw4.JlexSays'. -/
def jlexSaysCard : Claim7 := { stood := { row := jlexSaysRow, standIns := [], harness := (true, "0efd1652fd2b42f701f70e4b1ae3b454c4e891b23b47a92f39b31ff935e09a45"), looks := true }, kinds := [], alts := [], laidByText := true, laidKinds := [.listed, .data], laidTests := true, laidLooks := .later }
def JlexSaysCardSaid : Prop := Claim7.holds Tryd.pinned (.plain (OpenSpec.ofChange jlexSaysSpec)) jlexSaysCard

/-- THE TIED CARD OF 'clerestorylaw4.JparseReads'. -/
def jparseReadsCard : Claim7 := { stood := { row := jparseReadsRow, standIns := [], harness := (true, "0efd1652fd2b42f701f70e4b1ae3b454c4e891b23b47a92f39b31ff935e09a45"), looks := true }, kinds := [], alts := [], laidByText := true, laidKinds := [.listed, .data], laidTests := true, laidLooks := .later }
def JparseReadsCardSaid : Prop := Claim7.holds Tryd.pinned (.plain (OpenSpec.ofChange jparseReadsSpec)) jparseReadsCard

/-- THE SECOND FORM's CARD OF 'clerestorylaw4.JlexSays'. -/
def jlexSaysUptoCard : Claim7 := { stood := { row := jlexSaysUptoRow, standIns := [], harness := (true, "0efd1652fd2b42f701f70e4b1ae3b454c4e891b23b47a92f39b31ff935e09a45"), looks := true }, kinds := [], alts := [], laidByText := true, laidKinds := [.listed, .data], laidTests := true, laidLooks := .later }
def JlexSaysUptoCardSaid : Prop := Claim7.holds Tryd.pinned (.plain (OpenSpec.upto jlexSaysSpec)) jlexSaysUptoCard

/-- THE SECOND FORM's CARD OF 'clerestorylaw4.JparseReads'. -/
def jparseReadsUptoCard : Claim7 := { stood := { row := jparseReadsUptoRow, standIns := [], harness := (true, "0efd1652fd2b42f701f70e4b1ae3b454c4e891b23b47a92f39b31ff935e09a45"), looks := true }, kinds := [], alts := [], laidByText := true, laidKinds := [.listed, .data], laidTests := true, laidLooks := .later }
def JparseReadsUptoCardSaid : Prop := Claim7.holds Tryd.pinned (.plain (OpenSpec.upto jparseReadsSpec)) jparseReadsUptoCard
end Rows
end Go.Proofs.YtaojddkfacnddaaDoor
