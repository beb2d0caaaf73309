/-
  DERIVED. GIVEN WITH THE SEED: THE CARDS: each row of YtanhbfhpnjjgcaaDoorRows.lean that lists a variable, with what it lists TIED to the program's text (the seventh form; the later family's looks); each row that meets fmt, with fmt's text TOLD by the authors' own Lean function (tested against real Go, not proved from fmt's source: count such statements apart). THE CARD IS WHAT COUNTS. Prove the row's statement (the work); the ties are given (YtanhbfhpnjjgcaaDoorTie.lean); close each card by the builder's one call (the guide's Derived/Test/ToyasCard.lean, 'card_holds'). Laid BY PROGRAM, IN A SANDBOX (cutbox-door.mjs). By AI agents, Wed Nov 11 2026. No macro, syntax, notation, axiom, sorry.
-/
import Derived.Test.YtanhbfhpnjjgcaaDoorRows
import GoSem.ClaimSeven
namespace Go.Proofs.YtanhbfhpnjjgcaaDoor
namespace Rows

/-- THE TIED CARD OF 'clerestorylaw4.CodeChecks'. -/
def codeChecksCard : Claim7 := { stood := { row := codeChecksRow, standIns := [], harness := (true, "07d649dddd972a05c2ede22404036a387042a9b1cdeaf78a853e0f80002d1eec"), looks := false }, kinds := [], alts := [], laidByText := true, laidKinds := [.listed, .data], laidTests := true, laidLooks := .later }
def CodeChecksCardSaid : Prop := Claim7.holds Tryd.pinned (.plain (OpenSpec.ofChange codeChecksSpec)) codeChecksCard

/-- THE SECOND FORM's CARD OF 'clerestorylaw4.CodeChecks'. -/
def codeChecksUptoCard : Claim7 := { stood := { row := codeChecksUptoRow, standIns := [], harness := (true, "07d649dddd972a05c2ede22404036a387042a9b1cdeaf78a853e0f80002d1eec"), looks := false }, kinds := [], alts := [], laidByText := true, laidKinds := [.listed, .data], laidTests := true, laidLooks := .later }
def CodeChecksUptoCardSaid : Prop := Claim7.holds Tryd.pinned (.plain (OpenSpec.upto codeChecksSpec)) codeChecksUptoCard
end Rows
end Go.Proofs.YtanhbfhpnjjgcaaDoor
