/-
  DERIVED. GIVEN WITH THE SEED: THE CARDS: each row of YtdjcgbejnpbjlaaGreatDoorRows.lean that lists a variable, with what it lists TIED to the program's text (the seventh form; the later family's looks); each row that meets fmt, with fmt's text TOLD by the authors' own Lean function (tested against real Go, not proved from fmt's source: count such statements apart). THE CARD IS WHAT COUNTS. Prove the row's statement (the work); the ties are given (YtdjcgbejnpbjlaaGreatDoorTie.lean); close each card by the builder's one call (the guide's Derived/Test/ToyasCard.lean, 'card_holds'). Laid BY PROGRAM, IN A SANDBOX (cutbox-door.mjs). By AI agents, Wed Nov 11 2026. No macro, syntax, notation, axiom, sorry.
-/
import Derived.Test.YtdjcgbejnpbjlaaGreatDoorRows
import GoSem.ClaimSeven
namespace Go.Proofs.YtdjcgbejnpbjlaaGreatDoor
namespace Rows

/-- THE TIED CARD OF 'clerestorylaw4.StoreSays'. -/
def storeSaysCard : Claim7 := { stood := { row := storeSaysRow, standIns := [], harness := (true, "fe290a8741cf73a6d57c7e71b947b8a807d66a1f8abad190fdc83a4a1bf1bf57"), looks := true }, kinds := [], alts := [], laidByText := true, laidKinds := [.data, .data, .data, .data, .sentinel, .sentinel, .pinned, .pinned], laidTests := true, laidLooks := .later }
def StoreSaysCardSaid : Prop := Claim7.holds Tryz.pinned (.plain (OpenSpec.ofChange storeSaysSpec)) storeSaysCard

/-- THE SECOND FORM's CARD OF 'clerestorylaw4.StoreSays'. -/
def storeSaysUptoCard : Claim7 := { stood := { row := storeSaysUptoRow, standIns := [], harness := (true, "fe290a8741cf73a6d57c7e71b947b8a807d66a1f8abad190fdc83a4a1bf1bf57"), looks := true }, kinds := [], alts := [], laidByText := true, laidKinds := [.data, .data, .data, .data, .sentinel, .sentinel, .pinned, .pinned], laidTests := true, laidLooks := .later }
def StoreSaysUptoCardSaid : Prop := Claim7.holds Tryz.pinned (.plain (OpenSpec.upto storeSaysSpec)) storeSaysUptoCard
end Rows
end Go.Proofs.YtdjcgbejnpbjlaaGreatDoor
