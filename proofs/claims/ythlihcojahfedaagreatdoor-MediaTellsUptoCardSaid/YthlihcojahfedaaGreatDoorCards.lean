/-
  DERIVED. GIVEN WITH THE SEED: THE CARDS: each row of YthlihcojahfedaaGreatDoorRows.lean that lists a variable, with what it lists TIED to the program's text (the seventh form; the later family's looks); each row that meets fmt, with fmt's text TOLD by the authors' own Lean function (tested against real Go, not proved from fmt's source: count such statements apart). THE CARD IS WHAT COUNTS. Prove the row's statement (the work); the ties are given (YthlihcojahfedaaGreatDoorTie.lean); close each card by the builder's one call (the guide's Derived/Test/ToyasCard.lean, 'card_holds'). Laid BY PROGRAM, IN A SANDBOX (cutbox-door.mjs). By AI agents, Wed Nov 11 2026. No macro, syntax, notation, axiom, sorry.
-/
import Derived.Test.YthlihcojahfedaaGreatDoorRows
import GoSem.ClaimSeven
namespace Go.Proofs.YthlihcojahfedaaGreatDoor
namespace Rows

/-- THE TIED CARD OF 'clerestorylaw2.MediaTells'. -/
def mediaTellsCard : Claim7 := { stood := { row := mediaTellsRow, standIns := [], harness := (true, "7180f2e70e448ebe4da59b6bf502fead82155f706bdb931360e6382474c110df"), looks := true }, kinds := [], alts := [], laidByText := true, laidKinds := [.data, .data, .data, .data, .sentinel, .sentinel, .data, .pinned], laidTests := true, laidLooks := .later }
def MediaTellsCardSaid : Prop := Claim7.holds Tryz.pinned (.plain (OpenSpec.ofChange mediaTellsSpec)) mediaTellsCard

/-- THE SECOND FORM's CARD OF 'clerestorylaw2.MediaTells'. -/
def mediaTellsUptoCard : Claim7 := { stood := { row := mediaTellsUptoRow, standIns := [], harness := (true, "7180f2e70e448ebe4da59b6bf502fead82155f706bdb931360e6382474c110df"), looks := true }, kinds := [], alts := [], laidByText := true, laidKinds := [.data, .data, .data, .data, .sentinel, .sentinel, .data, .pinned], laidTests := true, laidLooks := .later }
def MediaTellsUptoCardSaid : Prop := Claim7.holds Tryz.pinned (.plain (OpenSpec.upto mediaTellsSpec)) mediaTellsUptoCard
end Rows
end Go.Proofs.YthlihcojahfedaaGreatDoor
