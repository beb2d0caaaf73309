/-
  DERIVED. GIVEN WITH THE SEED: THE CARDS: each row of YtdiedaeabbcceaaGreatDoorRows.lean that lists a variable, with what it lists TIED to the program's text (the seventh form; the later family's looks); each row that meets fmt, with fmt's text TOLD by the authors' own Lean function (tested against real Go, not proved from fmt's source: count such statements apart). THE CARD IS WHAT COUNTS. Prove the row's statement (the work); the ties are given (YtdiedaeabbcceaaGreatDoorTie.lean); close each card by the builder's one call (the guide's Derived/Test/ToyasCard.lean, 'card_holds'). Laid BY PROGRAM, IN A SANDBOX (cutbox-door.mjs). By AI agents, Wed Nov 11 2026. No macro, syntax, notation, axiom, sorry.
-/
import Derived.Test.YtdiedaeabbcceaaGreatDoorRows
import GoSem.ClaimSeven
namespace Go.Proofs.YtdiedaeabbcceaaGreatDoor
namespace Rows

/-- THE TIED CARD OF 'clerestorylaw2.LookOwners'. -/
def lookOwnersCard : Claim7 := { stood := { row := lookOwnersRow, standIns := [], harness := (true, "05525727dd1e020a964a97ba994178ed9c934b4ccf5b5c0a7ba2047d35e27231"), looks := true }, kinds := [], alts := [], laidByText := true, laidKinds := [.data, .data, .data, .data, .sentinel, .sentinel, .data, .data, .pinned, .pinned], laidTests := true, laidLooks := .later }
def LookOwnersCardSaid : Prop := Claim7.holds Tryz.pinned (.plain (OpenSpec.ofChange lookOwnersSpec)) lookOwnersCard

/-- THE TIED CARD OF 'clerestorylaw2.CountNumbers'. -/
def countNumbersCard : Claim7 := { stood := { row := countNumbersRow, standIns := [], harness := (true, "05525727dd1e020a964a97ba994178ed9c934b4ccf5b5c0a7ba2047d35e27231"), looks := true }, kinds := [], alts := [], laidByText := true, laidKinds := [.data, .data, .data, .data, .sentinel, .sentinel, .pinned, .pinned], laidTests := true, laidLooks := .later }
def CountNumbersCardSaid : Prop := Claim7.holds Tryz.pinned (.plain (OpenSpec.ofChange countNumbersSpec)) countNumbersCard

/-- THE TIED CARD OF 'clerestorylaw2.MediaHolds'. -/
def mediaHoldsCard : Claim7 := { stood := { row := mediaHoldsRow, standIns := [], harness := (true, "05525727dd1e020a964a97ba994178ed9c934b4ccf5b5c0a7ba2047d35e27231"), looks := true }, kinds := [], alts := [], laidByText := true, laidKinds := [.data, .data, .data, .data, .sentinel, .sentinel, .data, .pinned], laidTests := true, laidLooks := .later }
def MediaHoldsCardSaid : Prop := Claim7.holds Tryz.pinned (.plain (OpenSpec.ofChange mediaHoldsSpec)) mediaHoldsCard

/-- THE SECOND FORM's CARD OF 'clerestorylaw2.LookOwners'. -/
def lookOwnersUptoCard : Claim7 := { stood := { row := lookOwnersUptoRow, standIns := [], harness := (true, "05525727dd1e020a964a97ba994178ed9c934b4ccf5b5c0a7ba2047d35e27231"), looks := true }, kinds := [], alts := [], laidByText := true, laidKinds := [.data, .data, .data, .data, .sentinel, .sentinel, .data, .data, .pinned, .pinned], laidTests := true, laidLooks := .later }
def LookOwnersUptoCardSaid : Prop := Claim7.holds Tryz.pinned (.plain (OpenSpec.upto lookOwnersSpec)) lookOwnersUptoCard

/-- THE SECOND FORM's CARD OF 'clerestorylaw2.CountNumbers'. -/
def countNumbersUptoCard : Claim7 := { stood := { row := countNumbersUptoRow, standIns := [], harness := (true, "05525727dd1e020a964a97ba994178ed9c934b4ccf5b5c0a7ba2047d35e27231"), looks := true }, kinds := [], alts := [], laidByText := true, laidKinds := [.data, .data, .data, .data, .sentinel, .sentinel, .pinned, .pinned], laidTests := true, laidLooks := .later }
def CountNumbersUptoCardSaid : Prop := Claim7.holds Tryz.pinned (.plain (OpenSpec.upto countNumbersSpec)) countNumbersUptoCard

/-- THE SECOND FORM's CARD OF 'clerestorylaw2.MediaHolds'. -/
def mediaHoldsUptoCard : Claim7 := { stood := { row := mediaHoldsUptoRow, standIns := [], harness := (true, "05525727dd1e020a964a97ba994178ed9c934b4ccf5b5c0a7ba2047d35e27231"), looks := true }, kinds := [], alts := [], laidByText := true, laidKinds := [.data, .data, .data, .data, .sentinel, .sentinel, .data, .pinned], laidTests := true, laidLooks := .later }
def MediaHoldsUptoCardSaid : Prop := Claim7.holds Tryz.pinned (.plain (OpenSpec.upto mediaHoldsSpec)) mediaHoldsUptoCard
end Rows
end Go.Proofs.YtdiedaeabbcceaaGreatDoor
