/-
  DERIVED. GIVEN WITH THE SEED: THE CARDS: each row of YtijnddbnjgoogaaDoorRows.lean that lists a variable, with what it lists TIED to the program's text (the seventh form; the later family's looks); each row that meets fmt, with fmt's text TOLD by the authors' own Lean function (tested against real Go, not proved from fmt's source: count such statements apart). THE CARD IS WHAT COUNTS. Prove the row's statement (the work); the ties are given (YtijnddbnjgoogaaDoorTie.lean); close each card by the builder's one call (the guide's Derived/Test/ToyasCard.lean, 'card_holds'). Laid BY PROGRAM, IN A SANDBOX (cutbox-door.mjs). By AI agents, Wed Nov 11 2026. No macro, syntax, notation, axiom, sorry.
-/
import Derived.Test.YtijnddbnjgoogaaDoorRows
import GoSem.ClaimSeven
namespace Go.Proofs.YtijnddbnjgoogaaDoor
namespace Rows

/-- THE TIED CARD OF 'clerestorylaw2.DimReads'. -/
def dimReadsCard : Claim7 := { stood := { row := dimReadsRow, standIns := [], harness := (true, "c47f4c90621cbba4a23c2088cdcdd765045d4dd78cc1340071807d59ef581c5d"), looks := false }, kinds := [], alts := [], laidByText := true, laidKinds := [.data, .widerDeep, .pinned], laidTests := true, laidLooks := .later }
def DimReadsCardSaid : Prop := Claim7.holds Tryd.pinned (.plain (OpenSpec.ofChange dimReadsSpec)) dimReadsCard

/-- THE TIED CARD OF 'clerestorylaw2.DimTells'. -/
def dimTellsCard : Claim7 := { stood := { row := dimTellsRow, standIns := [], harness := (true, "c47f4c90621cbba4a23c2088cdcdd765045d4dd78cc1340071807d59ef581c5d"), looks := false }, kinds := [], alts := [], laidByText := true, laidKinds := [.data, .data, .data, .data, .widerDeep, .pinned], laidTests := true, laidLooks := .later }
def DimTellsCardSaid : Prop := Claim7.holds Tryd.pinned (.plain (OpenSpec.ofChange dimTellsSpec)) dimTellsCard

/-- THE TIED CARD OF 'clerestorylaw2.DimPxs'. -/
def dimPxsCard : Claim7 := { stood := { row := dimPxsRow, standIns := [], harness := (true, "c47f4c90621cbba4a23c2088cdcdd765045d4dd78cc1340071807d59ef581c5d"), looks := false }, kinds := [], alts := [], laidByText := true, laidKinds := [.data, .widerDeep, .pinned], laidTests := true, laidLooks := .later }
def DimPxsCardSaid : Prop := Claim7.holds Tryd.pinned (.plain (OpenSpec.ofChange dimPxsSpec)) dimPxsCard

/-- THE SECOND FORM's CARD OF 'clerestorylaw2.DimReads'. -/
def dimReadsUptoCard : Claim7 := { stood := { row := dimReadsUptoRow, standIns := [], harness := (true, "c47f4c90621cbba4a23c2088cdcdd765045d4dd78cc1340071807d59ef581c5d"), looks := false }, kinds := [], alts := [], laidByText := true, laidKinds := [.data, .widerDeep, .pinned], laidTests := true, laidLooks := .later }
def DimReadsUptoCardSaid : Prop := Claim7.holds Tryd.pinned (.plain (OpenSpec.upto dimReadsSpec)) dimReadsUptoCard

/-- THE SECOND FORM's CARD OF 'clerestorylaw2.DimTells'. -/
def dimTellsUptoCard : Claim7 := { stood := { row := dimTellsUptoRow, standIns := [], harness := (true, "c47f4c90621cbba4a23c2088cdcdd765045d4dd78cc1340071807d59ef581c5d"), looks := false }, kinds := [], alts := [], laidByText := true, laidKinds := [.data, .data, .data, .data, .widerDeep, .pinned], laidTests := true, laidLooks := .later }
def DimTellsUptoCardSaid : Prop := Claim7.holds Tryd.pinned (.plain (OpenSpec.upto dimTellsSpec)) dimTellsUptoCard

/-- THE SECOND FORM's CARD OF 'clerestorylaw2.DimPxs'. -/
def dimPxsUptoCard : Claim7 := { stood := { row := dimPxsUptoRow, standIns := [], harness := (true, "c47f4c90621cbba4a23c2088cdcdd765045d4dd78cc1340071807d59ef581c5d"), looks := false }, kinds := [], alts := [], laidByText := true, laidKinds := [.data, .widerDeep, .pinned], laidTests := true, laidLooks := .later }
def DimPxsUptoCardSaid : Prop := Claim7.holds Tryd.pinned (.plain (OpenSpec.upto dimPxsSpec)) dimPxsUptoCard
end Rows
end Go.Proofs.YtijnddbnjgoogaaDoor
