/-
  DERIVED. GIVEN WITH THE SEED: THE CARDS: each row of YteocjdpjpkjlaaaDoorRows.lean that lists a variable, with what it lists TIED to the program's text (the seventh form; the later family's looks); each row that meets fmt, with fmt's text TOLD by the authors' own Lean function (tested against real Go, not proved from fmt's source: count such statements apart). THE CARD IS WHAT COUNTS. Prove the row's statement (the work); the ties are given (YteocjdpjpkjlaaaDoorTie.lean); close each card by the builder's one call (the guide's Derived/Test/ToyasCard.lean, 'card_holds'). Laid BY PROGRAM, IN A SANDBOX (cutbox-door.mjs). By AI agents, Wed Nov 11 2026. No macro, syntax, notation, axiom, sorry.
-/
import Derived.Test.YteocjdpjpkjlaaaDoorRows
import GoSem.ClaimSeven
namespace Go.Proofs.YteocjdpjpkjlaaaDoor
namespace Rows

/-- THE TIED CARD OF 'clerestorylaw2.PropFits'. -/
def propFitsCard : Claim7 := { stood := { row := propFitsRow, standIns := [], harness := (true, "d4ec2cd499f78f18909c791083c203cbc2ab1881547d6a638530a1d631ea7e88"), looks := true }, kinds := [], alts := [], laidByText := true, laidKinds := [.data, .pinned], laidTests := true, laidLooks := .later }
def PropFitsCardSaid : Prop := Claim7.holds Tryd.pinned (.plain (OpenSpec.ofChange propFitsSpec)) propFitsCard

/-- THE TIED CARD OF 'clerestorylaw2.StyleFits'. -/
def styleFitsCard : Claim7 := { stood := { row := styleFitsRow, standIns := [], harness := (true, "d4ec2cd499f78f18909c791083c203cbc2ab1881547d6a638530a1d631ea7e88"), looks := true }, kinds := [], alts := [], laidByText := true, laidKinds := [.data, .data, .pinned], laidTests := true, laidLooks := .later }
def StyleFitsCardSaid : Prop := Claim7.holds Tryd.pinned (.plain (OpenSpec.ofChange styleFitsSpec)) styleFitsCard

/-- THE TIED CARD OF 'clerestorylaw2.PropTells'. -/
def propTellsCard : Claim7 := { stood := { row := propTellsRow, standIns := [], harness := (true, "d4ec2cd499f78f18909c791083c203cbc2ab1881547d6a638530a1d631ea7e88"), looks := true }, kinds := [], alts := [], laidByText := true, laidKinds := [.data, .data, .data, .data, .pinned], laidTests := true, laidLooks := .later }
def PropTellsCardSaid : Prop := Claim7.holds Tryd.pinned (.plain (OpenSpec.ofChange propTellsSpec)) propTellsCard

/-- THE TIED CARD OF 'clerestorylaw2.ColorReads'. -/
def colorReadsCard : Claim7 := { stood := { row := colorReadsRow, standIns := [], harness := (true, "d4ec2cd499f78f18909c791083c203cbc2ab1881547d6a638530a1d631ea7e88"), looks := true }, kinds := [], alts := [], laidByText := true, laidKinds := [.data, .data, .data, .data, .sentinel, .sentinel, .pinned], laidTests := true, laidLooks := .later }
def ColorReadsCardSaid : Prop := Claim7.holds Tryd.pinned (.plain (OpenSpec.ofChange colorReadsSpec)) colorReadsCard

/-- THE TIED CARD OF 'clerestorylaw2.ColorFades'. -/
def colorFadesCard : Claim7 := { stood := { row := colorFadesRow, standIns := [], harness := (true, "d4ec2cd499f78f18909c791083c203cbc2ab1881547d6a638530a1d631ea7e88"), looks := true }, kinds := [], alts := [], laidByText := true, laidKinds := [.data, .data, .data, .data, .sentinel, .sentinel, .pinned], laidTests := true, laidLooks := .later }
def ColorFadesCardSaid : Prop := Claim7.holds Tryd.pinned (.plain (OpenSpec.ofChange colorFadesSpec)) colorFadesCard

/-- THE TIED CARD OF 'clerestorylaw2.ColorOvers'. -/
def colorOversCard : Claim7 := { stood := { row := colorOversRow, standIns := [], harness := (true, "d4ec2cd499f78f18909c791083c203cbc2ab1881547d6a638530a1d631ea7e88"), looks := true }, kinds := [], alts := [], laidByText := true, laidKinds := [.data, .data, .data, .data, .sentinel, .sentinel, .pinned], laidTests := true, laidLooks := .later }
def ColorOversCardSaid : Prop := Claim7.holds Tryd.pinned (.plain (OpenSpec.ofChange colorOversSpec)) colorOversCard

/-- THE TIED CARD OF 'clerestorylaw2.ColorTells'. -/
def colorTellsCard : Claim7 := { stood := { row := colorTellsRow, standIns := [], harness := (true, "d4ec2cd499f78f18909c791083c203cbc2ab1881547d6a638530a1d631ea7e88"), looks := true }, kinds := [], alts := [], laidByText := true, laidKinds := [.data, .data, .data, .data, .sentinel, .sentinel, .pinned], laidTests := true, laidLooks := .later }
def ColorTellsCardSaid : Prop := Claim7.holds Tryd.pinned (.plain (OpenSpec.ofChange colorTellsSpec)) colorTellsCard

/-- THE SECOND FORM's CARD OF 'clerestorylaw2.PropFits'. -/
def propFitsUptoCard : Claim7 := { stood := { row := propFitsUptoRow, standIns := [], harness := (true, "d4ec2cd499f78f18909c791083c203cbc2ab1881547d6a638530a1d631ea7e88"), looks := true }, kinds := [], alts := [], laidByText := true, laidKinds := [.data, .pinned], laidTests := true, laidLooks := .later }
def PropFitsUptoCardSaid : Prop := Claim7.holds Tryd.pinned (.plain (OpenSpec.upto propFitsSpec)) propFitsUptoCard

/-- THE SECOND FORM's CARD OF 'clerestorylaw2.StyleFits'. -/
def styleFitsUptoCard : Claim7 := { stood := { row := styleFitsUptoRow, standIns := [], harness := (true, "d4ec2cd499f78f18909c791083c203cbc2ab1881547d6a638530a1d631ea7e88"), looks := true }, kinds := [], alts := [], laidByText := true, laidKinds := [.data, .data, .pinned], laidTests := true, laidLooks := .later }
def StyleFitsUptoCardSaid : Prop := Claim7.holds Tryd.pinned (.plain (OpenSpec.upto styleFitsSpec)) styleFitsUptoCard

/-- THE SECOND FORM's CARD OF 'clerestorylaw2.PropTells'. -/
def propTellsUptoCard : Claim7 := { stood := { row := propTellsUptoRow, standIns := [], harness := (true, "d4ec2cd499f78f18909c791083c203cbc2ab1881547d6a638530a1d631ea7e88"), looks := true }, kinds := [], alts := [], laidByText := true, laidKinds := [.data, .data, .data, .data, .pinned], laidTests := true, laidLooks := .later }
def PropTellsUptoCardSaid : Prop := Claim7.holds Tryd.pinned (.plain (OpenSpec.upto propTellsSpec)) propTellsUptoCard

/-- THE SECOND FORM's CARD OF 'clerestorylaw2.ColorReads'. -/
def colorReadsUptoCard : Claim7 := { stood := { row := colorReadsUptoRow, standIns := [], harness := (true, "d4ec2cd499f78f18909c791083c203cbc2ab1881547d6a638530a1d631ea7e88"), looks := true }, kinds := [], alts := [], laidByText := true, laidKinds := [.data, .data, .data, .data, .sentinel, .sentinel, .pinned], laidTests := true, laidLooks := .later }
def ColorReadsUptoCardSaid : Prop := Claim7.holds Tryd.pinned (.plain (OpenSpec.upto colorReadsSpec)) colorReadsUptoCard

/-- THE SECOND FORM's CARD OF 'clerestorylaw2.ColorFades'. -/
def colorFadesUptoCard : Claim7 := { stood := { row := colorFadesUptoRow, standIns := [], harness := (true, "d4ec2cd499f78f18909c791083c203cbc2ab1881547d6a638530a1d631ea7e88"), looks := true }, kinds := [], alts := [], laidByText := true, laidKinds := [.data, .data, .data, .data, .sentinel, .sentinel, .pinned], laidTests := true, laidLooks := .later }
def ColorFadesUptoCardSaid : Prop := Claim7.holds Tryd.pinned (.plain (OpenSpec.upto colorFadesSpec)) colorFadesUptoCard

/-- THE SECOND FORM's CARD OF 'clerestorylaw2.ColorOvers'. -/
def colorOversUptoCard : Claim7 := { stood := { row := colorOversUptoRow, standIns := [], harness := (true, "d4ec2cd499f78f18909c791083c203cbc2ab1881547d6a638530a1d631ea7e88"), looks := true }, kinds := [], alts := [], laidByText := true, laidKinds := [.data, .data, .data, .data, .sentinel, .sentinel, .pinned], laidTests := true, laidLooks := .later }
def ColorOversUptoCardSaid : Prop := Claim7.holds Tryd.pinned (.plain (OpenSpec.upto colorOversSpec)) colorOversUptoCard

/-- THE SECOND FORM's CARD OF 'clerestorylaw2.ColorTells'. -/
def colorTellsUptoCard : Claim7 := { stood := { row := colorTellsUptoRow, standIns := [], harness := (true, "d4ec2cd499f78f18909c791083c203cbc2ab1881547d6a638530a1d631ea7e88"), looks := true }, kinds := [], alts := [], laidByText := true, laidKinds := [.data, .data, .data, .data, .sentinel, .sentinel, .pinned], laidTests := true, laidLooks := .later }
def ColorTellsUptoCardSaid : Prop := Claim7.holds Tryd.pinned (.plain (OpenSpec.upto colorTellsSpec)) colorTellsUptoCard
end Rows
end Go.Proofs.YteocjdpjpkjlaaaDoor
