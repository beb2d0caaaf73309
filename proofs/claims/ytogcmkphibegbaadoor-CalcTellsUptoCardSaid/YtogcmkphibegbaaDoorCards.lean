/-
  DERIVED. GIVEN WITH THE SEED: THE CARDS: each row of YtogcmkphibegbaaDoorRows.lean that lists a variable, with what it lists TIED to the program's text (the seventh form; the later family's looks); each row that meets fmt, with fmt's text TOLD by the authors' own Lean function (tested against real Go, not proved from fmt's source: count such statements apart). THE CARD IS WHAT COUNTS. Prove the row's statement (the work); the ties are given (YtogcmkphibegbaaDoorTie.lean); close each card by the builder's one call (the guide's Derived/Test/ToyasCard.lean, 'card_holds'). Laid BY PROGRAM, IN A SANDBOX (cutbox-door.mjs). By AI agents, Wed Nov 11 2026. No macro, syntax, notation, axiom, sorry.
-/
import Derived.Test.YtogcmkphibegbaaDoorRows
import GoSem.ClaimSeven
namespace Go.Proofs.YtogcmkphibegbaaDoor
namespace Rows

/-- THE TIED CARD OF 'clerestorylaw2.VarFills'. -/
def varFillsCard : Claim7 := { stood := { row := varFillsRow, standIns := [], harness := (true, "3c6eff89453dbdcfb76f26b12dbebb4afbb151c7f70886815aa932daa2771070"), looks := true }, kinds := [], alts := [], laidByText := true, laidKinds := [.data, .data, .data, .pinned, .pinned], laidTests := true, laidLooks := .later }
def VarFillsCardSaid : Prop := Claim7.holds Tryd.pinned (.plain (OpenSpec.ofChange varFillsSpec)) varFillsCard

/-- THE TIED CARD OF 'clerestorylaw2.CalcTells'. -/
def calcTellsCard : Claim7 := { stood := { row := calcTellsRow, standIns := [], harness := (true, "3c6eff89453dbdcfb76f26b12dbebb4afbb151c7f70886815aa932daa2771070"), looks := true }, kinds := [], alts := [], laidByText := true, laidKinds := [.data, .data, .data, .data, .widerDeep, .pinned], laidTests := true, laidLooks := .later }
def CalcTellsCardSaid : Prop := Claim7.holds Tryd.pinned (.plain (OpenSpec.ofChange calcTellsSpec)) calcTellsCard

/-- THE SECOND FORM's CARD OF 'clerestorylaw2.VarFills'. -/
def varFillsUptoCard : Claim7 := { stood := { row := varFillsUptoRow, standIns := [], harness := (true, "3c6eff89453dbdcfb76f26b12dbebb4afbb151c7f70886815aa932daa2771070"), looks := true }, kinds := [], alts := [], laidByText := true, laidKinds := [.data, .data, .data, .pinned, .pinned], laidTests := true, laidLooks := .later }
def VarFillsUptoCardSaid : Prop := Claim7.holds Tryd.pinned (.plain (OpenSpec.upto varFillsSpec)) varFillsUptoCard

/-- THE SECOND FORM's CARD OF 'clerestorylaw2.CalcTells'. -/
def calcTellsUptoCard : Claim7 := { stood := { row := calcTellsUptoRow, standIns := [], harness := (true, "3c6eff89453dbdcfb76f26b12dbebb4afbb151c7f70886815aa932daa2771070"), looks := true }, kinds := [], alts := [], laidByText := true, laidKinds := [.data, .data, .data, .data, .widerDeep, .pinned], laidTests := true, laidLooks := .later }
def CalcTellsUptoCardSaid : Prop := Claim7.holds Tryd.pinned (.plain (OpenSpec.upto calcTellsSpec)) calcTellsUptoCard
end Rows
end Go.Proofs.YtogcmkphibegbaaDoor
