/-
  DERIVED. GIVEN WITH THE SEED: THE CARDS: each row of YtabbinbmpeckkaaDoorRows.lean that lists a variable, with what it lists TIED to the program's text (the seventh form; the later family's looks); each row that meets fmt, with fmt's text TOLD by the authors' own Lean function (tested against real Go, not proved from fmt's source: count such statements apart). THE CARD IS WHAT COUNTS. Prove the row's statement (the work); the ties are given (YtabbinbmpeckkaaDoorTie.lean); close each card by the builder's one call (the guide's Derived/Test/ToyasCard.lean, 'card_holds'). Laid BY PROGRAM, IN A SANDBOX (cutbox-door.mjs). By AI agents, Wed Nov 11 2026. No macro, syntax, notation, axiom, sorry.
-/
import Derived.Test.YtabbinbmpeckkaaDoorRows
import GoSem.ClaimSeven
namespace Go.Proofs.YtabbinbmpeckkaaDoor
namespace Rows

/-- THE TIED CARD OF 'clerestorylaw4.CodeChecks'. -/
def codeChecksCard : Claim7 := { stood := { row := codeChecksRow, standIns := [], harness := (true, "44f957e1f3629a0ddf2ff9c3dd5408a70dbaac8966ce68526f01159edf047e1e"), looks := false }, kinds := [], alts := [], laidByText := true, laidKinds := [.listed, .data], laidTests := true, laidLooks := .later }
def CodeChecksCardSaid : Prop := Claim7.holds Tryd.pinned (.plain (OpenSpec.ofChange codeChecksSpec)) codeChecksCard

/-- THE TIED CARD OF 'clerestorylaw4.ValueSigns'. -/
def valueSignsCard : Claim7 := { stood := { row := valueSignsRow, standIns := [], harness := (true, "44f957e1f3629a0ddf2ff9c3dd5408a70dbaac8966ce68526f01159edf047e1e"), looks := false }, kinds := [], alts := [], laidByText := true, laidKinds := [.data, .data, .data], laidTests := true, laidLooks := .later }
def ValueSignsCardSaid : Prop := Claim7.holds Tryd.pinned (.plain (OpenSpec.ofChange valueSignsSpec)) valueSignsCard

/-- THE TIED CARD OF 'clerestorylaw4.UrlCodes'. -/
def urlCodesCard : Claim7 := { stood := { row := urlCodesRow, standIns := [], harness := (true, "44f957e1f3629a0ddf2ff9c3dd5408a70dbaac8966ce68526f01159edf047e1e"), looks := false }, kinds := [], alts := [], laidByText := true, laidKinds := [.data, .pinned, .pinned], laidTests := true, laidLooks := .later }
def UrlCodesCardSaid : Prop := Claim7.holds Tryd.pinned (.plain (OpenSpec.ofChange urlCodesSpec)) urlCodesCard

/-- THE TIED CARD OF 'clerestorylaw2.TokenNumbers'. -/
def tokenNumbersCard : Claim7 := { stood := { row := tokenNumbersRow, standIns := [], harness := (true, "44f957e1f3629a0ddf2ff9c3dd5408a70dbaac8966ce68526f01159edf047e1e"), looks := false }, kinds := [], alts := [], laidByText := true, laidKinds := [.data, .pinned], laidTests := true, laidLooks := .later }
def TokenNumbersCardSaid : Prop := Claim7.holds Tryd.pinned (.plain (OpenSpec.ofChange tokenNumbersSpec)) tokenNumbersCard

/-- THE TIED CARD OF 'clerestorylaw2.TokenCuts'. -/
def tokenCutsCard : Claim7 := { stood := { row := tokenCutsRow, standIns := [], harness := (true, "44f957e1f3629a0ddf2ff9c3dd5408a70dbaac8966ce68526f01159edf047e1e"), looks := false }, kinds := [], alts := [], laidByText := true, laidKinds := [.data, .pinned], laidTests := true, laidLooks := .later }
def TokenCutsCardSaid : Prop := Claim7.holds Tryd.pinned (.plain (OpenSpec.ofChange tokenCutsSpec)) tokenCutsCard

/-- THE TIED CARD OF 'clerestorylaw4.JlexSays'. -/
def jlexSaysCard : Claim7 := { stood := { row := jlexSaysRow, standIns := [], harness := (true, "44f957e1f3629a0ddf2ff9c3dd5408a70dbaac8966ce68526f01159edf047e1e"), looks := false }, kinds := [], alts := [], laidByText := true, laidKinds := [.listed, .data], laidTests := true, laidLooks := .later }
def JlexSaysCardSaid : Prop := Claim7.holds Tryd.pinned (.plain (OpenSpec.ofChange jlexSaysSpec)) jlexSaysCard

/-- THE TIED CARD OF 'clerestorylaw2.TokenTexts'. -/
def tokenTextsCard : Claim7 := { stood := { row := tokenTextsRow, standIns := [], harness := (true, "44f957e1f3629a0ddf2ff9c3dd5408a70dbaac8966ce68526f01159edf047e1e"), looks := false }, kinds := [], alts := [], laidByText := true, laidKinds := [.data, .pinned], laidTests := true, laidLooks := .later }
def TokenTextsCardSaid : Prop := Claim7.holds Tryd.pinned (.plain (OpenSpec.ofChange tokenTextsSpec)) tokenTextsCard

/-- THE TIED CARD OF 'clerestorylaw2.DimReads'. -/
def dimReadsCard : Claim7 := { stood := { row := dimReadsRow, standIns := [], harness := (true, "44f957e1f3629a0ddf2ff9c3dd5408a70dbaac8966ce68526f01159edf047e1e"), looks := false }, kinds := [], alts := [], laidByText := true, laidKinds := [.data, .widerDeep, .pinned], laidTests := true, laidLooks := .later }
def DimReadsCardSaid : Prop := Claim7.holds Tryd.pinned (.plain (OpenSpec.ofChange dimReadsSpec)) dimReadsCard

/-- THE TIED CARD OF 'clerestorylaw2.RuleHeads'. -/
def ruleHeadsCard : Claim7 := { stood := { row := ruleHeadsRow, standIns := [], harness := (true, "44f957e1f3629a0ddf2ff9c3dd5408a70dbaac8966ce68526f01159edf047e1e"), looks := false }, kinds := [], alts := [], laidByText := true, laidKinds := [.data, .pinned], laidTests := true, laidLooks := .later }
def RuleHeadsCardSaid : Prop := Claim7.holds Tryd.pinned (.plain (OpenSpec.ofChange ruleHeadsSpec)) ruleHeadsCard

/-- THE TIED CARD OF 'clerestorylaw4.EventSays'. -/
def eventSaysCard : Claim7 := { stood := { row := eventSaysRow, standIns := [], harness := (true, "44f957e1f3629a0ddf2ff9c3dd5408a70dbaac8966ce68526f01159edf047e1e"), looks := false }, kinds := [], alts := [], laidByText := true, laidKinds := [.data, .pinned], laidTests := true, laidLooks := .later }
def EventSaysCardSaid : Prop := Claim7.holds Tryd.pinned (.plain (OpenSpec.ofChange eventSaysSpec)) eventSaysCard

/-- THE TIED CARD OF 'clerestorylaw2.DimPxs'. -/
def dimPxsCard : Claim7 := { stood := { row := dimPxsRow, standIns := [], harness := (true, "44f957e1f3629a0ddf2ff9c3dd5408a70dbaac8966ce68526f01159edf047e1e"), looks := false }, kinds := [], alts := [], laidByText := true, laidKinds := [.data, .widerDeep, .pinned], laidTests := true, laidLooks := .later }
def DimPxsCardSaid : Prop := Claim7.holds Tryd.pinned (.plain (OpenSpec.ofChange dimPxsSpec)) dimPxsCard

/-- THE TIED CARD OF 'clerestorylaw2.CountMarks'. -/
def countMarksCard : Claim7 := { stood := { row := countMarksRow, standIns := [], harness := (true, "44f957e1f3629a0ddf2ff9c3dd5408a70dbaac8966ce68526f01159edf047e1e"), looks := false }, kinds := [], alts := [], laidByText := true, laidKinds := [.data, .data, .data, .data, .pinned, .pinned], laidTests := true, laidLooks := .later }
def CountMarksCardSaid : Prop := Claim7.holds Tryd.pinned (.plain (OpenSpec.ofChange countMarksSpec)) countMarksCard

/-- THE SECOND FORM's CARD OF 'clerestorylaw4.CodeChecks'. -/
def codeChecksUptoCard : Claim7 := { stood := { row := codeChecksUptoRow, standIns := [], harness := (true, "44f957e1f3629a0ddf2ff9c3dd5408a70dbaac8966ce68526f01159edf047e1e"), looks := false }, kinds := [], alts := [], laidByText := true, laidKinds := [.listed, .data], laidTests := true, laidLooks := .later }
def CodeChecksUptoCardSaid : Prop := Claim7.holds Tryd.pinned (.plain (OpenSpec.upto codeChecksSpec)) codeChecksUptoCard

/-- THE SECOND FORM's CARD OF 'clerestorylaw4.ValueSigns'. -/
def valueSignsUptoCard : Claim7 := { stood := { row := valueSignsUptoRow, standIns := [], harness := (true, "44f957e1f3629a0ddf2ff9c3dd5408a70dbaac8966ce68526f01159edf047e1e"), looks := false }, kinds := [], alts := [], laidByText := true, laidKinds := [.data, .data, .data], laidTests := true, laidLooks := .later }
def ValueSignsUptoCardSaid : Prop := Claim7.holds Tryd.pinned (.plain (OpenSpec.upto valueSignsSpec)) valueSignsUptoCard

/-- THE SECOND FORM's CARD OF 'clerestorylaw4.UrlCodes'. -/
def urlCodesUptoCard : Claim7 := { stood := { row := urlCodesUptoRow, standIns := [], harness := (true, "44f957e1f3629a0ddf2ff9c3dd5408a70dbaac8966ce68526f01159edf047e1e"), looks := false }, kinds := [], alts := [], laidByText := true, laidKinds := [.data, .pinned, .pinned], laidTests := true, laidLooks := .later }
def UrlCodesUptoCardSaid : Prop := Claim7.holds Tryd.pinned (.plain (OpenSpec.upto urlCodesSpec)) urlCodesUptoCard

/-- THE SECOND FORM's CARD OF 'clerestorylaw2.TokenNumbers'. -/
def tokenNumbersUptoCard : Claim7 := { stood := { row := tokenNumbersUptoRow, standIns := [], harness := (true, "44f957e1f3629a0ddf2ff9c3dd5408a70dbaac8966ce68526f01159edf047e1e"), looks := false }, kinds := [], alts := [], laidByText := true, laidKinds := [.data, .pinned], laidTests := true, laidLooks := .later }
def TokenNumbersUptoCardSaid : Prop := Claim7.holds Tryd.pinned (.plain (OpenSpec.upto tokenNumbersSpec)) tokenNumbersUptoCard

/-- THE SECOND FORM's CARD OF 'clerestorylaw2.TokenCuts'. -/
def tokenCutsUptoCard : Claim7 := { stood := { row := tokenCutsUptoRow, standIns := [], harness := (true, "44f957e1f3629a0ddf2ff9c3dd5408a70dbaac8966ce68526f01159edf047e1e"), looks := false }, kinds := [], alts := [], laidByText := true, laidKinds := [.data, .pinned], laidTests := true, laidLooks := .later }
def TokenCutsUptoCardSaid : Prop := Claim7.holds Tryd.pinned (.plain (OpenSpec.upto tokenCutsSpec)) tokenCutsUptoCard

/-- THE SECOND FORM's CARD OF 'clerestorylaw4.JlexSays'. -/
def jlexSaysUptoCard : Claim7 := { stood := { row := jlexSaysUptoRow, standIns := [], harness := (true, "44f957e1f3629a0ddf2ff9c3dd5408a70dbaac8966ce68526f01159edf047e1e"), looks := false }, kinds := [], alts := [], laidByText := true, laidKinds := [.listed, .data], laidTests := true, laidLooks := .later }
def JlexSaysUptoCardSaid : Prop := Claim7.holds Tryd.pinned (.plain (OpenSpec.upto jlexSaysSpec)) jlexSaysUptoCard

/-- THE SECOND FORM's CARD OF 'clerestorylaw2.TokenTexts'. -/
def tokenTextsUptoCard : Claim7 := { stood := { row := tokenTextsUptoRow, standIns := [], harness := (true, "44f957e1f3629a0ddf2ff9c3dd5408a70dbaac8966ce68526f01159edf047e1e"), looks := false }, kinds := [], alts := [], laidByText := true, laidKinds := [.data, .pinned], laidTests := true, laidLooks := .later }
def TokenTextsUptoCardSaid : Prop := Claim7.holds Tryd.pinned (.plain (OpenSpec.upto tokenTextsSpec)) tokenTextsUptoCard

/-- THE SECOND FORM's CARD OF 'clerestorylaw2.DimReads'. -/
def dimReadsUptoCard : Claim7 := { stood := { row := dimReadsUptoRow, standIns := [], harness := (true, "44f957e1f3629a0ddf2ff9c3dd5408a70dbaac8966ce68526f01159edf047e1e"), looks := false }, kinds := [], alts := [], laidByText := true, laidKinds := [.data, .widerDeep, .pinned], laidTests := true, laidLooks := .later }
def DimReadsUptoCardSaid : Prop := Claim7.holds Tryd.pinned (.plain (OpenSpec.upto dimReadsSpec)) dimReadsUptoCard

/-- THE SECOND FORM's CARD OF 'clerestorylaw2.RuleHeads'. -/
def ruleHeadsUptoCard : Claim7 := { stood := { row := ruleHeadsUptoRow, standIns := [], harness := (true, "44f957e1f3629a0ddf2ff9c3dd5408a70dbaac8966ce68526f01159edf047e1e"), looks := false }, kinds := [], alts := [], laidByText := true, laidKinds := [.data, .pinned], laidTests := true, laidLooks := .later }
def RuleHeadsUptoCardSaid : Prop := Claim7.holds Tryd.pinned (.plain (OpenSpec.upto ruleHeadsSpec)) ruleHeadsUptoCard

/-- THE SECOND FORM's CARD OF 'clerestorylaw4.EventSays'. -/
def eventSaysUptoCard : Claim7 := { stood := { row := eventSaysUptoRow, standIns := [], harness := (true, "44f957e1f3629a0ddf2ff9c3dd5408a70dbaac8966ce68526f01159edf047e1e"), looks := false }, kinds := [], alts := [], laidByText := true, laidKinds := [.data, .pinned], laidTests := true, laidLooks := .later }
def EventSaysUptoCardSaid : Prop := Claim7.holds Tryd.pinned (.plain (OpenSpec.upto eventSaysSpec)) eventSaysUptoCard

/-- THE SECOND FORM's CARD OF 'clerestorylaw2.DimPxs'. -/
def dimPxsUptoCard : Claim7 := { stood := { row := dimPxsUptoRow, standIns := [], harness := (true, "44f957e1f3629a0ddf2ff9c3dd5408a70dbaac8966ce68526f01159edf047e1e"), looks := false }, kinds := [], alts := [], laidByText := true, laidKinds := [.data, .widerDeep, .pinned], laidTests := true, laidLooks := .later }
def DimPxsUptoCardSaid : Prop := Claim7.holds Tryd.pinned (.plain (OpenSpec.upto dimPxsSpec)) dimPxsUptoCard

/-- THE SECOND FORM's CARD OF 'clerestorylaw2.CountMarks'. -/
def countMarksUptoCard : Claim7 := { stood := { row := countMarksUptoRow, standIns := [], harness := (true, "44f957e1f3629a0ddf2ff9c3dd5408a70dbaac8966ce68526f01159edf047e1e"), looks := false }, kinds := [], alts := [], laidByText := true, laidKinds := [.data, .data, .data, .data, .pinned, .pinned], laidTests := true, laidLooks := .later }
def CountMarksUptoCardSaid : Prop := Claim7.holds Tryd.pinned (.plain (OpenSpec.upto countMarksSpec)) countMarksUptoCard
end Rows
end Go.Proofs.YtabbinbmpeckkaaDoor
