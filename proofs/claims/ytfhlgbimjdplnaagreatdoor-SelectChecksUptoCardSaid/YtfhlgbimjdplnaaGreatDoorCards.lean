/-
  DERIVED. GIVEN WITH THE SEED: THE CARDS: each row of YtfhlgbimjdplnaaGreatDoorRows.lean that lists a variable, with what it lists TIED to the program's text (the seventh form; the later family's looks); each row that meets fmt, with fmt's text TOLD by the authors' own Lean function (tested against real Go, not proved from fmt's source: count such statements apart). THE CARD IS WHAT COUNTS. Prove the row's statement (the work); the ties are given (YtfhlgbimjdplnaaGreatDoorTie.lean); close each card by the builder's one call (the guide's Derived/Test/ToyasCard.lean, 'card_holds'). Laid BY PROGRAM, IN A SANDBOX (cutbox-door.mjs). By AI agents, Wed Nov 11 2026. No macro, syntax, notation, axiom, sorry.
-/
import Derived.Test.YtfhlgbimjdplnaaGreatDoorRows
import GoSem.ClaimSeven
namespace Go.Proofs.YtfhlgbimjdplnaaGreatDoor
namespace Rows

/-- THE TIED CARD OF 'clerestorylaw2.SelectChecks'. -/
def selectChecksCard : Claim7 := { stood := { row := selectChecksRow, standIns := [], harness := (true, "023f6e800dfb652502e4314fe8bc4e1c9cd2eb617c3e7e7c1f118a11bde94347"), looks := true }, kinds := [], alts := [], laidByText := true, laidKinds := [.data, .data, .data, .data, .sentinel, .sentinel, .pinned], laidTests := true, laidLooks := .later }
def SelectChecksCardSaid : Prop := Claim7.holds Tryz.pinned (.plain (OpenSpec.ofChange selectChecksSpec)) selectChecksCard

/-- THE TIED CARD OF 'clerestorylaw2.SelectTells'. -/
def selectTellsCard : Claim7 := { stood := { row := selectTellsRow, standIns := [], harness := (true, "023f6e800dfb652502e4314fe8bc4e1c9cd2eb617c3e7e7c1f118a11bde94347"), looks := true }, kinds := [], alts := [], laidByText := true, laidKinds := [.data, .data, .data, .data, .sentinel, .sentinel, .pinned], laidTests := true, laidLooks := .later }
def SelectTellsCardSaid : Prop := Claim7.holds Tryz.pinned (.plain (OpenSpec.ofChange selectTellsSpec)) selectTellsCard

/-- THE TIED CARD OF 'clerestorylaw2.WeightPaths'. -/
def weightPathsCard : Claim7 := { stood := { row := weightPathsRow, standIns := [], harness := (true, "023f6e800dfb652502e4314fe8bc4e1c9cd2eb617c3e7e7c1f118a11bde94347"), looks := true }, kinds := [], alts := [], laidByText := true, laidKinds := [.data, .data, .data, .data, .sentinel, .sentinel, .pinned], laidTests := true, laidLooks := .later }
def WeightPathsCardSaid : Prop := Claim7.holds Tryz.pinned (.plain (OpenSpec.ofChange weightPathsSpec)) weightPathsCard

/-- THE TIED CARD OF 'clerestorylaw2.MatchOnes'. -/
def matchOnesCard : Claim7 := { stood := { row := matchOnesRow, standIns := [], harness := (true, "023f6e800dfb652502e4314fe8bc4e1c9cd2eb617c3e7e7c1f118a11bde94347"), looks := true }, kinds := [], alts := [], laidByText := true, laidKinds := [.data, .data, .data, .data, .sentinel, .sentinel, .pinned], laidTests := true, laidLooks := .later }
def MatchOnesCardSaid : Prop := Claim7.holds Tryz.pinned (.plain (OpenSpec.ofChange matchOnesSpec)) matchOnesCard

/-- THE SECOND FORM's CARD OF 'clerestorylaw2.SelectChecks'. -/
def selectChecksUptoCard : Claim7 := { stood := { row := selectChecksUptoRow, standIns := [], harness := (true, "023f6e800dfb652502e4314fe8bc4e1c9cd2eb617c3e7e7c1f118a11bde94347"), looks := true }, kinds := [], alts := [], laidByText := true, laidKinds := [.data, .data, .data, .data, .sentinel, .sentinel, .pinned], laidTests := true, laidLooks := .later }
def SelectChecksUptoCardSaid : Prop := Claim7.holds Tryz.pinned (.plain (OpenSpec.upto selectChecksSpec)) selectChecksUptoCard

/-- THE SECOND FORM's CARD OF 'clerestorylaw2.SelectTells'. -/
def selectTellsUptoCard : Claim7 := { stood := { row := selectTellsUptoRow, standIns := [], harness := (true, "023f6e800dfb652502e4314fe8bc4e1c9cd2eb617c3e7e7c1f118a11bde94347"), looks := true }, kinds := [], alts := [], laidByText := true, laidKinds := [.data, .data, .data, .data, .sentinel, .sentinel, .pinned], laidTests := true, laidLooks := .later }
def SelectTellsUptoCardSaid : Prop := Claim7.holds Tryz.pinned (.plain (OpenSpec.upto selectTellsSpec)) selectTellsUptoCard

/-- THE SECOND FORM's CARD OF 'clerestorylaw2.WeightPaths'. -/
def weightPathsUptoCard : Claim7 := { stood := { row := weightPathsUptoRow, standIns := [], harness := (true, "023f6e800dfb652502e4314fe8bc4e1c9cd2eb617c3e7e7c1f118a11bde94347"), looks := true }, kinds := [], alts := [], laidByText := true, laidKinds := [.data, .data, .data, .data, .sentinel, .sentinel, .pinned], laidTests := true, laidLooks := .later }
def WeightPathsUptoCardSaid : Prop := Claim7.holds Tryz.pinned (.plain (OpenSpec.upto weightPathsSpec)) weightPathsUptoCard

/-- THE SECOND FORM's CARD OF 'clerestorylaw2.MatchOnes'. -/
def matchOnesUptoCard : Claim7 := { stood := { row := matchOnesUptoRow, standIns := [], harness := (true, "023f6e800dfb652502e4314fe8bc4e1c9cd2eb617c3e7e7c1f118a11bde94347"), looks := true }, kinds := [], alts := [], laidByText := true, laidKinds := [.data, .data, .data, .data, .sentinel, .sentinel, .pinned], laidTests := true, laidLooks := .later }
def MatchOnesUptoCardSaid : Prop := Claim7.holds Tryz.pinned (.plain (OpenSpec.upto matchOnesSpec)) matchOnesUptoCard
end Rows
end Go.Proofs.YtfhlgbimjdplnaaGreatDoor
