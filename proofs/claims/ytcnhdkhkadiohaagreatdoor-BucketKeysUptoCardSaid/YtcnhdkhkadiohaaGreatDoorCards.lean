/-
  DERIVED. GIVEN WITH THE SEED: THE CARDS: each row of YtcnhdkhkadiohaaGreatDoorRows.lean that lists a variable, with what it lists TIED to the program's text (the seventh form; the later family's looks); each row that meets fmt, with fmt's text TOLD by the authors' own Lean function (tested against real Go, not proved from fmt's source: count such statements apart). THE CARD IS WHAT COUNTS. Prove the row's statement (the work); the ties are given (YtcnhdkhkadiohaaGreatDoorTie.lean); close each card by the builder's one call (the guide's Derived/Test/ToyasCard.lean, 'card_holds'). Laid BY PROGRAM, IN A SANDBOX (cutbox-door.mjs). By AI agents, Wed Nov 11 2026. No macro, syntax, notation, axiom, sorry.
-/
import Derived.Test.YtcnhdkhkadiohaaGreatDoorRows
import GoSem.ClaimSeven
namespace Go.Proofs.YtcnhdkhkadiohaaGreatDoor
namespace Rows

/-- THE TIED CARD OF 'clerestorylaw2.WeightPaths'. -/
def weightPathsCard : Claim7 := { stood := { row := weightPathsRow, standIns := [], harness := (true, "13279eff1ff4ede7442ef4700f9b381afdf718bc27203170c6aca77679529038"), looks := true }, kinds := [], alts := [], laidByText := true, laidKinds := [.data, .data, .data, .data, .sentinel, .sentinel, .pinned], laidTests := true, laidLooks := .later }
def WeightPathsCardSaid : Prop := Claim7.holds Tryz.pinned (.plain (OpenSpec.ofChange weightPathsSpec)) weightPathsCard

/-- THE TIED CARD OF 'clerestorylaw2.SelectTells'. -/
def selectTellsCard : Claim7 := { stood := { row := selectTellsRow, standIns := [], harness := (true, "13279eff1ff4ede7442ef4700f9b381afdf718bc27203170c6aca77679529038"), looks := true }, kinds := [], alts := [], laidByText := true, laidKinds := [.data, .data, .data, .data, .sentinel, .sentinel, .pinned], laidTests := true, laidLooks := .later }
def SelectTellsCardSaid : Prop := Claim7.holds Tryz.pinned (.plain (OpenSpec.ofChange selectTellsSpec)) selectTellsCard

/-- THE TIED CARD OF 'clerestorylaw2.WeightOfs'. -/
def weightOfsCard : Claim7 := { stood := { row := weightOfsRow, standIns := [], harness := (true, "13279eff1ff4ede7442ef4700f9b381afdf718bc27203170c6aca77679529038"), looks := true }, kinds := [], alts := [], laidByText := true, laidKinds := [.data, .data, .data, .data, .sentinel, .sentinel, .pinned], laidTests := true, laidLooks := .later }
def WeightOfsCardSaid : Prop := Claim7.holds Tryz.pinned (.plain (OpenSpec.ofChange weightOfsSpec)) weightOfsCard

/-- THE TIED CARD OF 'clerestorylaw2.BucketKeys'. -/
def bucketKeysCard : Claim7 := { stood := { row := bucketKeysRow, standIns := [], harness := (true, "13279eff1ff4ede7442ef4700f9b381afdf718bc27203170c6aca77679529038"), looks := true }, kinds := [], alts := [], laidByText := true, laidKinds := [.data, .data, .data, .data, .sentinel, .sentinel, .pinned], laidTests := true, laidLooks := .later }
def BucketKeysCardSaid : Prop := Claim7.holds Tryz.pinned (.plain (OpenSpec.ofChange bucketKeysSpec)) bucketKeysCard

/-- THE SECOND FORM's CARD OF 'clerestorylaw2.WeightPaths'. -/
def weightPathsUptoCard : Claim7 := { stood := { row := weightPathsUptoRow, standIns := [], harness := (true, "13279eff1ff4ede7442ef4700f9b381afdf718bc27203170c6aca77679529038"), looks := true }, kinds := [], alts := [], laidByText := true, laidKinds := [.data, .data, .data, .data, .sentinel, .sentinel, .pinned], laidTests := true, laidLooks := .later }
def WeightPathsUptoCardSaid : Prop := Claim7.holds Tryz.pinned (.plain (OpenSpec.upto weightPathsSpec)) weightPathsUptoCard

/-- THE SECOND FORM's CARD OF 'clerestorylaw2.SelectTells'. -/
def selectTellsUptoCard : Claim7 := { stood := { row := selectTellsUptoRow, standIns := [], harness := (true, "13279eff1ff4ede7442ef4700f9b381afdf718bc27203170c6aca77679529038"), looks := true }, kinds := [], alts := [], laidByText := true, laidKinds := [.data, .data, .data, .data, .sentinel, .sentinel, .pinned], laidTests := true, laidLooks := .later }
def SelectTellsUptoCardSaid : Prop := Claim7.holds Tryz.pinned (.plain (OpenSpec.upto selectTellsSpec)) selectTellsUptoCard

/-- THE SECOND FORM's CARD OF 'clerestorylaw2.WeightOfs'. -/
def weightOfsUptoCard : Claim7 := { stood := { row := weightOfsUptoRow, standIns := [], harness := (true, "13279eff1ff4ede7442ef4700f9b381afdf718bc27203170c6aca77679529038"), looks := true }, kinds := [], alts := [], laidByText := true, laidKinds := [.data, .data, .data, .data, .sentinel, .sentinel, .pinned], laidTests := true, laidLooks := .later }
def WeightOfsUptoCardSaid : Prop := Claim7.holds Tryz.pinned (.plain (OpenSpec.upto weightOfsSpec)) weightOfsUptoCard

/-- THE SECOND FORM's CARD OF 'clerestorylaw2.BucketKeys'. -/
def bucketKeysUptoCard : Claim7 := { stood := { row := bucketKeysUptoRow, standIns := [], harness := (true, "13279eff1ff4ede7442ef4700f9b381afdf718bc27203170c6aca77679529038"), looks := true }, kinds := [], alts := [], laidByText := true, laidKinds := [.data, .data, .data, .data, .sentinel, .sentinel, .pinned], laidTests := true, laidLooks := .later }
def BucketKeysUptoCardSaid : Prop := Claim7.holds Tryz.pinned (.plain (OpenSpec.upto bucketKeysSpec)) bucketKeysUptoCard
end Rows
end Go.Proofs.YtcnhdkhkadiohaaGreatDoor
