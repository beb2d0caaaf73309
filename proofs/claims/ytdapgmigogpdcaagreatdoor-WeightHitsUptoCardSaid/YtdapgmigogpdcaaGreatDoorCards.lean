/-
  DERIVED. GIVEN WITH THE SEED: THE CARDS: each row of YtdapgmigogpdcaaGreatDoorRows.lean that lists a variable, with what it lists TIED to the program's text (the seventh form; the later family's looks); each row that meets fmt, with fmt's text TOLD by the authors' own Lean function (tested against real Go, not proved from fmt's source: count such statements apart). THE CARD IS WHAT COUNTS. Prove the row's statement (the work); the ties are given (YtdapgmigogpdcaaGreatDoorTie.lean); close each card by the builder's one call (the guide's Derived/Test/ToyasCard.lean, 'card_holds'). Laid BY PROGRAM, IN A SANDBOX (cutbox-door.mjs). By AI agents, Wed Nov 11 2026. No macro, syntax, notation, axiom, sorry.
-/
import Derived.Test.YtdapgmigogpdcaaGreatDoorRows
import GoSem.ClaimSeven
namespace Go.Proofs.YtdapgmigogpdcaaGreatDoor
namespace Rows

/-- THE TIED CARD OF 'clerestorylaw2.MatchOnes'. -/
def matchOnesCard : Claim7 := { stood := { row := matchOnesRow, standIns := [], harness := (true, "3dafcb6d8b16bd2a7f26de55e6bac447fa6e9373e649c68586eb05dd986e4ed5"), looks := true }, kinds := [], alts := [], laidByText := true, laidKinds := [.data, .data, .data, .data, .sentinel, .sentinel, .pinned], laidTests := true, laidLooks := .later }
def MatchOnesCardSaid : Prop := Claim7.holds Tryz.pinned (.plain (OpenSpec.ofChange matchOnesSpec)) matchOnesCard

/-- THE TIED CARD OF 'clerestorylaw2.MatchIs'. -/
def matchIsCard : Claim7 := { stood := { row := matchIsRow, standIns := [], harness := (true, "3dafcb6d8b16bd2a7f26de55e6bac447fa6e9373e649c68586eb05dd986e4ed5"), looks := true }, kinds := [], alts := [], laidByText := true, laidKinds := [.data, .data, .data, .data, .sentinel, .sentinel, .pinned], laidTests := true, laidLooks := .later }
def MatchIsCardSaid : Prop := Claim7.holds Tryz.pinned (.plain (OpenSpec.ofChange matchIsSpec)) matchIsCard

/-- THE TIED CARD OF 'clerestorylaw2.WeightHits'. -/
def weightHitsCard : Claim7 := { stood := { row := weightHitsRow, standIns := [], harness := (true, "3dafcb6d8b16bd2a7f26de55e6bac447fa6e9373e649c68586eb05dd986e4ed5"), looks := true }, kinds := [], alts := [], laidByText := true, laidKinds := [.data, .data, .data, .data, .sentinel, .sentinel, .pinned], laidTests := true, laidLooks := .later }
def WeightHitsCardSaid : Prop := Claim7.holds Tryz.pinned (.plain (OpenSpec.ofChange weightHitsSpec)) weightHitsCard

/-- THE SECOND FORM's CARD OF 'clerestorylaw2.MatchOnes'. -/
def matchOnesUptoCard : Claim7 := { stood := { row := matchOnesUptoRow, standIns := [], harness := (true, "3dafcb6d8b16bd2a7f26de55e6bac447fa6e9373e649c68586eb05dd986e4ed5"), looks := true }, kinds := [], alts := [], laidByText := true, laidKinds := [.data, .data, .data, .data, .sentinel, .sentinel, .pinned], laidTests := true, laidLooks := .later }
def MatchOnesUptoCardSaid : Prop := Claim7.holds Tryz.pinned (.plain (OpenSpec.upto matchOnesSpec)) matchOnesUptoCard

/-- THE SECOND FORM's CARD OF 'clerestorylaw2.MatchIs'. -/
def matchIsUptoCard : Claim7 := { stood := { row := matchIsUptoRow, standIns := [], harness := (true, "3dafcb6d8b16bd2a7f26de55e6bac447fa6e9373e649c68586eb05dd986e4ed5"), looks := true }, kinds := [], alts := [], laidByText := true, laidKinds := [.data, .data, .data, .data, .sentinel, .sentinel, .pinned], laidTests := true, laidLooks := .later }
def MatchIsUptoCardSaid : Prop := Claim7.holds Tryz.pinned (.plain (OpenSpec.upto matchIsSpec)) matchIsUptoCard

/-- THE SECOND FORM's CARD OF 'clerestorylaw2.WeightHits'. -/
def weightHitsUptoCard : Claim7 := { stood := { row := weightHitsUptoRow, standIns := [], harness := (true, "3dafcb6d8b16bd2a7f26de55e6bac447fa6e9373e649c68586eb05dd986e4ed5"), looks := true }, kinds := [], alts := [], laidByText := true, laidKinds := [.data, .data, .data, .data, .sentinel, .sentinel, .pinned], laidTests := true, laidLooks := .later }
def WeightHitsUptoCardSaid : Prop := Claim7.holds Tryz.pinned (.plain (OpenSpec.upto weightHitsSpec)) weightHitsUptoCard
end Rows
end Go.Proofs.YtdapgmigogpdcaaGreatDoor
