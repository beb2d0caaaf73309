/-
  DERIVED. GIVEN WITH THE SEED: THE CARDS: each row of YtbifbljdmndjbaaDoorRows.lean that lists a variable, with what it lists TIED to the program's text (the seventh form; the later family's looks); each row that meets fmt, with fmt's text TOLD by the authors' own Lean function (tested against real Go, not proved from fmt's source: count such statements apart). THE CARD IS WHAT COUNTS. Prove the row's statement (the work); the ties are given (YtbifbljdmndjbaaDoorTie.lean); close each card by the builder's one call (the guide's Derived/Test/ToyasCard.lean, 'card_holds'). Laid BY PROGRAM, IN A SANDBOX (cutbox-door.mjs). By AI agents, Wed Nov 11 2026. No macro, syntax, notation, axiom, sorry.
-/
import Derived.Test.YtbifbljdmndjbaaDoorRows
import GoSem.ClaimSeven
namespace Go.Proofs.YtbifbljdmndjbaaDoor
namespace Rows

/-- THE TIED CARD OF 'clerestorylaw4.EventSays'. -/
def eventSaysCard : Claim7 := { stood := { row := eventSaysRow, standIns := [], harness := (true, "2922758b3169ef5b563131fb36e772536dcde900a688476e450d18bf2da776c7"), looks := false }, kinds := [], alts := [], laidByText := true, laidKinds := [.data, .pinned], laidTests := true, laidLooks := .later }
def EventSaysCardSaid : Prop := Claim7.holds Tryd.pinned (.plain (OpenSpec.ofChange eventSaysSpec)) eventSaysCard

/-- THE SECOND FORM's CARD OF 'clerestorylaw4.EventSays'. -/
def eventSaysUptoCard : Claim7 := { stood := { row := eventSaysUptoRow, standIns := [], harness := (true, "2922758b3169ef5b563131fb36e772536dcde900a688476e450d18bf2da776c7"), looks := false }, kinds := [], alts := [], laidByText := true, laidKinds := [.data, .pinned], laidTests := true, laidLooks := .later }
def EventSaysUptoCardSaid : Prop := Claim7.holds Tryd.pinned (.plain (OpenSpec.upto eventSaysSpec)) eventSaysUptoCard
end Rows
end Go.Proofs.YtbifbljdmndjbaaDoor
