/-
  DERIVED. GIVEN WITH THE SEED: THE CARDS: each row of YthgabkffamgfaaaGreatDoorRows.lean that lists a variable, with what it lists TIED to the program's text (the seventh form; the later family's looks); each row that meets fmt, with fmt's text TOLD by the authors' own Lean function (tested against real Go, not proved from fmt's source: count such statements apart). THE CARD IS WHAT COUNTS. Prove the row's statement (the work); the ties are given (YthgabkffamgfaaaGreatDoorTie.lean); close each card by the builder's one call (the guide's Derived/Test/ToyasCard.lean, 'card_holds'). Laid BY PROGRAM, IN A SANDBOX (cutbox-door.mjs). By AI agents, Wed Nov 11 2026. No macro, syntax, notation, axiom, sorry.
-/
import Derived.Test.YthgabkffamgfaaaGreatDoorRows
import GoSem.ClaimSeven
namespace Go.Proofs.YthgabkffamgfaaaGreatDoor
namespace Rows

/-- THE TIED CARD OF 'clerestorylaw4.UrlParses'. -/
def urlParsesCard : Claim7 := { stood := { row := urlParsesRow, standIns := [], harness := (true, "9e3bf489767e8f02146e14ce817e266846e792ce8084c24f73b42e2889d88509"), looks := true }, kinds := [], alts := [], laidByText := true, laidKinds := [.data, .data, .data, .data, .sentinel, .sentinel, .pinned, .pinned], laidTests := true, laidLooks := .later }
def UrlParsesCardSaid : Prop := Claim7.holds Tryz.pinned (.plain (OpenSpec.ofChange urlParsesSpec)) urlParsesCard

/-- THE TIED CARD OF 'clerestorylaw4.UrlWrites'. -/
def urlWritesCard : Claim7 := { stood := { row := urlWritesRow, standIns := [], harness := (true, "9e3bf489767e8f02146e14ce817e266846e792ce8084c24f73b42e2889d88509"), looks := true }, kinds := [], alts := [], laidByText := true, laidKinds := [.data, .data, .data, .data, .sentinel, .sentinel, .pinned, .pinned], laidTests := true, laidLooks := .later }
def UrlWritesCardSaid : Prop := Claim7.holds Tryz.pinned (.plain (OpenSpec.ofChange urlWritesSpec)) urlWritesCard

/-- THE TIED CARD OF 'clerestorylaw4.UrlResolves'. -/
def urlResolvesCard : Claim7 := { stood := { row := urlResolvesRow, standIns := [], harness := (true, "9e3bf489767e8f02146e14ce817e266846e792ce8084c24f73b42e2889d88509"), looks := true }, kinds := [], alts := [], laidByText := true, laidKinds := [.data, .data, .data, .data, .sentinel, .sentinel, .pinned, .pinned], laidTests := true, laidLooks := .later }
def UrlResolvesCardSaid : Prop := Claim7.holds Tryz.pinned (.plain (OpenSpec.ofChange urlResolvesSpec)) urlResolvesCard

/-- THE SECOND FORM's CARD OF 'clerestorylaw4.UrlParses'. -/
def urlParsesUptoCard : Claim7 := { stood := { row := urlParsesUptoRow, standIns := [], harness := (true, "9e3bf489767e8f02146e14ce817e266846e792ce8084c24f73b42e2889d88509"), looks := true }, kinds := [], alts := [], laidByText := true, laidKinds := [.data, .data, .data, .data, .sentinel, .sentinel, .pinned, .pinned], laidTests := true, laidLooks := .later }
def UrlParsesUptoCardSaid : Prop := Claim7.holds Tryz.pinned (.plain (OpenSpec.upto urlParsesSpec)) urlParsesUptoCard

/-- THE SECOND FORM's CARD OF 'clerestorylaw4.UrlWrites'. -/
def urlWritesUptoCard : Claim7 := { stood := { row := urlWritesUptoRow, standIns := [], harness := (true, "9e3bf489767e8f02146e14ce817e266846e792ce8084c24f73b42e2889d88509"), looks := true }, kinds := [], alts := [], laidByText := true, laidKinds := [.data, .data, .data, .data, .sentinel, .sentinel, .pinned, .pinned], laidTests := true, laidLooks := .later }
def UrlWritesUptoCardSaid : Prop := Claim7.holds Tryz.pinned (.plain (OpenSpec.upto urlWritesSpec)) urlWritesUptoCard

/-- THE SECOND FORM's CARD OF 'clerestorylaw4.UrlResolves'. -/
def urlResolvesUptoCard : Claim7 := { stood := { row := urlResolvesUptoRow, standIns := [], harness := (true, "9e3bf489767e8f02146e14ce817e266846e792ce8084c24f73b42e2889d88509"), looks := true }, kinds := [], alts := [], laidByText := true, laidKinds := [.data, .data, .data, .data, .sentinel, .sentinel, .pinned, .pinned], laidTests := true, laidLooks := .later }
def UrlResolvesUptoCardSaid : Prop := Claim7.holds Tryz.pinned (.plain (OpenSpec.upto urlResolvesSpec)) urlResolvesUptoCard
end Rows
end Go.Proofs.YthgabkffamgfaaaGreatDoor
