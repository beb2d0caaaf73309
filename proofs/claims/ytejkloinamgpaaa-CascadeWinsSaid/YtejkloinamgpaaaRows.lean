/-
  No cell of these rows narrows 'for every input' (looked for: loops, veiled, ifaces, maps, wideKeys, modest, calm, conditions, laid).
  DERIVED. THE GIVEN ROWS OF THIS SEAT. 9 by the template 'for every input the law returns true; each argument reads behind the call as it read before'; 0 by the template 'total and deterministic' (their statements: YtejkloinamgpaaaTotals.lean).
  GIVEN WITH THE SEED: the statements are not yours to turn. If you find one false, say at which input.
  Laid BY PROGRAM, IN A SANDBOX (cutbox-rows.mjs): the forced cells as the released guide's own fill.sh prints them over the translation 4bd3554ac4d4c844… (all of the seat's roots in one cut). By AI agents, Wed Nov 11 2026. No macro, syntax, notation, axiom, sorry.
-/
import Derived.Test.YtejkloinamgpaaaChecked
import GoSem.Claim
import GoSem.ClaimJoined
import GoSem.ClaimMapViews
import Derived.JoinedTies
import Derived.KernelRfl
namespace Go.Proofs.Ytejkloinamgpaaa
/- THE CELL 'sum', in the pinned program and in every row, IS THE sha256 OF THE DUMP (.gsa) THAT YtejkloinamgpaaaProg.lean LOADS. Nothing in Lean hashes anything: it is a label: what it is worth is what the hold of that sum in a sandbox is worth. -/
noncomputable def Try.pinned : Pinned := { name := "ytejkloinamgpaaa", sum := "4bd3554ac4d4c84492645cdb032006a693e7bfa5093c0f40b165c0ef2bd248aa", checked := Try.checked }
namespace Rows
def none {H : Type} : Left H := { results := [], args := [] }

/-- 'clerestorylaw2.MatchNths': WHATEVER THE INPUT: true; the input reads as it did. -/
def matchNthsSpec : ChangeSpec := { name := "matchNths", fn := fun _ => fun
  | [d1, d2, d3] => { results := [.lit (.bool true)], args := [d1, d2, d3] }
  | _ => none }
def matchNthsRow : OpenClaim := { program := "ytejkloinamgpaaa", sum := "4bd3554ac4d4c84492645cdb032006a693e7bfa5093c0f40b165c0ef2bd248aa", func := "clerestory/clerestorylaw2.MatchNths", spec := "matchNths", apart := false }
def MatchNthsSaid : Prop := matchNthsRow.holds Try.pinned (OpenSpec.ofChange matchNthsSpec)

/-- ITS FALSE NEIGHBOUR: 'it returns false'. Refute it at one input. -/
def matchNthsWrong : ChangeSpec := { name := "matchNths", fn := fun _ => fun
  | [d1, d2, d3] => { results := [.lit (.bool false)], args := [d1, d2, d3] }
  | _ => none }
def MatchNthsWrongFalsely : Prop := matchNthsRow.holds Try.pinned (OpenSpec.ofChange matchNthsWrong)

/-- 'clerestorylaw2.AnimEases': WHATEVER THE INPUT: true; the input reads as it did. -/
def animEasesSpec : ChangeSpec := { name := "animEases", fn := fun _ => fun
  | [d1, d2] => { results := [.lit (.bool true)], args := [d1, d2] }
  | _ => none }
def animEasesRow : OpenClaim := { program := "ytejkloinamgpaaa", sum := "4bd3554ac4d4c84492645cdb032006a693e7bfa5093c0f40b165c0ef2bd248aa", func := "clerestory/clerestorylaw2.AnimEases", spec := "animEases", apart := false }
def AnimEasesSaid : Prop := animEasesRow.holds Try.pinned (OpenSpec.ofChange animEasesSpec)

/-- ITS FALSE NEIGHBOUR: 'it returns false'. Refute it at one input. -/
def animEasesWrong : ChangeSpec := { name := "animEases", fn := fun _ => fun
  | [d1, d2] => { results := [.lit (.bool false)], args := [d1, d2] }
  | _ => none }
def AnimEasesWrongFalsely : Prop := animEasesRow.holds Try.pinned (OpenSpec.ofChange animEasesWrong)

/-- 'clerestorylaw2.CascadeWins': WHATEVER THE INPUT: true; the input reads as it did. -/
def cascadeWinsSpec : ChangeSpec := { name := "cascadeWins", fn := fun _ => fun
  | [d] => { results := [.lit (.bool true)], args := [d] }
  | _ => none }
def cascadeWinsRow : OpenClaim := { program := "ytejkloinamgpaaa", sum := "4bd3554ac4d4c84492645cdb032006a693e7bfa5093c0f40b165c0ef2bd248aa", func := "clerestory/clerestorylaw2.CascadeWins", spec := "cascadeWins", apart := false }
def CascadeWinsSaid : Prop := cascadeWinsRow.holds Try.pinned (OpenSpec.ofChange cascadeWinsSpec)

/-- ITS FALSE NEIGHBOUR: 'it returns false'. Refute it at one input. -/
def cascadeWinsWrong : ChangeSpec := { name := "cascadeWins", fn := fun _ => fun
  | [d] => { results := [.lit (.bool false)], args := [d] }
  | _ => none }
def CascadeWinsWrongFalsely : Prop := cascadeWinsRow.holds Try.pinned (OpenSpec.ofChange cascadeWinsWrong)

/-- 'clerestorylaw2.AnimChecks': WHATEVER THE INPUT: true; the input reads as it did. -/
def animChecksSpec : ChangeSpec := { name := "animChecks", fn := fun _ => fun
  | [d] => { results := [.lit (.bool true)], args := [d] }
  | _ => none }
def animChecksRow : OpenClaim := { program := "ytejkloinamgpaaa", sum := "4bd3554ac4d4c84492645cdb032006a693e7bfa5093c0f40b165c0ef2bd248aa", func := "clerestory/clerestorylaw2.AnimChecks", spec := "animChecks", apart := false }
def AnimChecksSaid : Prop := animChecksRow.holds Try.pinned (OpenSpec.ofChange animChecksSpec)

/-- ITS FALSE NEIGHBOUR: 'it returns false'. Refute it at one input. -/
def animChecksWrong : ChangeSpec := { name := "animChecks", fn := fun _ => fun
  | [d] => { results := [.lit (.bool false)], args := [d] }
  | _ => none }
def AnimChecksWrongFalsely : Prop := animChecksRow.holds Try.pinned (OpenSpec.ofChange animChecksWrong)

/-- 'clerestorylaw2.AnimMixes': WHATEVER THE INPUT: true; the input reads as it did. -/
def animMixesSpec : ChangeSpec := { name := "animMixes", fn := fun _ => fun
  | [d1, d2, d3] => { results := [.lit (.bool true)], args := [d1, d2, d3] }
  | _ => none }
def animMixesRow : OpenClaim := { program := "ytejkloinamgpaaa", sum := "4bd3554ac4d4c84492645cdb032006a693e7bfa5093c0f40b165c0ef2bd248aa", func := "clerestory/clerestorylaw2.AnimMixes", spec := "animMixes", apart := false }
def AnimMixesSaid : Prop := animMixesRow.holds Try.pinned (OpenSpec.ofChange animMixesSpec)

/-- ITS FALSE NEIGHBOUR: 'it returns false'. Refute it at one input. -/
def animMixesWrong : ChangeSpec := { name := "animMixes", fn := fun _ => fun
  | [d1, d2, d3] => { results := [.lit (.bool false)], args := [d1, d2, d3] }
  | _ => none }
def AnimMixesWrongFalsely : Prop := animMixesRow.holds Try.pinned (OpenSpec.ofChange animMixesWrong)

/-- 'clerestorylaw2.PropNames': WHATEVER THE INPUT: true; the input reads as it did. -/
def propNamesSpec : ChangeSpec := { name := "propNames", fn := fun _ => fun
  | [d1, d2] => { results := [.lit (.bool true)], args := [d1, d2] }
  | _ => none }
def propNamesRow : OpenClaim := { program := "ytejkloinamgpaaa", sum := "4bd3554ac4d4c84492645cdb032006a693e7bfa5093c0f40b165c0ef2bd248aa", func := "clerestory/clerestorylaw2.PropNames", spec := "propNames", apart := false }
def PropNamesSaid : Prop := propNamesRow.holds Try.pinned (OpenSpec.ofChange propNamesSpec)

/-- ITS FALSE NEIGHBOUR: 'it returns false'. Refute it at one input. -/
def propNamesWrong : ChangeSpec := { name := "propNames", fn := fun _ => fun
  | [d1, d2] => { results := [.lit (.bool false)], args := [d1, d2] }
  | _ => none }
def PropNamesWrongFalsely : Prop := propNamesRow.holds Try.pinned (OpenSpec.ofChange propNamesWrong)

/-- 'clerestorylaw2.AnimTells': WHATEVER THE INPUT: true; the input reads as it did. -/
def animTellsSpec : ChangeSpec := { name := "animTells", fn := fun _ => fun
  | [d1, d2, d3] => { results := [.lit (.bool true)], args := [d1, d2, d3] }
  | _ => none }
def animTellsRow : OpenClaim := { program := "ytejkloinamgpaaa", sum := "4bd3554ac4d4c84492645cdb032006a693e7bfa5093c0f40b165c0ef2bd248aa", func := "clerestory/clerestorylaw2.AnimTells", spec := "animTells", apart := false }
def AnimTellsSaid : Prop := animTellsRow.holds Try.pinned (OpenSpec.ofChange animTellsSpec)

/-- ITS FALSE NEIGHBOUR: 'it returns false'. Refute it at one input. -/
def animTellsWrong : ChangeSpec := { name := "animTells", fn := fun _ => fun
  | [d1, d2, d3] => { results := [.lit (.bool false)], args := [d1, d2, d3] }
  | _ => none }
def AnimTellsWrongFalsely : Prop := animTellsRow.holds Try.pinned (OpenSpec.ofChange animTellsWrong)

/-- 'clerestorylaw2.CascadeOrders': WHATEVER THE INPUT: true; the input reads as it did. -/
def cascadeOrdersSpec : ChangeSpec := { name := "cascadeOrders", fn := fun _ => fun
  | [d] => { results := [.lit (.bool true)], args := [d] }
  | _ => none }
def cascadeOrdersRow : OpenClaim := { program := "ytejkloinamgpaaa", sum := "4bd3554ac4d4c84492645cdb032006a693e7bfa5093c0f40b165c0ef2bd248aa", func := "clerestory/clerestorylaw2.CascadeOrders", spec := "cascadeOrders", unfollowed := true, recurses := true, apart := false }
def CascadeOrdersSaid : Prop := cascadeOrdersRow.holds Try.pinned (OpenSpec.ofChange cascadeOrdersSpec)

/-- ITS FALSE NEIGHBOUR: 'it returns false'. Refute it at one input. -/
def cascadeOrdersWrong : ChangeSpec := { name := "cascadeOrders", fn := fun _ => fun
  | [d] => { results := [.lit (.bool false)], args := [d] }
  | _ => none }
def CascadeOrdersWrongFalsely : Prop := cascadeOrdersRow.holds Try.pinned (OpenSpec.ofChange cascadeOrdersWrong)

/-- 'clerestorylaw4.HeapAlike': WHATEVER THE INPUT: true; the input reads as it did. -/
def heapAlikeSpec : ChangeSpec := { name := "heapAlike", fn := fun _ => fun
  | [d1, d2, d3, d4] => { results := [.lit (.bool true)], args := [d1, d2, d3, d4] }
  | _ => none }
def heapAlikeRow : OpenClaim := { program := "ytejkloinamgpaaa", sum := "4bd3554ac4d4c84492645cdb032006a693e7bfa5093c0f40b165c0ef2bd248aa", func := "clerestory/clerestorylaw4.HeapAlike", spec := "heapAlike", unfollowed := true, recurses := true, apart := false }
def HeapAlikeSaid : Prop := heapAlikeRow.holds Try.pinned (OpenSpec.ofChange heapAlikeSpec)

/-- ITS FALSE NEIGHBOUR: 'it returns false'. Refute it at one input. -/
def heapAlikeWrong : ChangeSpec := { name := "heapAlike", fn := fun _ => fun
  | [d1, d2, d3, d4] => { results := [.lit (.bool false)], args := [d1, d2, d3, d4] }
  | _ => none }
def HeapAlikeWrongFalsely : Prop := heapAlikeRow.holds Try.pinned (OpenSpec.ofChange heapAlikeWrong)

/- THE SECOND FORM. 'bulk': how many values and letters a reading holds, each counted each time it is reached (what is shared counts as often as it is met; a slice's spare places count too). A statement '..UptoSaid' is the law's where the arguments, and the package variables that the reading takes, are together of bulk at most 1048576: NARROWER than '..Said'. Prove '..Said' where nothing that the law and all that it calls make is longer than what came in: it says more and counts as full. Else prove '..UptoSaid'. A law counts once. -/
mutual
def uptoBulk {H : Type} : DataW H → Nat
  | .lit (.string bytes) => bytes.length + 1
  | .lit _ => 1
  | .nil => 1
  | .ptr d => uptoBulk d + 1
  | .slice elems spare => uptoBulkAll elems + uptoBulkAll spare + 1
  | .agg parts => uptoBulkAll parts + 1
  | .iface _ d => uptoBulk d + 1
  | .map entries => uptoBulkEntries entries + 1
  | .held _ => 1
def uptoBulkAll {H : Type} : List (DataW H) → Nat
  | [] => 0
  | d :: r => uptoBulk d + uptoBulkAll r
def uptoBulkEntries {H : Type} : List (Lit × DataW H) → Nat
  | [] => 0
  | x :: r => uptoBulkEntry x + uptoBulkEntries r
def uptoBulkEntry {H : Type} : Lit × DataW H → Nat
  | (.string bytes, d) => bytes.length + uptoBulk d + 1
  | (_, d) => uptoBulk d + 1
 end
def uptoSmall : (H : Type) → List (DataW H) → Bool := fun _ ds => decide (uptoBulkAll ds ≤ 1048576)
def OpenSpec.upto (s : _root_.Go.ChangeSpec) : _root_.Go.OpenSpec := { _root_.Go.OpenSpec.ofChange s with cond := some uptoSmall }

/-- 'clerestorylaw2.MatchNths', WHERE WHAT IT READS IS OF BULK AT MOST 1048576: true; the input reads as it did. -/
def matchNthsUptoRow : OpenClaim := { program := "ytejkloinamgpaaa", sum := "4bd3554ac4d4c84492645cdb032006a693e7bfa5093c0f40b165c0ef2bd248aa", func := "clerestory/clerestorylaw2.MatchNths", spec := "matchNths", apart := false, narrowed := true }
def MatchNthsUptoSaid : Prop := matchNthsUptoRow.holds Try.pinned (OpenSpec.upto matchNthsSpec)

/-- 'clerestorylaw2.AnimEases', WHERE WHAT IT READS IS OF BULK AT MOST 1048576: true; the input reads as it did. -/
def animEasesUptoRow : OpenClaim := { program := "ytejkloinamgpaaa", sum := "4bd3554ac4d4c84492645cdb032006a693e7bfa5093c0f40b165c0ef2bd248aa", func := "clerestory/clerestorylaw2.AnimEases", spec := "animEases", apart := false, narrowed := true }
def AnimEasesUptoSaid : Prop := animEasesUptoRow.holds Try.pinned (OpenSpec.upto animEasesSpec)

/-- 'clerestorylaw2.CascadeWins', WHERE WHAT IT READS IS OF BULK AT MOST 1048576: true; the input reads as it did. -/
def cascadeWinsUptoRow : OpenClaim := { program := "ytejkloinamgpaaa", sum := "4bd3554ac4d4c84492645cdb032006a693e7bfa5093c0f40b165c0ef2bd248aa", func := "clerestory/clerestorylaw2.CascadeWins", spec := "cascadeWins", apart := false, narrowed := true }
def CascadeWinsUptoSaid : Prop := cascadeWinsUptoRow.holds Try.pinned (OpenSpec.upto cascadeWinsSpec)

/-- 'clerestorylaw2.AnimChecks', WHERE WHAT IT READS IS OF BULK AT MOST 1048576: true; the input reads as it did. -/
def animChecksUptoRow : OpenClaim := { program := "ytejkloinamgpaaa", sum := "4bd3554ac4d4c84492645cdb032006a693e7bfa5093c0f40b165c0ef2bd248aa", func := "clerestory/clerestorylaw2.AnimChecks", spec := "animChecks", apart := false, narrowed := true }
def AnimChecksUptoSaid : Prop := animChecksUptoRow.holds Try.pinned (OpenSpec.upto animChecksSpec)

/-- 'clerestorylaw2.AnimMixes', WHERE WHAT IT READS IS OF BULK AT MOST 1048576: true; the input reads as it did. -/
def animMixesUptoRow : OpenClaim := { program := "ytejkloinamgpaaa", sum := "4bd3554ac4d4c84492645cdb032006a693e7bfa5093c0f40b165c0ef2bd248aa", func := "clerestory/clerestorylaw2.AnimMixes", spec := "animMixes", apart := false, narrowed := true }
def AnimMixesUptoSaid : Prop := animMixesUptoRow.holds Try.pinned (OpenSpec.upto animMixesSpec)

/-- 'clerestorylaw2.PropNames', WHERE WHAT IT READS IS OF BULK AT MOST 1048576: true; the input reads as it did. -/
def propNamesUptoRow : OpenClaim := { program := "ytejkloinamgpaaa", sum := "4bd3554ac4d4c84492645cdb032006a693e7bfa5093c0f40b165c0ef2bd248aa", func := "clerestory/clerestorylaw2.PropNames", spec := "propNames", apart := false, narrowed := true }
def PropNamesUptoSaid : Prop := propNamesUptoRow.holds Try.pinned (OpenSpec.upto propNamesSpec)

/-- 'clerestorylaw2.AnimTells', WHERE WHAT IT READS IS OF BULK AT MOST 1048576: true; the input reads as it did. -/
def animTellsUptoRow : OpenClaim := { program := "ytejkloinamgpaaa", sum := "4bd3554ac4d4c84492645cdb032006a693e7bfa5093c0f40b165c0ef2bd248aa", func := "clerestory/clerestorylaw2.AnimTells", spec := "animTells", apart := false, narrowed := true }
def AnimTellsUptoSaid : Prop := animTellsUptoRow.holds Try.pinned (OpenSpec.upto animTellsSpec)

/-- 'clerestorylaw2.CascadeOrders', WHERE WHAT IT READS IS OF BULK AT MOST 1048576: true; the input reads as it did. -/
def cascadeOrdersUptoRow : OpenClaim := { program := "ytejkloinamgpaaa", sum := "4bd3554ac4d4c84492645cdb032006a693e7bfa5093c0f40b165c0ef2bd248aa", func := "clerestory/clerestorylaw2.CascadeOrders", spec := "cascadeOrders", unfollowed := true, recurses := true, apart := false, narrowed := true }
def CascadeOrdersUptoSaid : Prop := cascadeOrdersUptoRow.holds Try.pinned (OpenSpec.upto cascadeOrdersSpec)

/-- 'clerestorylaw4.HeapAlike', WHERE WHAT IT READS IS OF BULK AT MOST 1048576: true; the input reads as it did. -/
def heapAlikeUptoRow : OpenClaim := { program := "ytejkloinamgpaaa", sum := "4bd3554ac4d4c84492645cdb032006a693e7bfa5093c0f40b165c0ef2bd248aa", func := "clerestory/clerestorylaw4.HeapAlike", spec := "heapAlike", unfollowed := true, recurses := true, apart := false, narrowed := true }
def HeapAlikeUptoSaid : Prop := heapAlikeUptoRow.holds Try.pinned (OpenSpec.upto heapAlikeSpec)

end Rows
end Go.Proofs.Ytejkloinamgpaaa
