/-
  DERIVED. GIVEN WITH THE SEED: THE CARDS: each row of YtbdinipcomjmeaaGreatDoorRows.lean that lists a variable, with what it lists TIED to the program's text (the seventh form; the later family's looks); each row that meets fmt, with fmt's text TOLD by the authors' own Lean function (tested against real Go, not proved from fmt's source: count such statements apart). THE CARD IS WHAT COUNTS. Prove the row's statement (the work); the ties are given (YtbdinipcomjmeaaGreatDoorTie.lean); close each card by the builder's one call (the guide's Derived/Test/ToyasCard.lean, 'card_holds'). Laid BY PROGRAM, IN A SANDBOX (cutbox-door.mjs). By AI agents, Wed Nov 11 2026. No macro, syntax, notation, axiom, sorry.
-/
import Derived.Test.YtbdinipcomjmeaaGreatDoorRows
import GoSem.ClaimSeven
namespace Go.Proofs.YtbdinipcomjmeaaGreatDoor
namespace Rows

/-- THE TIED CARD OF 'laws.FnBenchTable'. -/
def fnBenchTableCard : Claim7 := { stood := { row := fnBenchTableRow, standIns := [], harness := (true, "ab59daa78d3412af6eea616f4e0a123ad183d89ea46b2c59b56d1adbef723816"), looks := true }, kinds := [], alts := [], laidByText := true, laidKinds := [.data, .data, .data, .data, .sentinel, .sentinel, .data, .data, .data, .data, .pinned], laidTests := true, laidLooks := .later }
def FnBenchTableCardSaid : Prop := Claim7.holds Tryz.pinned (.plain (OpenSpec.ofChange fnBenchTableSpec)) fnBenchTableCard

/-- THE TIED CARD OF 'laws.FnExactBenchTable'. -/
def fnExactBenchTableCard : Claim7 := { stood := { row := fnExactBenchTableRow, standIns := [], harness := (true, "ab59daa78d3412af6eea616f4e0a123ad183d89ea46b2c59b56d1adbef723816"), looks := true }, kinds := [], alts := [], laidByText := true, laidKinds := [.data, .data, .data, .data, .sentinel, .sentinel, .data, .data, .data, .pinned], laidTests := true, laidLooks := .later }
def FnExactBenchTableCardSaid : Prop := Claim7.holds Tryz.pinned (.plain (OpenSpec.ofChange fnExactBenchTableSpec)) fnExactBenchTableCard

/-- THE SECOND FORM's CARD OF 'laws.FnBenchTable'. -/
def fnBenchTableUptoCard : Claim7 := { stood := { row := fnBenchTableUptoRow, standIns := [], harness := (true, "ab59daa78d3412af6eea616f4e0a123ad183d89ea46b2c59b56d1adbef723816"), looks := true }, kinds := [], alts := [], laidByText := true, laidKinds := [.data, .data, .data, .data, .sentinel, .sentinel, .data, .data, .data, .data, .pinned], laidTests := true, laidLooks := .later }
def FnBenchTableUptoCardSaid : Prop := Claim7.holds Tryz.pinned (.plain (OpenSpec.upto fnBenchTableSpec)) fnBenchTableUptoCard

/-- THE SECOND FORM's CARD OF 'laws.FnExactBenchTable'. -/
def fnExactBenchTableUptoCard : Claim7 := { stood := { row := fnExactBenchTableUptoRow, standIns := [], harness := (true, "ab59daa78d3412af6eea616f4e0a123ad183d89ea46b2c59b56d1adbef723816"), looks := true }, kinds := [], alts := [], laidByText := true, laidKinds := [.data, .data, .data, .data, .sentinel, .sentinel, .data, .data, .data, .pinned], laidTests := true, laidLooks := .later }
def FnExactBenchTableUptoCardSaid : Prop := Claim7.holds Tryz.pinned (.plain (OpenSpec.upto fnExactBenchTableSpec)) fnExactBenchTableUptoCard
end Rows
end Go.Proofs.YtbdinipcomjmeaaGreatDoor
