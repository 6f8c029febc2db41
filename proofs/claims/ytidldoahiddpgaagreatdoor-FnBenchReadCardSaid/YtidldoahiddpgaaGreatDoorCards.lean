/-
  DERIVED. GIVEN WITH THE SEED: THE CARDS: each row of YtidldoahiddpgaaGreatDoorRows.lean that lists a variable, with what it lists TIED to the program's text (the seventh form; the later family's looks); each row that meets fmt, with fmt's text TOLD by the authors' own Lean function (tested against real Go, not proved from fmt's source: count such statements apart). THE CARD IS WHAT COUNTS. Prove the row's statement (the work); the ties are given (YtidldoahiddpgaaGreatDoorTie.lean); close each card by the builder's one call (the guide's Derived/Test/ToyasCard.lean, 'card_holds'). Laid BY PROGRAM, IN A SANDBOX (cutbox-door.mjs). By AI agents, Wed Nov 11 2026. No macro, syntax, notation, axiom, sorry.
-/
import Derived.Test.YtidldoahiddpgaaGreatDoorRows
import GoSem.ClaimSeven
namespace Go.Proofs.YtidldoahiddpgaaGreatDoor
namespace Rows

/-- THE TIED CARD OF 'laws.FnExactBenchRead'. -/
def fnExactBenchReadCard : Claim7 := { stood := { row := fnExactBenchReadRow, standIns := [], harness := (true, "e6815851bf92f97d4ec9253c909d7801baafba469d2715a83e02840fe061764d"), looks := true }, kinds := [], alts := [], laidByText := true, laidKinds := [.data, .data, .data, .data, .sentinel, .sentinel, .data, .data, .data, .pinned], laidTests := true, laidLooks := .later }
def FnExactBenchReadCardSaid : Prop := Claim7.holds Tryz.pinned (.plain (OpenSpec.ofChange fnExactBenchReadSpec)) fnExactBenchReadCard

/-- THE TIED CARD OF 'laws.FnBenchTable'. -/
def fnBenchTableCard : Claim7 := { stood := { row := fnBenchTableRow, standIns := [], harness := (true, "e6815851bf92f97d4ec9253c909d7801baafba469d2715a83e02840fe061764d"), looks := true }, kinds := [], alts := [], laidByText := true, laidKinds := [.data, .data, .data, .data, .sentinel, .sentinel, .data, .data, .data, .data, .pinned], laidTests := true, laidLooks := .later }
def FnBenchTableCardSaid : Prop := Claim7.holds Tryz.pinned (.plain (OpenSpec.ofChange fnBenchTableSpec)) fnBenchTableCard

/-- THE TIED CARD OF 'laws.FnBenchRead'. -/
def fnBenchReadCard : Claim7 := { stood := { row := fnBenchReadRow, standIns := [], harness := (true, "e6815851bf92f97d4ec9253c909d7801baafba469d2715a83e02840fe061764d"), looks := true }, kinds := [], alts := [], laidByText := true, laidKinds := [.data, .data, .data, .data, .sentinel, .sentinel, .data, .data, .data, .pinned], laidTests := true, laidLooks := .later }
def FnBenchReadCardSaid : Prop := Claim7.holds Tryz.pinned (.plain (OpenSpec.ofChange fnBenchReadSpec)) fnBenchReadCard

/-- THE TIED CARD OF 'laws.FnExactBenchMat'. -/
def fnExactBenchMatCard : Claim7 := { stood := { row := fnExactBenchMatRow, standIns := [], harness := (true, "e6815851bf92f97d4ec9253c909d7801baafba469d2715a83e02840fe061764d"), looks := true }, kinds := [], alts := [], laidByText := true, laidKinds := [.data, .data, .data, .data, .sentinel, .sentinel, .data, .data, .data, .data, .pinned], laidTests := true, laidLooks := .later }
def FnExactBenchMatCardSaid : Prop := Claim7.holds Tryz.pinned (.plain (OpenSpec.ofChange fnExactBenchMatSpec)) fnExactBenchMatCard

/-- THE TIED CARD OF 'laws.FnJoin'. -/
def fnJoinCard : Claim7 := { stood := { row := fnJoinRow, standIns := [], harness := (true, "e6815851bf92f97d4ec9253c909d7801baafba469d2715a83e02840fe061764d"), looks := true }, kinds := [], alts := [], laidByText := true, laidKinds := [.data, .data, .data, .data, .sentinel, .sentinel, .data, .data, .data, .pinned], laidTests := true, laidLooks := .later }
def FnJoinCardSaid : Prop := Claim7.holds Tryz.pinned (.plain (OpenSpec.ofChange fnJoinSpec)) fnJoinCard

/-- THE TIED CARD OF 'laws.FnExactBenchRun'. -/
def fnExactBenchRunCard : Claim7 := { stood := { row := fnExactBenchRunRow, standIns := [], harness := (true, "e6815851bf92f97d4ec9253c909d7801baafba469d2715a83e02840fe061764d"), looks := true }, kinds := [], alts := [], laidByText := true, laidKinds := [.data, .data, .data, .data, .sentinel, .sentinel, .data, .data, .data, .pinned], laidTests := true, laidLooks := .later }
def FnExactBenchRunCardSaid : Prop := Claim7.holds Tryz.pinned (.plain (OpenSpec.ofChange fnExactBenchRunSpec)) fnExactBenchRunCard

/-- THE TIED CARD OF 'laws.FnBenchTurned'. -/
def fnBenchTurnedCard : Claim7 := { stood := { row := fnBenchTurnedRow, standIns := [], harness := (true, "e6815851bf92f97d4ec9253c909d7801baafba469d2715a83e02840fe061764d"), looks := true }, kinds := [], alts := [], laidByText := true, laidKinds := [.data, .data, .data, .data, .sentinel, .sentinel, .data, .data, .data, .data, .pinned], laidTests := true, laidLooks := .later }
def FnBenchTurnedCardSaid : Prop := Claim7.holds Tryz.pinned (.plain (OpenSpec.ofChange fnBenchTurnedSpec)) fnBenchTurnedCard

/-- THE TIED CARD OF 'laws.FnBenchMat'. -/
def fnBenchMatCard : Claim7 := { stood := { row := fnBenchMatRow, standIns := [], harness := (true, "e6815851bf92f97d4ec9253c909d7801baafba469d2715a83e02840fe061764d"), looks := true }, kinds := [], alts := [], laidByText := true, laidKinds := [.data, .data, .data, .data, .sentinel, .sentinel, .data, .data, .data, .data, .pinned], laidTests := true, laidLooks := .later }
def FnBenchMatCardSaid : Prop := Claim7.holds Tryz.pinned (.plain (OpenSpec.ofChange fnBenchMatSpec)) fnBenchMatCard

/-- THE TIED CARD OF 'laws.FnExactBenchTable'. -/
def fnExactBenchTableCard : Claim7 := { stood := { row := fnExactBenchTableRow, standIns := [], harness := (true, "e6815851bf92f97d4ec9253c909d7801baafba469d2715a83e02840fe061764d"), looks := true }, kinds := [], alts := [], laidByText := true, laidKinds := [.data, .data, .data, .data, .sentinel, .sentinel, .data, .data, .data, .pinned], laidTests := true, laidLooks := .later }
def FnExactBenchTableCardSaid : Prop := Claim7.holds Tryz.pinned (.plain (OpenSpec.ofChange fnExactBenchTableSpec)) fnExactBenchTableCard

/-- THE TIED CARD OF 'laws.FnRun'. -/
def fnRunCard : Claim7 := { stood := { row := fnRunRow, standIns := [], harness := (true, "e6815851bf92f97d4ec9253c909d7801baafba469d2715a83e02840fe061764d"), looks := true }, kinds := [], alts := [], laidByText := true, laidKinds := [.data, .data, .data, .data, .sentinel, .sentinel, .data, .data, .data, .pinned], laidTests := true, laidLooks := .later }
def FnRunCardSaid : Prop := Claim7.holds Tryz.pinned (.plain (OpenSpec.ofChange fnRunSpec)) fnRunCard

/-- THE SECOND FORM's CARD OF 'laws.FnExactBenchRead'. -/
def fnExactBenchReadUptoCard : Claim7 := { stood := { row := fnExactBenchReadUptoRow, standIns := [], harness := (true, "e6815851bf92f97d4ec9253c909d7801baafba469d2715a83e02840fe061764d"), looks := true }, kinds := [], alts := [], laidByText := true, laidKinds := [.data, .data, .data, .data, .sentinel, .sentinel, .data, .data, .data, .pinned], laidTests := true, laidLooks := .later }
def FnExactBenchReadUptoCardSaid : Prop := Claim7.holds Tryz.pinned (.plain (OpenSpec.upto fnExactBenchReadSpec)) fnExactBenchReadUptoCard

/-- THE SECOND FORM's CARD OF 'laws.FnBenchTable'. -/
def fnBenchTableUptoCard : Claim7 := { stood := { row := fnBenchTableUptoRow, standIns := [], harness := (true, "e6815851bf92f97d4ec9253c909d7801baafba469d2715a83e02840fe061764d"), looks := true }, kinds := [], alts := [], laidByText := true, laidKinds := [.data, .data, .data, .data, .sentinel, .sentinel, .data, .data, .data, .data, .pinned], laidTests := true, laidLooks := .later }
def FnBenchTableUptoCardSaid : Prop := Claim7.holds Tryz.pinned (.plain (OpenSpec.upto fnBenchTableSpec)) fnBenchTableUptoCard

/-- THE SECOND FORM's CARD OF 'laws.FnBenchRead'. -/
def fnBenchReadUptoCard : Claim7 := { stood := { row := fnBenchReadUptoRow, standIns := [], harness := (true, "e6815851bf92f97d4ec9253c909d7801baafba469d2715a83e02840fe061764d"), looks := true }, kinds := [], alts := [], laidByText := true, laidKinds := [.data, .data, .data, .data, .sentinel, .sentinel, .data, .data, .data, .pinned], laidTests := true, laidLooks := .later }
def FnBenchReadUptoCardSaid : Prop := Claim7.holds Tryz.pinned (.plain (OpenSpec.upto fnBenchReadSpec)) fnBenchReadUptoCard

/-- THE SECOND FORM's CARD OF 'laws.FnExactBenchMat'. -/
def fnExactBenchMatUptoCard : Claim7 := { stood := { row := fnExactBenchMatUptoRow, standIns := [], harness := (true, "e6815851bf92f97d4ec9253c909d7801baafba469d2715a83e02840fe061764d"), looks := true }, kinds := [], alts := [], laidByText := true, laidKinds := [.data, .data, .data, .data, .sentinel, .sentinel, .data, .data, .data, .data, .pinned], laidTests := true, laidLooks := .later }
def FnExactBenchMatUptoCardSaid : Prop := Claim7.holds Tryz.pinned (.plain (OpenSpec.upto fnExactBenchMatSpec)) fnExactBenchMatUptoCard

/-- THE SECOND FORM's CARD OF 'laws.FnJoin'. -/
def fnJoinUptoCard : Claim7 := { stood := { row := fnJoinUptoRow, standIns := [], harness := (true, "e6815851bf92f97d4ec9253c909d7801baafba469d2715a83e02840fe061764d"), looks := true }, kinds := [], alts := [], laidByText := true, laidKinds := [.data, .data, .data, .data, .sentinel, .sentinel, .data, .data, .data, .pinned], laidTests := true, laidLooks := .later }
def FnJoinUptoCardSaid : Prop := Claim7.holds Tryz.pinned (.plain (OpenSpec.upto fnJoinSpec)) fnJoinUptoCard

/-- THE SECOND FORM's CARD OF 'laws.FnExactBenchRun'. -/
def fnExactBenchRunUptoCard : Claim7 := { stood := { row := fnExactBenchRunUptoRow, standIns := [], harness := (true, "e6815851bf92f97d4ec9253c909d7801baafba469d2715a83e02840fe061764d"), looks := true }, kinds := [], alts := [], laidByText := true, laidKinds := [.data, .data, .data, .data, .sentinel, .sentinel, .data, .data, .data, .pinned], laidTests := true, laidLooks := .later }
def FnExactBenchRunUptoCardSaid : Prop := Claim7.holds Tryz.pinned (.plain (OpenSpec.upto fnExactBenchRunSpec)) fnExactBenchRunUptoCard

/-- THE SECOND FORM's CARD OF 'laws.FnBenchTurned'. -/
def fnBenchTurnedUptoCard : Claim7 := { stood := { row := fnBenchTurnedUptoRow, standIns := [], harness := (true, "e6815851bf92f97d4ec9253c909d7801baafba469d2715a83e02840fe061764d"), looks := true }, kinds := [], alts := [], laidByText := true, laidKinds := [.data, .data, .data, .data, .sentinel, .sentinel, .data, .data, .data, .data, .pinned], laidTests := true, laidLooks := .later }
def FnBenchTurnedUptoCardSaid : Prop := Claim7.holds Tryz.pinned (.plain (OpenSpec.upto fnBenchTurnedSpec)) fnBenchTurnedUptoCard

/-- THE SECOND FORM's CARD OF 'laws.FnBenchMat'. -/
def fnBenchMatUptoCard : Claim7 := { stood := { row := fnBenchMatUptoRow, standIns := [], harness := (true, "e6815851bf92f97d4ec9253c909d7801baafba469d2715a83e02840fe061764d"), looks := true }, kinds := [], alts := [], laidByText := true, laidKinds := [.data, .data, .data, .data, .sentinel, .sentinel, .data, .data, .data, .data, .pinned], laidTests := true, laidLooks := .later }
def FnBenchMatUptoCardSaid : Prop := Claim7.holds Tryz.pinned (.plain (OpenSpec.upto fnBenchMatSpec)) fnBenchMatUptoCard

/-- THE SECOND FORM's CARD OF 'laws.FnExactBenchTable'. -/
def fnExactBenchTableUptoCard : Claim7 := { stood := { row := fnExactBenchTableUptoRow, standIns := [], harness := (true, "e6815851bf92f97d4ec9253c909d7801baafba469d2715a83e02840fe061764d"), looks := true }, kinds := [], alts := [], laidByText := true, laidKinds := [.data, .data, .data, .data, .sentinel, .sentinel, .data, .data, .data, .pinned], laidTests := true, laidLooks := .later }
def FnExactBenchTableUptoCardSaid : Prop := Claim7.holds Tryz.pinned (.plain (OpenSpec.upto fnExactBenchTableSpec)) fnExactBenchTableUptoCard

/-- THE SECOND FORM's CARD OF 'laws.FnRun'. -/
def fnRunUptoCard : Claim7 := { stood := { row := fnRunUptoRow, standIns := [], harness := (true, "e6815851bf92f97d4ec9253c909d7801baafba469d2715a83e02840fe061764d"), looks := true }, kinds := [], alts := [], laidByText := true, laidKinds := [.data, .data, .data, .data, .sentinel, .sentinel, .data, .data, .data, .pinned], laidTests := true, laidLooks := .later }
def FnRunUptoCardSaid : Prop := Claim7.holds Tryz.pinned (.plain (OpenSpec.upto fnRunSpec)) fnRunUptoCard
end Rows
end Go.Proofs.YtidldoahiddpgaaGreatDoor
