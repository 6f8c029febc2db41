/-
  DERIVED. GIVEN WITH THE SEED: THE CARDS: each row of YtlikihnmfdlpbaaDoorRows.lean that lists a variable, with what it lists TIED to the program's text (the seventh form; the later family's looks); each row that meets fmt, with fmt's text TOLD by the authors' own Lean function (tested against real Go, not proved from fmt's source: count such statements apart). THE CARD IS WHAT COUNTS. Prove the row's statement (the work); the ties are given (YtlikihnmfdlpbaaDoorTie.lean); close each card by the builder's one call (the guide's Derived/Test/ToyasCard.lean, 'card_holds'). Laid BY PROGRAM, IN A SANDBOX (cutbox-door.mjs). By AI agents, Wed Nov 11 2026. No macro, syntax, notation, axiom, sorry.
-/
import Derived.Test.YtlikihnmfdlpbaaDoorRows
import GoSem.ClaimSeven
namespace Go.Proofs.YtlikihnmfdlpbaaDoor
namespace Rows

/-- THE TIED CARD OF 'laws.FnExactBenchValid'. -/
def fnExactBenchValidCard : Claim7 := { stood := { row := fnExactBenchValidRow, standIns := [], harness := (true, "99ad7d8779263aa25a20ab513c4c283616208a614c746beb3fc2ee5011a985ad"), looks := true }, kinds := [], alts := [], laidByText := true, laidKinds := [.data, .data, .data, .data, .sentinel, .sentinel, .pinned], laidTests := true, laidLooks := .later }
def FnExactBenchValidCardSaid : Prop := Claim7.holds Tryd.pinned (.plain (OpenSpec.ofChange fnExactBenchValidSpec)) fnExactBenchValidCard

/-- THE TIED CARD OF 'laws.FnExactBenchPieces'. -/
def fnExactBenchPiecesCard : Claim7 := { stood := { row := fnExactBenchPiecesRow, standIns := [], harness := (true, "99ad7d8779263aa25a20ab513c4c283616208a614c746beb3fc2ee5011a985ad"), looks := true }, kinds := [], alts := [], laidByText := true, laidKinds := [.data, .data, .data, .data, .sentinel, .sentinel, .pinned], laidTests := true, laidLooks := .later }
def FnExactBenchPiecesCardSaid : Prop := Claim7.holds Tryd.pinned (.plain (OpenSpec.ofChange fnExactBenchPiecesSpec)) fnExactBenchPiecesCard

/-- THE TIED CARD OF 'laws.FnExactBenchJoin'. -/
def fnExactBenchJoinCard : Claim7 := { stood := { row := fnExactBenchJoinRow, standIns := [], harness := (true, "99ad7d8779263aa25a20ab513c4c283616208a614c746beb3fc2ee5011a985ad"), looks := true }, kinds := [], alts := [], laidByText := true, laidKinds := [.data, .data, .data, .data, .sentinel, .sentinel, .pinned], laidTests := true, laidLooks := .later }
def FnExactBenchJoinCardSaid : Prop := Claim7.holds Tryd.pinned (.plain (OpenSpec.ofChange fnExactBenchJoinSpec)) fnExactBenchJoinCard

/-- THE TIED CARD OF 'laws.FnExactBenchBack'. -/
def fnExactBenchBackCard : Claim7 := { stood := { row := fnExactBenchBackRow, standIns := [], harness := (true, "99ad7d8779263aa25a20ab513c4c283616208a614c746beb3fc2ee5011a985ad"), looks := true }, kinds := [], alts := [], laidByText := true, laidKinds := [.data, .data, .data, .data, .sentinel, .sentinel, .pinned], laidTests := true, laidLooks := .later }
def FnExactBenchBackCardSaid : Prop := Claim7.holds Tryd.pinned (.plain (OpenSpec.ofChange fnExactBenchBackSpec)) fnExactBenchBackCard

/-- THE TIED CARD OF 'laws.FnExactBenchTurned'. -/
def fnExactBenchTurnedCard : Claim7 := { stood := { row := fnExactBenchTurnedRow, standIns := [], harness := (true, "99ad7d8779263aa25a20ab513c4c283616208a614c746beb3fc2ee5011a985ad"), looks := true }, kinds := [], alts := [], laidByText := true, laidKinds := [.data, .data, .data, .data, .sentinel, .sentinel, .pinned], laidTests := true, laidLooks := .later }
def FnExactBenchTurnedCardSaid : Prop := Claim7.holds Tryd.pinned (.plain (OpenSpec.ofChange fnExactBenchTurnedSpec)) fnExactBenchTurnedCard

/-- THE TIED CARD OF 'laws.FnBench'. -/
def fnBenchCard : Claim7 := { stood := { row := fnBenchRow, standIns := [], harness := (true, "99ad7d8779263aa25a20ab513c4c283616208a614c746beb3fc2ee5011a985ad"), looks := true }, kinds := [], alts := [], laidByText := true, laidKinds := [.data, .data, .data, .data, .sentinel, .sentinel, .pinned], laidTests := true, laidLooks := .later }
def FnBenchCardSaid : Prop := Claim7.holds Tryd.pinned (.plain (OpenSpec.ofChange fnBenchSpec)) fnBenchCard

/-- THE TIED CARD OF 'laws.FnPieces'. -/
def fnPiecesCard : Claim7 := { stood := { row := fnPiecesRow, standIns := [], harness := (true, "99ad7d8779263aa25a20ab513c4c283616208a614c746beb3fc2ee5011a985ad"), looks := true }, kinds := [], alts := [], laidByText := true, laidKinds := [.data, .data, .data, .data, .sentinel, .sentinel, .pinned], laidTests := true, laidLooks := .later }
def FnPiecesCardSaid : Prop := Claim7.holds Tryd.pinned (.plain (OpenSpec.ofChange fnPiecesSpec)) fnPiecesCard

/-- THE TIED CARD OF 'laws.FnBenchBack'. -/
def fnBenchBackCard : Claim7 := { stood := { row := fnBenchBackRow, standIns := [], harness := (true, "99ad7d8779263aa25a20ab513c4c283616208a614c746beb3fc2ee5011a985ad"), looks := true }, kinds := [], alts := [], laidByText := true, laidKinds := [.data, .data, .data, .data, .sentinel, .sentinel, .pinned], laidTests := true, laidLooks := .later }
def FnBenchBackCardSaid : Prop := Claim7.holds Tryd.pinned (.plain (OpenSpec.ofChange fnBenchBackSpec)) fnBenchBackCard

/-- THE SECOND FORM's CARD OF 'laws.FnExactBenchValid'. -/
def fnExactBenchValidUptoCard : Claim7 := { stood := { row := fnExactBenchValidUptoRow, standIns := [], harness := (true, "99ad7d8779263aa25a20ab513c4c283616208a614c746beb3fc2ee5011a985ad"), looks := true }, kinds := [], alts := [], laidByText := true, laidKinds := [.data, .data, .data, .data, .sentinel, .sentinel, .pinned], laidTests := true, laidLooks := .later }
def FnExactBenchValidUptoCardSaid : Prop := Claim7.holds Tryd.pinned (.plain (OpenSpec.upto fnExactBenchValidSpec)) fnExactBenchValidUptoCard

/-- THE SECOND FORM's CARD OF 'laws.FnExactBenchPieces'. -/
def fnExactBenchPiecesUptoCard : Claim7 := { stood := { row := fnExactBenchPiecesUptoRow, standIns := [], harness := (true, "99ad7d8779263aa25a20ab513c4c283616208a614c746beb3fc2ee5011a985ad"), looks := true }, kinds := [], alts := [], laidByText := true, laidKinds := [.data, .data, .data, .data, .sentinel, .sentinel, .pinned], laidTests := true, laidLooks := .later }
def FnExactBenchPiecesUptoCardSaid : Prop := Claim7.holds Tryd.pinned (.plain (OpenSpec.upto fnExactBenchPiecesSpec)) fnExactBenchPiecesUptoCard

/-- THE SECOND FORM's CARD OF 'laws.FnExactBenchJoin'. -/
def fnExactBenchJoinUptoCard : Claim7 := { stood := { row := fnExactBenchJoinUptoRow, standIns := [], harness := (true, "99ad7d8779263aa25a20ab513c4c283616208a614c746beb3fc2ee5011a985ad"), looks := true }, kinds := [], alts := [], laidByText := true, laidKinds := [.data, .data, .data, .data, .sentinel, .sentinel, .pinned], laidTests := true, laidLooks := .later }
def FnExactBenchJoinUptoCardSaid : Prop := Claim7.holds Tryd.pinned (.plain (OpenSpec.upto fnExactBenchJoinSpec)) fnExactBenchJoinUptoCard

/-- THE SECOND FORM's CARD OF 'laws.FnExactBenchBack'. -/
def fnExactBenchBackUptoCard : Claim7 := { stood := { row := fnExactBenchBackUptoRow, standIns := [], harness := (true, "99ad7d8779263aa25a20ab513c4c283616208a614c746beb3fc2ee5011a985ad"), looks := true }, kinds := [], alts := [], laidByText := true, laidKinds := [.data, .data, .data, .data, .sentinel, .sentinel, .pinned], laidTests := true, laidLooks := .later }
def FnExactBenchBackUptoCardSaid : Prop := Claim7.holds Tryd.pinned (.plain (OpenSpec.upto fnExactBenchBackSpec)) fnExactBenchBackUptoCard

/-- THE SECOND FORM's CARD OF 'laws.FnExactBenchTurned'. -/
def fnExactBenchTurnedUptoCard : Claim7 := { stood := { row := fnExactBenchTurnedUptoRow, standIns := [], harness := (true, "99ad7d8779263aa25a20ab513c4c283616208a614c746beb3fc2ee5011a985ad"), looks := true }, kinds := [], alts := [], laidByText := true, laidKinds := [.data, .data, .data, .data, .sentinel, .sentinel, .pinned], laidTests := true, laidLooks := .later }
def FnExactBenchTurnedUptoCardSaid : Prop := Claim7.holds Tryd.pinned (.plain (OpenSpec.upto fnExactBenchTurnedSpec)) fnExactBenchTurnedUptoCard

/-- THE SECOND FORM's CARD OF 'laws.FnBench'. -/
def fnBenchUptoCard : Claim7 := { stood := { row := fnBenchUptoRow, standIns := [], harness := (true, "99ad7d8779263aa25a20ab513c4c283616208a614c746beb3fc2ee5011a985ad"), looks := true }, kinds := [], alts := [], laidByText := true, laidKinds := [.data, .data, .data, .data, .sentinel, .sentinel, .pinned], laidTests := true, laidLooks := .later }
def FnBenchUptoCardSaid : Prop := Claim7.holds Tryd.pinned (.plain (OpenSpec.upto fnBenchSpec)) fnBenchUptoCard

/-- THE SECOND FORM's CARD OF 'laws.FnPieces'. -/
def fnPiecesUptoCard : Claim7 := { stood := { row := fnPiecesUptoRow, standIns := [], harness := (true, "99ad7d8779263aa25a20ab513c4c283616208a614c746beb3fc2ee5011a985ad"), looks := true }, kinds := [], alts := [], laidByText := true, laidKinds := [.data, .data, .data, .data, .sentinel, .sentinel, .pinned], laidTests := true, laidLooks := .later }
def FnPiecesUptoCardSaid : Prop := Claim7.holds Tryd.pinned (.plain (OpenSpec.upto fnPiecesSpec)) fnPiecesUptoCard

/-- THE SECOND FORM's CARD OF 'laws.FnBenchBack'. -/
def fnBenchBackUptoCard : Claim7 := { stood := { row := fnBenchBackUptoRow, standIns := [], harness := (true, "99ad7d8779263aa25a20ab513c4c283616208a614c746beb3fc2ee5011a985ad"), looks := true }, kinds := [], alts := [], laidByText := true, laidKinds := [.data, .data, .data, .data, .sentinel, .sentinel, .pinned], laidTests := true, laidLooks := .later }
def FnBenchBackUptoCardSaid : Prop := Claim7.holds Tryd.pinned (.plain (OpenSpec.upto fnBenchBackSpec)) fnBenchBackUptoCard
end Rows
end Go.Proofs.YtlikihnmfdlpbaaDoor
