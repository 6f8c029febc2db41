/-
  DERIVED. GIVEN WITH THE SEED: THE CARDS: each row of YtnlgkipjpbdodaaDoorRows.lean that lists a variable, with what it lists TIED to the program's text (the seventh form; the later family's looks); each row that meets fmt, with fmt's text TOLD by the authors' own Lean function (tested against real Go, not proved from fmt's source: count such statements apart). THE CARD IS WHAT COUNTS. Prove the row's statement (the work); the ties are given (YtnlgkipjpbdodaaDoorTie.lean); close each card by the builder's one call (the guide's Derived/Test/ToyasCard.lean, 'card_holds'). Laid BY PROGRAM, IN A SANDBOX (cutbox-door.mjs). By AI agents, Wed Nov 11 2026. No macro, syntax, notation, axiom, sorry.
-/
import Derived.Test.YtnlgkipjpbdodaaDoorRows
import GoSem.ClaimSeven
namespace Go.Proofs.YtnlgkipjpbdodaaDoor
namespace Rows

/-- THE TIED CARD OF 'laws.FnExactTableKeeps'. -/
def fnExactTableKeepsCard : Claim7 := { stood := { row := fnExactTableKeepsRow, standIns := [], harness := (true, "bcd15fe0aca284c2d0f07f364d6a0e302703fa93344c269ba3d2f06ca594967f"), looks := false }, kinds := [], alts := [], laidByText := true, laidKinds := [.data, .data], laidTests := true, laidLooks := .later }
def FnExactTableKeepsCardSaid : Prop := Claim7.holds Tryd.pinned (.plain (OpenSpec.ofChange fnExactTableKeepsSpec)) fnExactTableKeepsCard

/-- THE TIED CARD OF 'laws.FnFade'. -/
def fnFadeCard : Claim7 := { stood := { row := fnFadeRow, standIns := [], harness := (true, "bcd15fe0aca284c2d0f07f364d6a0e302703fa93344c269ba3d2f06ca594967f"), looks := false }, kinds := [], alts := [], laidByText := true, laidKinds := [.data, .data], laidTests := true, laidLooks := .later }
def FnFadeCardSaid : Prop := Claim7.holds Tryd.pinned (.plain (OpenSpec.ofChange fnFadeSpec)) fnFadeCard

/-- THE TIED CARD OF 'laws.FnExactTableEnergy'. -/
def fnExactTableEnergyCard : Claim7 := { stood := { row := fnExactTableEnergyRow, standIns := [], harness := (true, "bcd15fe0aca284c2d0f07f364d6a0e302703fa93344c269ba3d2f06ca594967f"), looks := false }, kinds := [], alts := [], laidByText := true, laidKinds := [.data, .data], laidTests := true, laidLooks := .later }
def FnExactTableEnergyCardSaid : Prop := Claim7.holds Tryd.pinned (.plain (OpenSpec.ofChange fnExactTableEnergySpec)) fnExactTableEnergyCard

/-- THE TIED CARD OF 'laws.FnExactTableOf'. -/
def fnExactTableOfCard : Claim7 := { stood := { row := fnExactTableOfRow, standIns := [], harness := (true, "bcd15fe0aca284c2d0f07f364d6a0e302703fa93344c269ba3d2f06ca594967f"), looks := false }, kinds := [], alts := [], laidByText := true, laidKinds := [.data], laidTests := true, laidLooks := .later }
def FnExactTableOfCardSaid : Prop := Claim7.holds Tryd.pinned (.plain (OpenSpec.ofChange fnExactTableOfSpec)) fnExactTableOfCard

/-- THE TIED CARD OF 'laws.FnTable'. -/
def fnTableCard : Claim7 := { stood := { row := fnTableRow, standIns := [], harness := (true, "bcd15fe0aca284c2d0f07f364d6a0e302703fa93344c269ba3d2f06ca594967f"), looks := false }, kinds := [], alts := [], laidByText := true, laidKinds := [.data], laidTests := true, laidLooks := .later }
def FnTableCardSaid : Prop := Claim7.holds Tryd.pinned (.plain (OpenSpec.ofChange fnTableSpec)) fnTableCard

/-- THE TIED CARD OF 'laws.FnTableOf'. -/
def fnTableOfCard : Claim7 := { stood := { row := fnTableOfRow, standIns := [], harness := (true, "bcd15fe0aca284c2d0f07f364d6a0e302703fa93344c269ba3d2f06ca594967f"), looks := false }, kinds := [], alts := [], laidByText := true, laidKinds := [.data], laidTests := true, laidLooks := .later }
def FnTableOfCardSaid : Prop := Claim7.holds Tryd.pinned (.plain (OpenSpec.ofChange fnTableOfSpec)) fnTableOfCard

/-- THE TIED CARD OF 'laws.FnEnergy'. -/
def fnEnergyCard : Claim7 := { stood := { row := fnEnergyRow, standIns := [], harness := (true, "bcd15fe0aca284c2d0f07f364d6a0e302703fa93344c269ba3d2f06ca594967f"), looks := false }, kinds := [], alts := [], laidByText := true, laidKinds := [.data, .data], laidTests := true, laidLooks := .later }
def FnEnergyCardSaid : Prop := Claim7.holds Tryd.pinned (.plain (OpenSpec.ofChange fnEnergySpec)) fnEnergyCard

/-- THE TIED CARD OF 'laws.FnKeeps'. -/
def fnKeepsCard : Claim7 := { stood := { row := fnKeepsRow, standIns := [], harness := (true, "bcd15fe0aca284c2d0f07f364d6a0e302703fa93344c269ba3d2f06ca594967f"), looks := false }, kinds := [], alts := [], laidByText := true, laidKinds := [.data, .data], laidTests := true, laidLooks := .later }
def FnKeepsCardSaid : Prop := Claim7.holds Tryd.pinned (.plain (OpenSpec.ofChange fnKeepsSpec)) fnKeepsCard

/-- THE SECOND FORM's CARD OF 'laws.FnExactTableKeeps'. -/
def fnExactTableKeepsUptoCard : Claim7 := { stood := { row := fnExactTableKeepsUptoRow, standIns := [], harness := (true, "bcd15fe0aca284c2d0f07f364d6a0e302703fa93344c269ba3d2f06ca594967f"), looks := false }, kinds := [], alts := [], laidByText := true, laidKinds := [.data, .data], laidTests := true, laidLooks := .later }
def FnExactTableKeepsUptoCardSaid : Prop := Claim7.holds Tryd.pinned (.plain (OpenSpec.upto fnExactTableKeepsSpec)) fnExactTableKeepsUptoCard

/-- THE SECOND FORM's CARD OF 'laws.FnFade'. -/
def fnFadeUptoCard : Claim7 := { stood := { row := fnFadeUptoRow, standIns := [], harness := (true, "bcd15fe0aca284c2d0f07f364d6a0e302703fa93344c269ba3d2f06ca594967f"), looks := false }, kinds := [], alts := [], laidByText := true, laidKinds := [.data, .data], laidTests := true, laidLooks := .later }
def FnFadeUptoCardSaid : Prop := Claim7.holds Tryd.pinned (.plain (OpenSpec.upto fnFadeSpec)) fnFadeUptoCard

/-- THE SECOND FORM's CARD OF 'laws.FnExactTableEnergy'. -/
def fnExactTableEnergyUptoCard : Claim7 := { stood := { row := fnExactTableEnergyUptoRow, standIns := [], harness := (true, "bcd15fe0aca284c2d0f07f364d6a0e302703fa93344c269ba3d2f06ca594967f"), looks := false }, kinds := [], alts := [], laidByText := true, laidKinds := [.data, .data], laidTests := true, laidLooks := .later }
def FnExactTableEnergyUptoCardSaid : Prop := Claim7.holds Tryd.pinned (.plain (OpenSpec.upto fnExactTableEnergySpec)) fnExactTableEnergyUptoCard

/-- THE SECOND FORM's CARD OF 'laws.FnExactTableOf'. -/
def fnExactTableOfUptoCard : Claim7 := { stood := { row := fnExactTableOfUptoRow, standIns := [], harness := (true, "bcd15fe0aca284c2d0f07f364d6a0e302703fa93344c269ba3d2f06ca594967f"), looks := false }, kinds := [], alts := [], laidByText := true, laidKinds := [.data], laidTests := true, laidLooks := .later }
def FnExactTableOfUptoCardSaid : Prop := Claim7.holds Tryd.pinned (.plain (OpenSpec.upto fnExactTableOfSpec)) fnExactTableOfUptoCard

/-- THE SECOND FORM's CARD OF 'laws.FnTable'. -/
def fnTableUptoCard : Claim7 := { stood := { row := fnTableUptoRow, standIns := [], harness := (true, "bcd15fe0aca284c2d0f07f364d6a0e302703fa93344c269ba3d2f06ca594967f"), looks := false }, kinds := [], alts := [], laidByText := true, laidKinds := [.data], laidTests := true, laidLooks := .later }
def FnTableUptoCardSaid : Prop := Claim7.holds Tryd.pinned (.plain (OpenSpec.upto fnTableSpec)) fnTableUptoCard

/-- THE SECOND FORM's CARD OF 'laws.FnTableOf'. -/
def fnTableOfUptoCard : Claim7 := { stood := { row := fnTableOfUptoRow, standIns := [], harness := (true, "bcd15fe0aca284c2d0f07f364d6a0e302703fa93344c269ba3d2f06ca594967f"), looks := false }, kinds := [], alts := [], laidByText := true, laidKinds := [.data], laidTests := true, laidLooks := .later }
def FnTableOfUptoCardSaid : Prop := Claim7.holds Tryd.pinned (.plain (OpenSpec.upto fnTableOfSpec)) fnTableOfUptoCard

/-- THE SECOND FORM's CARD OF 'laws.FnEnergy'. -/
def fnEnergyUptoCard : Claim7 := { stood := { row := fnEnergyUptoRow, standIns := [], harness := (true, "bcd15fe0aca284c2d0f07f364d6a0e302703fa93344c269ba3d2f06ca594967f"), looks := false }, kinds := [], alts := [], laidByText := true, laidKinds := [.data, .data], laidTests := true, laidLooks := .later }
def FnEnergyUptoCardSaid : Prop := Claim7.holds Tryd.pinned (.plain (OpenSpec.upto fnEnergySpec)) fnEnergyUptoCard

/-- THE SECOND FORM's CARD OF 'laws.FnKeeps'. -/
def fnKeepsUptoCard : Claim7 := { stood := { row := fnKeepsUptoRow, standIns := [], harness := (true, "bcd15fe0aca284c2d0f07f364d6a0e302703fa93344c269ba3d2f06ca594967f"), looks := false }, kinds := [], alts := [], laidByText := true, laidKinds := [.data, .data], laidTests := true, laidLooks := .later }
def FnKeepsUptoCardSaid : Prop := Claim7.holds Tryd.pinned (.plain (OpenSpec.upto fnKeepsSpec)) fnKeepsUptoCard
end Rows
end Go.Proofs.YtnlgkipjpbdodaaDoor
