/-
  DERIVED. GIVEN WITH THE SEED: THE CARDS: each row of YtebldmiopbfmgaaDoorRows.lean that lists a variable, with what it lists TIED to the program's text (the seventh form; the later family's looks); each row that meets fmt, with fmt's text TOLD by the authors' own Lean function (tested against real Go, not proved from fmt's source: count such statements apart). THE CARD IS WHAT COUNTS. Prove the row's statement (the work); the ties are given (YtebldmiopbfmgaaDoorTie.lean); close each card by the builder's one call (the guide's Derived/Test/ToyasCard.lean, 'card_holds'). Laid BY PROGRAM, IN A SANDBOX (cutbox-door.mjs). By AI agents, Wed Nov 11 2026. No macro, syntax, notation, axiom, sorry.
-/
import Derived.Test.YtebldmiopbfmgaaDoorRows
import GoSem.ClaimSeven
namespace Go.Proofs.YtebldmiopbfmgaaDoor
namespace Rows

/-- THE TIED CARD OF 'laws.FnExactFilmBack'. -/
def fnExactFilmBackCard : Claim7 := { stood := { row := fnExactFilmBackRow, standIns := [], harness := (true, "b23e73ffe3ebf6ea81ed395d34e73875d6aeb9ee8fd4f6855c940fcfc7586b7d"), looks := false }, kinds := [], alts := [], laidByText := true, laidKinds := [.data], laidTests := true, laidLooks := .later }
def FnExactFilmBackCardSaid : Prop := Claim7.holds Tryd.pinned (.plain (OpenSpec.ofChange fnExactFilmBackSpec)) fnExactFilmBackCard

/-- THE TIED CARD OF 'laws.FnExactFilmWide'. -/
def fnExactFilmWideCard : Claim7 := { stood := { row := fnExactFilmWideRow, standIns := [], harness := (true, "b23e73ffe3ebf6ea81ed395d34e73875d6aeb9ee8fd4f6855c940fcfc7586b7d"), looks := false }, kinds := [], alts := [], laidByText := true, laidKinds := [.data], laidTests := true, laidLooks := .later }
def FnExactFilmWideCardSaid : Prop := Claim7.holds Tryd.pinned (.plain (OpenSpec.ofChange fnExactFilmWideSpec)) fnExactFilmWideCard

/-- THE TIED CARD OF 'laws.FnExactFilmSingle'. -/
def fnExactFilmSingleCard : Claim7 := { stood := { row := fnExactFilmSingleRow, standIns := [], harness := (true, "b23e73ffe3ebf6ea81ed395d34e73875d6aeb9ee8fd4f6855c940fcfc7586b7d"), looks := false }, kinds := [], alts := [], laidByText := true, laidKinds := [.data], laidTests := true, laidLooks := .later }
def FnExactFilmSingleCardSaid : Prop := Claim7.holds Tryd.pinned (.plain (OpenSpec.ofChange fnExactFilmSingleSpec)) fnExactFilmSingleCard

/-- THE TIED CARD OF 'laws.FnFilmSingle'. -/
def fnFilmSingleCard : Claim7 := { stood := { row := fnFilmSingleRow, standIns := [], harness := (true, "b23e73ffe3ebf6ea81ed395d34e73875d6aeb9ee8fd4f6855c940fcfc7586b7d"), looks := false }, kinds := [], alts := [], laidByText := true, laidKinds := [.data], laidTests := true, laidLooks := .later }
def FnFilmSingleCardSaid : Prop := Claim7.holds Tryd.pinned (.plain (OpenSpec.ofChange fnFilmSingleSpec)) fnFilmSingleCard

/-- THE TIED CARD OF 'laws.FnFilmWide'. -/
def fnFilmWideCard : Claim7 := { stood := { row := fnFilmWideRow, standIns := [], harness := (true, "b23e73ffe3ebf6ea81ed395d34e73875d6aeb9ee8fd4f6855c940fcfc7586b7d"), looks := false }, kinds := [], alts := [], laidByText := true, laidKinds := [.data, .data, .data, .data], laidTests := true, laidLooks := .later }
def FnFilmWideCardSaid : Prop := Claim7.holds Tryd.pinned (.plain (OpenSpec.ofChange fnFilmWideSpec)) fnFilmWideCard

/-- THE SECOND FORM's CARD OF 'laws.FnExactFilmBack'. -/
def fnExactFilmBackUptoCard : Claim7 := { stood := { row := fnExactFilmBackUptoRow, standIns := [], harness := (true, "b23e73ffe3ebf6ea81ed395d34e73875d6aeb9ee8fd4f6855c940fcfc7586b7d"), looks := false }, kinds := [], alts := [], laidByText := true, laidKinds := [.data], laidTests := true, laidLooks := .later }
def FnExactFilmBackUptoCardSaid : Prop := Claim7.holds Tryd.pinned (.plain (OpenSpec.upto fnExactFilmBackSpec)) fnExactFilmBackUptoCard

/-- THE SECOND FORM's CARD OF 'laws.FnExactFilmWide'. -/
def fnExactFilmWideUptoCard : Claim7 := { stood := { row := fnExactFilmWideUptoRow, standIns := [], harness := (true, "b23e73ffe3ebf6ea81ed395d34e73875d6aeb9ee8fd4f6855c940fcfc7586b7d"), looks := false }, kinds := [], alts := [], laidByText := true, laidKinds := [.data], laidTests := true, laidLooks := .later }
def FnExactFilmWideUptoCardSaid : Prop := Claim7.holds Tryd.pinned (.plain (OpenSpec.upto fnExactFilmWideSpec)) fnExactFilmWideUptoCard

/-- THE SECOND FORM's CARD OF 'laws.FnExactFilmSingle'. -/
def fnExactFilmSingleUptoCard : Claim7 := { stood := { row := fnExactFilmSingleUptoRow, standIns := [], harness := (true, "b23e73ffe3ebf6ea81ed395d34e73875d6aeb9ee8fd4f6855c940fcfc7586b7d"), looks := false }, kinds := [], alts := [], laidByText := true, laidKinds := [.data], laidTests := true, laidLooks := .later }
def FnExactFilmSingleUptoCardSaid : Prop := Claim7.holds Tryd.pinned (.plain (OpenSpec.upto fnExactFilmSingleSpec)) fnExactFilmSingleUptoCard

/-- THE SECOND FORM's CARD OF 'laws.FnFilmSingle'. -/
def fnFilmSingleUptoCard : Claim7 := { stood := { row := fnFilmSingleUptoRow, standIns := [], harness := (true, "b23e73ffe3ebf6ea81ed395d34e73875d6aeb9ee8fd4f6855c940fcfc7586b7d"), looks := false }, kinds := [], alts := [], laidByText := true, laidKinds := [.data], laidTests := true, laidLooks := .later }
def FnFilmSingleUptoCardSaid : Prop := Claim7.holds Tryd.pinned (.plain (OpenSpec.upto fnFilmSingleSpec)) fnFilmSingleUptoCard

/-- THE SECOND FORM's CARD OF 'laws.FnFilmWide'. -/
def fnFilmWideUptoCard : Claim7 := { stood := { row := fnFilmWideUptoRow, standIns := [], harness := (true, "b23e73ffe3ebf6ea81ed395d34e73875d6aeb9ee8fd4f6855c940fcfc7586b7d"), looks := false }, kinds := [], alts := [], laidByText := true, laidKinds := [.data, .data, .data, .data], laidTests := true, laidLooks := .later }
def FnFilmWideUptoCardSaid : Prop := Claim7.holds Tryd.pinned (.plain (OpenSpec.upto fnFilmWideSpec)) fnFilmWideUptoCard
end Rows
end Go.Proofs.YtebldmiopbfmgaaDoor
