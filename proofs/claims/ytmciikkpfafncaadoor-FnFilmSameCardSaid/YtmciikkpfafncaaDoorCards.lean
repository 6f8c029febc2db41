/-
  DERIVED. GIVEN WITH THE SEED: THE CARDS: each row of YtmciikkpfafncaaDoorRows.lean that lists a variable, with what it lists TIED to the program's text (the seventh form; the later family's looks); each row that meets fmt, with fmt's text TOLD by the authors' own Lean function (tested against real Go, not proved from fmt's source: count such statements apart). THE CARD IS WHAT COUNTS. Prove the row's statement (the work); the ties are given (YtmciikkpfafncaaDoorTie.lean); close each card by the builder's one call (the guide's Derived/Test/ToyasCard.lean, 'card_holds'). Laid BY PROGRAM, IN A SANDBOX (cutbox-door.mjs). By AI agents, Wed Nov 11 2026. No macro, syntax, notation, axiom, sorry.
-/
import Derived.Test.YtmciikkpfafncaaDoorRows
import GoSem.ClaimSeven
namespace Go.Proofs.YtmciikkpfafncaaDoor
namespace Rows

/-- THE TIED CARD OF 'laws.FnExactFilmSame'. -/
def fnExactFilmSameCard : Claim7 := { stood := { row := fnExactFilmSameRow, standIns := [], harness := (true, "d4371abacda1fb4d4e671867851d4d5813c0ecea6fa6793c83de9f26ba161151"), looks := false }, kinds := [], alts := [], laidByText := true, laidKinds := [.data, .data, .data], laidTests := true, laidLooks := .later }
def FnExactFilmSameCardSaid : Prop := Claim7.holds Tryd.pinned (.plain (OpenSpec.ofChange fnExactFilmSameSpec)) fnExactFilmSameCard

/-- THE TIED CARD OF 'laws.FnExactFilmPassing'. -/
def fnExactFilmPassingCard : Claim7 := { stood := { row := fnExactFilmPassingRow, standIns := [], harness := (true, "d4371abacda1fb4d4e671867851d4d5813c0ecea6fa6793c83de9f26ba161151"), looks := false }, kinds := [], alts := [], laidByText := true, laidKinds := [.data, .data, .data, .data], laidTests := true, laidLooks := .later }
def FnExactFilmPassingCardSaid : Prop := Claim7.holds Tryd.pinned (.plain (OpenSpec.ofChange fnExactFilmPassingSpec)) fnExactFilmPassingCard

/-- THE TIED CARD OF 'laws.FnExactFilmReflected'. -/
def fnExactFilmReflectedCard : Claim7 := { stood := { row := fnExactFilmReflectedRow, standIns := [], harness := (true, "d4371abacda1fb4d4e671867851d4d5813c0ecea6fa6793c83de9f26ba161151"), looks := false }, kinds := [], alts := [], laidByText := true, laidKinds := [.data, .data, .data, .data], laidTests := true, laidLooks := .later }
def FnExactFilmReflectedCardSaid : Prop := Claim7.holds Tryd.pinned (.plain (OpenSpec.ofChange fnExactFilmReflectedSpec)) fnExactFilmReflectedCard

/-- THE TIED CARD OF 'laws.FnReflected'. -/
def fnReflectedCard : Claim7 := { stood := { row := fnReflectedRow, standIns := [], harness := (true, "d4371abacda1fb4d4e671867851d4d5813c0ecea6fa6793c83de9f26ba161151"), looks := false }, kinds := [], alts := [], laidByText := true, laidKinds := [.data, .data, .data, .data], laidTests := true, laidLooks := .later }
def FnReflectedCardSaid : Prop := Claim7.holds Tryd.pinned (.plain (OpenSpec.ofChange fnReflectedSpec)) fnReflectedCard

/-- THE TIED CARD OF 'laws.FnPassing'. -/
def fnPassingCard : Claim7 := { stood := { row := fnPassingRow, standIns := [], harness := (true, "d4371abacda1fb4d4e671867851d4d5813c0ecea6fa6793c83de9f26ba161151"), looks := false }, kinds := [], alts := [], laidByText := true, laidKinds := [.data, .data, .data, .data], laidTests := true, laidLooks := .later }
def FnPassingCardSaid : Prop := Claim7.holds Tryd.pinned (.plain (OpenSpec.ofChange fnPassingSpec)) fnPassingCard

/-- THE TIED CARD OF 'laws.FnFilmSame'. -/
def fnFilmSameCard : Claim7 := { stood := { row := fnFilmSameRow, standIns := [], harness := (true, "d4371abacda1fb4d4e671867851d4d5813c0ecea6fa6793c83de9f26ba161151"), looks := false }, kinds := [], alts := [], laidByText := true, laidKinds := [.data, .data, .data, .data], laidTests := true, laidLooks := .later }
def FnFilmSameCardSaid : Prop := Claim7.holds Tryd.pinned (.plain (OpenSpec.ofChange fnFilmSameSpec)) fnFilmSameCard

/-- THE TIED CARD OF 'laws.FnExactFilmPowers'. -/
def fnExactFilmPowersCard : Claim7 := { stood := { row := fnExactFilmPowersRow, standIns := [], harness := (true, "d4371abacda1fb4d4e671867851d4d5813c0ecea6fa6793c83de9f26ba161151"), looks := false }, kinds := [], alts := [], laidByText := true, laidKinds := [.data, .data, .data, .data], laidTests := true, laidLooks := .later }
def FnExactFilmPowersCardSaid : Prop := Claim7.holds Tryd.pinned (.plain (OpenSpec.ofChange fnExactFilmPowersSpec)) fnExactFilmPowersCard

/-- THE TIED CARD OF 'laws.FnPowers'. -/
def fnPowersCard : Claim7 := { stood := { row := fnPowersRow, standIns := [], harness := (true, "d4371abacda1fb4d4e671867851d4d5813c0ecea6fa6793c83de9f26ba161151"), looks := false }, kinds := [], alts := [], laidByText := true, laidKinds := [.data, .data, .data, .data], laidTests := true, laidLooks := .later }
def FnPowersCardSaid : Prop := Claim7.holds Tryd.pinned (.plain (OpenSpec.ofChange fnPowersSpec)) fnPowersCard

/-- THE SECOND FORM's CARD OF 'laws.FnExactFilmSame'. -/
def fnExactFilmSameUptoCard : Claim7 := { stood := { row := fnExactFilmSameUptoRow, standIns := [], harness := (true, "d4371abacda1fb4d4e671867851d4d5813c0ecea6fa6793c83de9f26ba161151"), looks := false }, kinds := [], alts := [], laidByText := true, laidKinds := [.data, .data, .data], laidTests := true, laidLooks := .later }
def FnExactFilmSameUptoCardSaid : Prop := Claim7.holds Tryd.pinned (.plain (OpenSpec.upto fnExactFilmSameSpec)) fnExactFilmSameUptoCard

/-- THE SECOND FORM's CARD OF 'laws.FnExactFilmPassing'. -/
def fnExactFilmPassingUptoCard : Claim7 := { stood := { row := fnExactFilmPassingUptoRow, standIns := [], harness := (true, "d4371abacda1fb4d4e671867851d4d5813c0ecea6fa6793c83de9f26ba161151"), looks := false }, kinds := [], alts := [], laidByText := true, laidKinds := [.data, .data, .data, .data], laidTests := true, laidLooks := .later }
def FnExactFilmPassingUptoCardSaid : Prop := Claim7.holds Tryd.pinned (.plain (OpenSpec.upto fnExactFilmPassingSpec)) fnExactFilmPassingUptoCard

/-- THE SECOND FORM's CARD OF 'laws.FnExactFilmReflected'. -/
def fnExactFilmReflectedUptoCard : Claim7 := { stood := { row := fnExactFilmReflectedUptoRow, standIns := [], harness := (true, "d4371abacda1fb4d4e671867851d4d5813c0ecea6fa6793c83de9f26ba161151"), looks := false }, kinds := [], alts := [], laidByText := true, laidKinds := [.data, .data, .data, .data], laidTests := true, laidLooks := .later }
def FnExactFilmReflectedUptoCardSaid : Prop := Claim7.holds Tryd.pinned (.plain (OpenSpec.upto fnExactFilmReflectedSpec)) fnExactFilmReflectedUptoCard

/-- THE SECOND FORM's CARD OF 'laws.FnReflected'. -/
def fnReflectedUptoCard : Claim7 := { stood := { row := fnReflectedUptoRow, standIns := [], harness := (true, "d4371abacda1fb4d4e671867851d4d5813c0ecea6fa6793c83de9f26ba161151"), looks := false }, kinds := [], alts := [], laidByText := true, laidKinds := [.data, .data, .data, .data], laidTests := true, laidLooks := .later }
def FnReflectedUptoCardSaid : Prop := Claim7.holds Tryd.pinned (.plain (OpenSpec.upto fnReflectedSpec)) fnReflectedUptoCard

/-- THE SECOND FORM's CARD OF 'laws.FnPassing'. -/
def fnPassingUptoCard : Claim7 := { stood := { row := fnPassingUptoRow, standIns := [], harness := (true, "d4371abacda1fb4d4e671867851d4d5813c0ecea6fa6793c83de9f26ba161151"), looks := false }, kinds := [], alts := [], laidByText := true, laidKinds := [.data, .data, .data, .data], laidTests := true, laidLooks := .later }
def FnPassingUptoCardSaid : Prop := Claim7.holds Tryd.pinned (.plain (OpenSpec.upto fnPassingSpec)) fnPassingUptoCard

/-- THE SECOND FORM's CARD OF 'laws.FnFilmSame'. -/
def fnFilmSameUptoCard : Claim7 := { stood := { row := fnFilmSameUptoRow, standIns := [], harness := (true, "d4371abacda1fb4d4e671867851d4d5813c0ecea6fa6793c83de9f26ba161151"), looks := false }, kinds := [], alts := [], laidByText := true, laidKinds := [.data, .data, .data, .data], laidTests := true, laidLooks := .later }
def FnFilmSameUptoCardSaid : Prop := Claim7.holds Tryd.pinned (.plain (OpenSpec.upto fnFilmSameSpec)) fnFilmSameUptoCard

/-- THE SECOND FORM's CARD OF 'laws.FnExactFilmPowers'. -/
def fnExactFilmPowersUptoCard : Claim7 := { stood := { row := fnExactFilmPowersUptoRow, standIns := [], harness := (true, "d4371abacda1fb4d4e671867851d4d5813c0ecea6fa6793c83de9f26ba161151"), looks := false }, kinds := [], alts := [], laidByText := true, laidKinds := [.data, .data, .data, .data], laidTests := true, laidLooks := .later }
def FnExactFilmPowersUptoCardSaid : Prop := Claim7.holds Tryd.pinned (.plain (OpenSpec.upto fnExactFilmPowersSpec)) fnExactFilmPowersUptoCard

/-- THE SECOND FORM's CARD OF 'laws.FnPowers'. -/
def fnPowersUptoCard : Claim7 := { stood := { row := fnPowersUptoRow, standIns := [], harness := (true, "d4371abacda1fb4d4e671867851d4d5813c0ecea6fa6793c83de9f26ba161151"), looks := false }, kinds := [], alts := [], laidByText := true, laidKinds := [.data, .data, .data, .data], laidTests := true, laidLooks := .later }
def FnPowersUptoCardSaid : Prop := Claim7.holds Tryd.pinned (.plain (OpenSpec.upto fnPowersSpec)) fnPowersUptoCard
end Rows
end Go.Proofs.YtmciikkpfafncaaDoor
