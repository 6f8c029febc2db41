/-
  DERIVED. GIVEN WITH THE SEED: THE CARDS: each row of YtacmlnomehkjcaaDoorRows.lean that lists a variable, with what it lists TIED to the program's text (the seventh form; the later family's looks); each row that meets fmt, with fmt's text TOLD by the authors' own Lean function (tested against real Go, not proved from fmt's source: count such statements apart). THE CARD IS WHAT COUNTS. Prove the row's statement (the work); the ties are given (YtacmlnomehkjcaaDoorTie.lean); close each card by the builder's one call (the guide's Derived/Test/ToyasCard.lean, 'card_holds'). Laid BY PROGRAM, IN A SANDBOX (cutbox-door.mjs). By AI agents, Wed Nov 11 2026. No macro, syntax, notation, axiom, sorry.
-/
import Derived.Test.YtacmlnomehkjcaaDoorRows
import GoSem.ClaimSeven
namespace Go.Proofs.YtacmlnomehkjcaaDoor
namespace Rows

/-- THE TIED CARD OF 'laws.FnExactFilmValid'. -/
def fnExactFilmValidCard : Claim7 := { stood := { row := fnExactFilmValidRow, standIns := [], harness := (true, "956ba34a91d5d0bd4e3845252a2f247019c1a0dc3dfeac59471cc0ffcc9abf6c"), looks := false }, kinds := [], alts := [], laidByText := true, laidKinds := [.data], laidTests := true, laidLooks := .later }
def FnExactFilmValidCardSaid : Prop := Claim7.holds Tryd.pinned (.plain (OpenSpec.ofChange fnExactFilmValidSpec)) fnExactFilmValidCard

/-- THE TIED CARD OF 'laws.FnExactFilmBack'. -/
def fnExactFilmBackCard : Claim7 := { stood := { row := fnExactFilmBackRow, standIns := [], harness := (true, "956ba34a91d5d0bd4e3845252a2f247019c1a0dc3dfeac59471cc0ffcc9abf6c"), looks := false }, kinds := [], alts := [], laidByText := true, laidKinds := [.data], laidTests := true, laidLooks := .later }
def FnExactFilmBackCardSaid : Prop := Claim7.holds Tryd.pinned (.plain (OpenSpec.ofChange fnExactFilmBackSpec)) fnExactFilmBackCard

/-- THE TIED CARD OF 'laws.FnExactFilmWide'. -/
def fnExactFilmWideCard : Claim7 := { stood := { row := fnExactFilmWideRow, standIns := [], harness := (true, "956ba34a91d5d0bd4e3845252a2f247019c1a0dc3dfeac59471cc0ffcc9abf6c"), looks := false }, kinds := [], alts := [], laidByText := true, laidKinds := [.data], laidTests := true, laidLooks := .later }
def FnExactFilmWideCardSaid : Prop := Claim7.holds Tryd.pinned (.plain (OpenSpec.ofChange fnExactFilmWideSpec)) fnExactFilmWideCard

/-- THE TIED CARD OF 'laws.FnExactFilmSingle'. -/
def fnExactFilmSingleCard : Claim7 := { stood := { row := fnExactFilmSingleRow, standIns := [], harness := (true, "956ba34a91d5d0bd4e3845252a2f247019c1a0dc3dfeac59471cc0ffcc9abf6c"), looks := false }, kinds := [], alts := [], laidByText := true, laidKinds := [.data], laidTests := true, laidLooks := .later }
def FnExactFilmSingleCardSaid : Prop := Claim7.holds Tryd.pinned (.plain (OpenSpec.ofChange fnExactFilmSingleSpec)) fnExactFilmSingleCard

/-- THE TIED CARD OF 'laws.FnFilm'. -/
def fnFilmCard : Claim7 := { stood := { row := fnFilmRow, standIns := [], harness := (true, "956ba34a91d5d0bd4e3845252a2f247019c1a0dc3dfeac59471cc0ffcc9abf6c"), looks := false }, kinds := [], alts := [], laidByText := true, laidKinds := [.data, .data, .data], laidTests := true, laidLooks := .later }
def FnFilmCardSaid : Prop := Claim7.holds Tryd.pinned (.plain (OpenSpec.ofChange fnFilmSpec)) fnFilmCard

/-- THE TIED CARD OF 'laws.FnFilmBack'. -/
def fnFilmBackCard : Claim7 := { stood := { row := fnFilmBackRow, standIns := [], harness := (true, "956ba34a91d5d0bd4e3845252a2f247019c1a0dc3dfeac59471cc0ffcc9abf6c"), looks := false }, kinds := [], alts := [], laidByText := true, laidKinds := [.data, .data, .data], laidTests := true, laidLooks := .later }
def FnFilmBackCardSaid : Prop := Claim7.holds Tryd.pinned (.plain (OpenSpec.ofChange fnFilmBackSpec)) fnFilmBackCard

/-- THE TIED CARD OF 'laws.FnFilmSingle'. -/
def fnFilmSingleCard : Claim7 := { stood := { row := fnFilmSingleRow, standIns := [], harness := (true, "956ba34a91d5d0bd4e3845252a2f247019c1a0dc3dfeac59471cc0ffcc9abf6c"), looks := false }, kinds := [], alts := [], laidByText := true, laidKinds := [.data], laidTests := true, laidLooks := .later }
def FnFilmSingleCardSaid : Prop := Claim7.holds Tryd.pinned (.plain (OpenSpec.ofChange fnFilmSingleSpec)) fnFilmSingleCard

/-- THE TIED CARD OF 'laws.FnFilmMat'. -/
def fnFilmMatCard : Claim7 := { stood := { row := fnFilmMatRow, standIns := [], harness := (true, "956ba34a91d5d0bd4e3845252a2f247019c1a0dc3dfeac59471cc0ffcc9abf6c"), looks := false }, kinds := [], alts := [], laidByText := true, laidKinds := [.data, .data, .data], laidTests := true, laidLooks := .later }
def FnFilmMatCardSaid : Prop := Claim7.holds Tryd.pinned (.plain (OpenSpec.ofChange fnFilmMatSpec)) fnFilmMatCard

/-- THE TIED CARD OF 'laws.FnExactFilmMat'. -/
def fnExactFilmMatCard : Claim7 := { stood := { row := fnExactFilmMatRow, standIns := [], harness := (true, "956ba34a91d5d0bd4e3845252a2f247019c1a0dc3dfeac59471cc0ffcc9abf6c"), looks := false }, kinds := [], alts := [], laidByText := true, laidKinds := [.data, .data, .data], laidTests := true, laidLooks := .later }
def FnExactFilmMatCardSaid : Prop := Claim7.holds Tryd.pinned (.plain (OpenSpec.ofChange fnExactFilmMatSpec)) fnExactFilmMatCard

/-- THE TIED CARD OF 'laws.FnFilmWide'. -/
def fnFilmWideCard : Claim7 := { stood := { row := fnFilmWideRow, standIns := [], harness := (true, "956ba34a91d5d0bd4e3845252a2f247019c1a0dc3dfeac59471cc0ffcc9abf6c"), looks := false }, kinds := [], alts := [], laidByText := true, laidKinds := [.data, .data, .data, .data], laidTests := true, laidLooks := .later }
def FnFilmWideCardSaid : Prop := Claim7.holds Tryd.pinned (.plain (OpenSpec.ofChange fnFilmWideSpec)) fnFilmWideCard

/-- THE SECOND FORM's CARD OF 'laws.FnExactFilmValid'. -/
def fnExactFilmValidUptoCard : Claim7 := { stood := { row := fnExactFilmValidUptoRow, standIns := [], harness := (true, "956ba34a91d5d0bd4e3845252a2f247019c1a0dc3dfeac59471cc0ffcc9abf6c"), looks := false }, kinds := [], alts := [], laidByText := true, laidKinds := [.data], laidTests := true, laidLooks := .later }
def FnExactFilmValidUptoCardSaid : Prop := Claim7.holds Tryd.pinned (.plain (OpenSpec.upto fnExactFilmValidSpec)) fnExactFilmValidUptoCard

/-- THE SECOND FORM's CARD OF 'laws.FnExactFilmBack'. -/
def fnExactFilmBackUptoCard : Claim7 := { stood := { row := fnExactFilmBackUptoRow, standIns := [], harness := (true, "956ba34a91d5d0bd4e3845252a2f247019c1a0dc3dfeac59471cc0ffcc9abf6c"), looks := false }, kinds := [], alts := [], laidByText := true, laidKinds := [.data], laidTests := true, laidLooks := .later }
def FnExactFilmBackUptoCardSaid : Prop := Claim7.holds Tryd.pinned (.plain (OpenSpec.upto fnExactFilmBackSpec)) fnExactFilmBackUptoCard

/-- THE SECOND FORM's CARD OF 'laws.FnExactFilmWide'. -/
def fnExactFilmWideUptoCard : Claim7 := { stood := { row := fnExactFilmWideUptoRow, standIns := [], harness := (true, "956ba34a91d5d0bd4e3845252a2f247019c1a0dc3dfeac59471cc0ffcc9abf6c"), looks := false }, kinds := [], alts := [], laidByText := true, laidKinds := [.data], laidTests := true, laidLooks := .later }
def FnExactFilmWideUptoCardSaid : Prop := Claim7.holds Tryd.pinned (.plain (OpenSpec.upto fnExactFilmWideSpec)) fnExactFilmWideUptoCard

/-- THE SECOND FORM's CARD OF 'laws.FnExactFilmSingle'. -/
def fnExactFilmSingleUptoCard : Claim7 := { stood := { row := fnExactFilmSingleUptoRow, standIns := [], harness := (true, "956ba34a91d5d0bd4e3845252a2f247019c1a0dc3dfeac59471cc0ffcc9abf6c"), looks := false }, kinds := [], alts := [], laidByText := true, laidKinds := [.data], laidTests := true, laidLooks := .later }
def FnExactFilmSingleUptoCardSaid : Prop := Claim7.holds Tryd.pinned (.plain (OpenSpec.upto fnExactFilmSingleSpec)) fnExactFilmSingleUptoCard

/-- THE SECOND FORM's CARD OF 'laws.FnFilm'. -/
def fnFilmUptoCard : Claim7 := { stood := { row := fnFilmUptoRow, standIns := [], harness := (true, "956ba34a91d5d0bd4e3845252a2f247019c1a0dc3dfeac59471cc0ffcc9abf6c"), looks := false }, kinds := [], alts := [], laidByText := true, laidKinds := [.data, .data, .data], laidTests := true, laidLooks := .later }
def FnFilmUptoCardSaid : Prop := Claim7.holds Tryd.pinned (.plain (OpenSpec.upto fnFilmSpec)) fnFilmUptoCard

/-- THE SECOND FORM's CARD OF 'laws.FnFilmBack'. -/
def fnFilmBackUptoCard : Claim7 := { stood := { row := fnFilmBackUptoRow, standIns := [], harness := (true, "956ba34a91d5d0bd4e3845252a2f247019c1a0dc3dfeac59471cc0ffcc9abf6c"), looks := false }, kinds := [], alts := [], laidByText := true, laidKinds := [.data, .data, .data], laidTests := true, laidLooks := .later }
def FnFilmBackUptoCardSaid : Prop := Claim7.holds Tryd.pinned (.plain (OpenSpec.upto fnFilmBackSpec)) fnFilmBackUptoCard

/-- THE SECOND FORM's CARD OF 'laws.FnFilmSingle'. -/
def fnFilmSingleUptoCard : Claim7 := { stood := { row := fnFilmSingleUptoRow, standIns := [], harness := (true, "956ba34a91d5d0bd4e3845252a2f247019c1a0dc3dfeac59471cc0ffcc9abf6c"), looks := false }, kinds := [], alts := [], laidByText := true, laidKinds := [.data], laidTests := true, laidLooks := .later }
def FnFilmSingleUptoCardSaid : Prop := Claim7.holds Tryd.pinned (.plain (OpenSpec.upto fnFilmSingleSpec)) fnFilmSingleUptoCard

/-- THE SECOND FORM's CARD OF 'laws.FnFilmMat'. -/
def fnFilmMatUptoCard : Claim7 := { stood := { row := fnFilmMatUptoRow, standIns := [], harness := (true, "956ba34a91d5d0bd4e3845252a2f247019c1a0dc3dfeac59471cc0ffcc9abf6c"), looks := false }, kinds := [], alts := [], laidByText := true, laidKinds := [.data, .data, .data], laidTests := true, laidLooks := .later }
def FnFilmMatUptoCardSaid : Prop := Claim7.holds Tryd.pinned (.plain (OpenSpec.upto fnFilmMatSpec)) fnFilmMatUptoCard

/-- THE SECOND FORM's CARD OF 'laws.FnExactFilmMat'. -/
def fnExactFilmMatUptoCard : Claim7 := { stood := { row := fnExactFilmMatUptoRow, standIns := [], harness := (true, "956ba34a91d5d0bd4e3845252a2f247019c1a0dc3dfeac59471cc0ffcc9abf6c"), looks := false }, kinds := [], alts := [], laidByText := true, laidKinds := [.data, .data, .data], laidTests := true, laidLooks := .later }
def FnExactFilmMatUptoCardSaid : Prop := Claim7.holds Tryd.pinned (.plain (OpenSpec.upto fnExactFilmMatSpec)) fnExactFilmMatUptoCard

/-- THE SECOND FORM's CARD OF 'laws.FnFilmWide'. -/
def fnFilmWideUptoCard : Claim7 := { stood := { row := fnFilmWideUptoRow, standIns := [], harness := (true, "956ba34a91d5d0bd4e3845252a2f247019c1a0dc3dfeac59471cc0ffcc9abf6c"), looks := false }, kinds := [], alts := [], laidByText := true, laidKinds := [.data, .data, .data, .data], laidTests := true, laidLooks := .later }
def FnFilmWideUptoCardSaid : Prop := Claim7.holds Tryd.pinned (.plain (OpenSpec.upto fnFilmWideSpec)) fnFilmWideUptoCard
end Rows
end Go.Proofs.YtacmlnomehkjcaaDoor
