/-
  DERIVED. GIVEN WITH THE SEED: THE CARDS: each row of YtofdmonjagkgeaaDoorRows.lean that lists a variable, with what it lists TIED to the program's text (the seventh form; the later family's looks); each row that meets fmt, with fmt's text TOLD by the authors' own Lean function (tested against real Go, not proved from fmt's source: count such statements apart). THE CARD IS WHAT COUNTS. Prove the row's statement (the work); the ties are given (YtofdmonjagkgeaaDoorTie.lean); close each card by the builder's one call (the guide's Derived/Test/ToyasCard.lean, 'card_holds'). Laid BY PROGRAM, IN A SANDBOX (cutbox-door.mjs). By AI agents, Wed Nov 11 2026. No macro, syntax, notation, axiom, sorry.
-/
import Derived.Test.YtofdmonjagkgeaaDoorRows
import GoSem.ClaimSeven
namespace Go.Proofs.YtofdmonjagkgeaaDoor
namespace Rows

/-- THE TIED CARD OF 'laws.FnTableProducts'. -/
def fnTableProductsCard : Claim7 := { stood := { row := fnTableProductsRow, standIns := [], harness := (true, "6f3700f003f3c5f49f354ce5acf5932b7cf1008763c8ca4c4f4ce2601ed34f66"), looks := false }, kinds := [], alts := [], laidByText := true, laidKinds := [.data], laidTests := true, laidLooks := .later }
def FnTableProductsCardSaid : Prop := Claim7.holds Tryd.pinned (.plain (OpenSpec.ofChange fnTableProductsSpec)) fnTableProductsCard

/-- THE SECOND FORM's CARD OF 'laws.FnTableProducts'. -/
def fnTableProductsUptoCard : Claim7 := { stood := { row := fnTableProductsUptoRow, standIns := [], harness := (true, "6f3700f003f3c5f49f354ce5acf5932b7cf1008763c8ca4c4f4ce2601ed34f66"), looks := false }, kinds := [], alts := [], laidByText := true, laidKinds := [.data], laidTests := true, laidLooks := .later }
def FnTableProductsUptoCardSaid : Prop := Claim7.holds Tryd.pinned (.plain (OpenSpec.upto fnTableProductsSpec)) fnTableProductsUptoCard
end Rows
end Go.Proofs.YtofdmonjagkgeaaDoor
