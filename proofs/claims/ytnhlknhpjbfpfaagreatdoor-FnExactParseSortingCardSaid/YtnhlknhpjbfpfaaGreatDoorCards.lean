/-
  DERIVED. GIVEN WITH THE SEED: THE CARDS: each row of YtnhlknhpjbfpfaaGreatDoorRows.lean that lists a variable, with what it lists TIED to the program's text (the seventh form; the later family's looks); each row that meets fmt, with fmt's text TOLD by the authors' own Lean function (tested against real Go, not proved from fmt's source: count such statements apart). THE CARD IS WHAT COUNTS. Prove the row's statement (the work); the ties are given (YtnhlknhpjbfpfaaGreatDoorTie.lean); close each card by the builder's one call (the guide's Derived/Test/ToyasCard.lean, 'card_holds'). Laid BY PROGRAM, IN A SANDBOX (cutbox-door.mjs). By AI agents, Wed Nov 11 2026. No macro, syntax, notation, axiom, sorry.
-/
import Derived.Test.YtnhlknhpjbfpfaaGreatDoorRows
import GoSem.ClaimSeven
namespace Go.Proofs.YtnhlknhpjbfpfaaGreatDoor
namespace Rows

/-- THE TIED CARD OF 'laws.FnExactParseSorting'. -/
def fnExactParseSortingCard : Claim7 := { stood := { row := fnExactParseSortingRow, standIns := [], harness := (true, "e681cfaf5626c844725f488baf63d8186ed422a708f67cc290b92097c35767bf"), looks := true }, kinds := [], alts := [], laidByText := true, laidKinds := [.data, .data, .data, .data, .sentinel, .sentinel, .pinned], laidTests := true, laidLooks := .later }
def FnExactParseSortingCardSaid : Prop := Claim7.holds Tryz.pinned (.plain (OpenSpec.ofChange fnExactParseSortingSpec)) fnExactParseSortingCard

/-- THE SECOND FORM's CARD OF 'laws.FnExactParseSorting'. -/
def fnExactParseSortingUptoCard : Claim7 := { stood := { row := fnExactParseSortingUptoRow, standIns := [], harness := (true, "e681cfaf5626c844725f488baf63d8186ed422a708f67cc290b92097c35767bf"), looks := true }, kinds := [], alts := [], laidByText := true, laidKinds := [.data, .data, .data, .data, .sentinel, .sentinel, .pinned], laidTests := true, laidLooks := .later }
def FnExactParseSortingUptoCardSaid : Prop := Claim7.holds Tryz.pinned (.plain (OpenSpec.upto fnExactParseSortingSpec)) fnExactParseSortingUptoCard
end Rows
end Go.Proofs.YtnhlknhpjbfpfaaGreatDoor
