/-
  DERIVED. GIVEN WITH THE SEED: THE CARDS: each row of YtgkglbecjlffiaaGreatDoorRows.lean that lists a variable, with what it lists TIED to the program's text (the seventh form; the later family's looks); each row that meets fmt, with fmt's text TOLD by the authors' own Lean function (tested against real Go, not proved from fmt's source: count such statements apart). THE CARD IS WHAT COUNTS. Prove the row's statement (the work); the ties are given (YtgkglbecjlffiaaGreatDoorTie.lean); close each card by the builder's one call (the guide's Derived/Test/ToyasCard.lean, 'card_holds'). Laid BY PROGRAM, IN A SANDBOX (cutbox-door.mjs). By AI agents, Wed Nov 11 2026. No macro, syntax, notation, axiom, sorry.
-/
import Derived.Test.YtgkglbecjlffiaaGreatDoorRows
import GoSem.ClaimSeven
namespace Go.Proofs.YtgkglbecjlffiaaGreatDoor
namespace Rows

/-- THE TIED CARD OF 'laws.FnExactLeastSorting'. -/
def fnExactLeastSortingCard : Claim7 := { stood := { row := fnExactLeastSortingRow, standIns := [], harness := (true, "6f5cf77b6a79bcbe95ea5207a65ab86e122b55f59cd10fe6d126cebb389691d4"), looks := false }, kinds := [], alts := [], laidByText := true, laidKinds := [.data, .pinned], laidTests := true, laidLooks := .later }
def FnExactLeastSortingCardSaid : Prop := Claim7.holds Tryz.pinned (.plain (OpenSpec.ofChange fnExactLeastSortingSpec)) fnExactLeastSortingCard

/-- THE SECOND FORM's CARD OF 'laws.FnExactLeastSorting'. -/
def fnExactLeastSortingUptoCard : Claim7 := { stood := { row := fnExactLeastSortingUptoRow, standIns := [], harness := (true, "6f5cf77b6a79bcbe95ea5207a65ab86e122b55f59cd10fe6d126cebb389691d4"), looks := false }, kinds := [], alts := [], laidByText := true, laidKinds := [.data, .pinned], laidTests := true, laidLooks := .later }
def FnExactLeastSortingUptoCardSaid : Prop := Claim7.holds Tryz.pinned (.plain (OpenSpec.upto fnExactLeastSortingSpec)) fnExactLeastSortingUptoCard
end Rows
end Go.Proofs.YtgkglbecjlffiaaGreatDoor
