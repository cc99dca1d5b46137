/-
  DERIVED. GIVEN WITH THE SEED: THE CARDS: each row of YtkbgkgggoiefoaaGreatDoorRows.lean that lists a variable, with what it lists TIED to the program's text (the seventh form; the later family's looks); each row that meets fmt, with fmt's text TOLD by the authors' own Lean function (tested against real Go, not proved from fmt's source: count such statements apart). THE CARD IS WHAT COUNTS. Prove the row's statement (the work); the ties are given (YtkbgkgggoiefoaaGreatDoorTie.lean); close each card by the builder's one call (the guide's Derived/Test/ToyasCard.lean, 'card_holds'). Laid BY PROGRAM, IN A SANDBOX (cutbox-door.mjs). By AI agents, Wed Nov 11 2026. No macro, syntax, notation, axiom, sorry.
-/
import Derived.Test.YtkbgkgggoiefoaaGreatDoorRows
import GoSem.ClaimSeven
namespace Go.Proofs.YtkbgkgggoiefoaaGreatDoor
namespace Rows

/-- THE TIED CARD OF 'laws.FnExactKeepsSorting'. -/
def fnExactKeepsSortingCard : Claim7 := { stood := { row := fnExactKeepsSortingRow, standIns := [], harness := (true, "8543deb018624b35084ca86c3308e08f450530ca204923e98c4219c9835460b8"), looks := false }, kinds := [], alts := [], laidByText := true, laidKinds := [.data, .pinned], laidTests := true, laidLooks := .later }
def FnExactKeepsSortingCardSaid : Prop := Claim7.holds Tryz.pinned (.plain (OpenSpec.ofChange fnExactKeepsSortingSpec)) fnExactKeepsSortingCard

/-- THE SECOND FORM's CARD OF 'laws.FnExactKeepsSorting'. -/
def fnExactKeepsSortingUptoCard : Claim7 := { stood := { row := fnExactKeepsSortingUptoRow, standIns := [], harness := (true, "8543deb018624b35084ca86c3308e08f450530ca204923e98c4219c9835460b8"), looks := false }, kinds := [], alts := [], laidByText := true, laidKinds := [.data, .pinned], laidTests := true, laidLooks := .later }
def FnExactKeepsSortingUptoCardSaid : Prop := Claim7.holds Tryz.pinned (.plain (OpenSpec.upto fnExactKeepsSortingSpec)) fnExactKeepsSortingUptoCard
end Rows
end Go.Proofs.YtkbgkgggoiefoaaGreatDoor
