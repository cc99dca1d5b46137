/-
  DERIVED. GIVEN WITH THE SEED: THE CARDS: each row of YteoogncgfnpoeaaDoorRows.lean that lists a variable, with what it lists TIED to the program's text (the seventh form; the later family's looks); each row that meets fmt, with fmt's text TOLD by the authors' own Lean function (tested against real Go, not proved from fmt's source: count such statements apart). THE CARD IS WHAT COUNTS. Prove the row's statement (the work); the ties are given (YteoogncgfnpoeaaDoorTie.lean); close each card by the builder's one call (the guide's Derived/Test/ToyasCard.lean, 'card_holds'). Laid BY PROGRAM, IN A SANDBOX (cutbox-door.mjs). By AI agents, Wed Nov 11 2026. No macro, syntax, notation, axiom, sorry.
-/
import Derived.Test.YteoogncgfnpoeaaDoorRows
import GoSem.ClaimSeven
namespace Go.Proofs.YteoogncgfnpoeaaDoor
namespace Rows

/-- THE TIED CARD OF 'laws.FnExactFreeSorting'. -/
def fnExactFreeSortingCard : Claim7 := { stood := { row := fnExactFreeSortingRow, standIns := [], harness := (true, "25915fae7c2d605b738a930bf2e531eb77d4e91e7055b4558a95886e7ebbe330"), looks := false }, kinds := [], alts := [], laidByText := true, laidKinds := [.data, .pinned], laidTests := true, laidLooks := .later }
def FnExactFreeSortingCardSaid : Prop := Claim7.holds Tryd.pinned (.plain (OpenSpec.ofChange fnExactFreeSortingSpec)) fnExactFreeSortingCard

/-- THE TIED CARD OF 'laws.FnExactIsSorting'. -/
def fnExactIsSortingCard : Claim7 := { stood := { row := fnExactIsSortingRow, standIns := [], harness := (true, "25915fae7c2d605b738a930bf2e531eb77d4e91e7055b4558a95886e7ebbe330"), looks := false }, kinds := [], alts := [], laidByText := true, laidKinds := [.data, .pinned], laidTests := true, laidLooks := .later }
def FnExactIsSortingCardSaid : Prop := Claim7.holds Tryd.pinned (.plain (OpenSpec.ofChange fnExactIsSortingSpec)) fnExactIsSortingCard

/-- THE TIED CARD OF 'laws.FnExactIsFiner'. -/
def fnExactIsFinerCard : Claim7 := { stood := { row := fnExactIsFinerRow, standIns := [], harness := (true, "25915fae7c2d605b738a930bf2e531eb77d4e91e7055b4558a95886e7ebbe330"), looks := false }, kinds := [], alts := [], laidByText := true, laidKinds := [.data, .pinned], laidTests := true, laidLooks := .later }
def FnExactIsFinerCardSaid : Prop := Claim7.holds Tryd.pinned (.plain (OpenSpec.ofChange fnExactIsFinerSpec)) fnExactIsFinerCard

/-- THE SECOND FORM's CARD OF 'laws.FnExactFreeSorting'. -/
def fnExactFreeSortingUptoCard : Claim7 := { stood := { row := fnExactFreeSortingUptoRow, standIns := [], harness := (true, "25915fae7c2d605b738a930bf2e531eb77d4e91e7055b4558a95886e7ebbe330"), looks := false }, kinds := [], alts := [], laidByText := true, laidKinds := [.data, .pinned], laidTests := true, laidLooks := .later }
def FnExactFreeSortingUptoCardSaid : Prop := Claim7.holds Tryd.pinned (.plain (OpenSpec.upto fnExactFreeSortingSpec)) fnExactFreeSortingUptoCard

/-- THE SECOND FORM's CARD OF 'laws.FnExactIsSorting'. -/
def fnExactIsSortingUptoCard : Claim7 := { stood := { row := fnExactIsSortingUptoRow, standIns := [], harness := (true, "25915fae7c2d605b738a930bf2e531eb77d4e91e7055b4558a95886e7ebbe330"), looks := false }, kinds := [], alts := [], laidByText := true, laidKinds := [.data, .pinned], laidTests := true, laidLooks := .later }
def FnExactIsSortingUptoCardSaid : Prop := Claim7.holds Tryd.pinned (.plain (OpenSpec.upto fnExactIsSortingSpec)) fnExactIsSortingUptoCard

/-- THE SECOND FORM's CARD OF 'laws.FnExactIsFiner'. -/
def fnExactIsFinerUptoCard : Claim7 := { stood := { row := fnExactIsFinerUptoRow, standIns := [], harness := (true, "25915fae7c2d605b738a930bf2e531eb77d4e91e7055b4558a95886e7ebbe330"), looks := false }, kinds := [], alts := [], laidByText := true, laidKinds := [.data, .pinned], laidTests := true, laidLooks := .later }
def FnExactIsFinerUptoCardSaid : Prop := Claim7.holds Tryd.pinned (.plain (OpenSpec.upto fnExactIsFinerSpec)) fnExactIsFinerUptoCard
end Rows
end Go.Proofs.YteoogncgfnpoeaaDoor
