/-
  DERIVED. GIVEN WITH THE SEED: THE CARDS: each row of YtafkbnlacihocaaGreatDoorRows.lean that lists a variable, with what it lists TIED to the program's text (the seventh form; the later family's looks); each row that meets fmt, with fmt's text TOLD by the authors' own Lean function (tested against real Go, not proved from fmt's source: count such statements apart). THE CARD IS WHAT COUNTS. Prove the row's statement (the work); the ties are given (YtafkbnlacihocaaGreatDoorTie.lean); close each card by the builder's one call (the guide's Derived/Test/ToyasCard.lean, 'card_holds'). Laid BY PROGRAM, IN A SANDBOX (cutbox-door.mjs). By AI agents, Wed Nov 11 2026. No macro, syntax, notation, axiom, sorry.
-/
import Derived.Test.YtafkbnlacihocaaGreatDoorRows
import GoSem.ClaimSeven
namespace Go.Proofs.YtafkbnlacihocaaGreatDoor
namespace Rows

/-- THE TIED CARD OF 'laws.FnExactIsGuardedRule'. -/
def fnExactIsGuardedRuleCard : Claim7 := { stood := { row := fnExactIsGuardedRuleRow, standIns := [], harness := (true, "8a5ce1e316c9906a862a1365b62cd65f099624a63beb3f83e58c0eb5a1de8a35"), looks := false }, kinds := [], alts := [], laidByText := true, laidKinds := [.data, .pinned], laidTests := true, laidLooks := .later }
def FnExactIsGuardedRuleCardSaid : Prop := Claim7.holds Tryz.pinned (.plain (OpenSpec.ofChange fnExactIsGuardedRuleSpec)) fnExactIsGuardedRuleCard

/-- THE TIED CARD OF 'laws.FnExactChoicesIn'. -/
def fnExactChoicesInCard : Claim7 := { stood := { row := fnExactChoicesInRow, standIns := [], harness := (true, "8a5ce1e316c9906a862a1365b62cd65f099624a63beb3f83e58c0eb5a1de8a35"), looks := false }, kinds := [], alts := [], laidByText := true, laidKinds := [.data, .pinned], laidTests := true, laidLooks := .later }
def FnExactChoicesInCardSaid : Prop := Claim7.holds Tryz.pinned (.plain (OpenSpec.ofChange fnExactChoicesInSpec)) fnExactChoicesInCard

/-- THE TIED CARD OF 'laws.FnExactSortsOn'. -/
def fnExactSortsOnCard : Claim7 := { stood := { row := fnExactSortsOnRow, standIns := [], harness := (true, "8a5ce1e316c9906a862a1365b62cd65f099624a63beb3f83e58c0eb5a1de8a35"), looks := false }, kinds := [], alts := [], laidByText := true, laidKinds := [.data, .pinned], laidTests := true, laidLooks := .later }
def FnExactSortsOnCardSaid : Prop := Claim7.holds Tryz.pinned (.plain (OpenSpec.ofChange fnExactSortsOnSpec)) fnExactSortsOnCard

/-- THE TIED CARD OF 'laws.FnExactIsSorted'. -/
def fnExactIsSortedCard : Claim7 := { stood := { row := fnExactIsSortedRow, standIns := [], harness := (true, "8a5ce1e316c9906a862a1365b62cd65f099624a63beb3f83e58c0eb5a1de8a35"), looks := false }, kinds := [], alts := [], laidByText := true, laidKinds := [.data, .pinned], laidTests := true, laidLooks := .later }
def FnExactIsSortedCardSaid : Prop := Claim7.holds Tryz.pinned (.plain (OpenSpec.ofChange fnExactIsSortedSpec)) fnExactIsSortedCard

/-- THE TIED CARD OF 'laws.FnExactIsSortedInside'. -/
def fnExactIsSortedInsideCard : Claim7 := { stood := { row := fnExactIsSortedInsideRow, standIns := [], harness := (true, "8a5ce1e316c9906a862a1365b62cd65f099624a63beb3f83e58c0eb5a1de8a35"), looks := false }, kinds := [], alts := [], laidByText := true, laidKinds := [.data, .pinned], laidTests := true, laidLooks := .later }
def FnExactIsSortedInsideCardSaid : Prop := Claim7.holds Tryz.pinned (.plain (OpenSpec.ofChange fnExactIsSortedInsideSpec)) fnExactIsSortedInsideCard

/-- THE TIED CARD OF 'laws.FnExactFitsSorted'. -/
def fnExactFitsSortedCard : Claim7 := { stood := { row := fnExactFitsSortedRow, standIns := [], harness := (true, "8a5ce1e316c9906a862a1365b62cd65f099624a63beb3f83e58c0eb5a1de8a35"), looks := false }, kinds := [], alts := [], laidByText := true, laidKinds := [.data, .pinned], laidTests := true, laidLooks := .later }
def FnExactFitsSortedCardSaid : Prop := Claim7.holds Tryz.pinned (.plain (OpenSpec.ofChange fnExactFitsSortedSpec)) fnExactFitsSortedCard

/-- THE TIED CARD OF 'laws.FnExactFaultsOf'. -/
def fnExactFaultsOfCard : Claim7 := { stood := { row := fnExactFaultsOfRow, standIns := [], harness := (true, "8a5ce1e316c9906a862a1365b62cd65f099624a63beb3f83e58c0eb5a1de8a35"), looks := false }, kinds := [], alts := [], laidByText := true, laidKinds := [.data, .pinned], laidTests := true, laidLooks := .later }
def FnExactFaultsOfCardSaid : Prop := Claim7.holds Tryz.pinned (.plain (OpenSpec.ofChange fnExactFaultsOfSpec)) fnExactFaultsOfCard

/-- THE SECOND FORM's CARD OF 'laws.FnExactIsGuardedRule'. -/
def fnExactIsGuardedRuleUptoCard : Claim7 := { stood := { row := fnExactIsGuardedRuleUptoRow, standIns := [], harness := (true, "8a5ce1e316c9906a862a1365b62cd65f099624a63beb3f83e58c0eb5a1de8a35"), looks := false }, kinds := [], alts := [], laidByText := true, laidKinds := [.data, .pinned], laidTests := true, laidLooks := .later }
def FnExactIsGuardedRuleUptoCardSaid : Prop := Claim7.holds Tryz.pinned (.plain (OpenSpec.upto fnExactIsGuardedRuleSpec)) fnExactIsGuardedRuleUptoCard

/-- THE SECOND FORM's CARD OF 'laws.FnExactChoicesIn'. -/
def fnExactChoicesInUptoCard : Claim7 := { stood := { row := fnExactChoicesInUptoRow, standIns := [], harness := (true, "8a5ce1e316c9906a862a1365b62cd65f099624a63beb3f83e58c0eb5a1de8a35"), looks := false }, kinds := [], alts := [], laidByText := true, laidKinds := [.data, .pinned], laidTests := true, laidLooks := .later }
def FnExactChoicesInUptoCardSaid : Prop := Claim7.holds Tryz.pinned (.plain (OpenSpec.upto fnExactChoicesInSpec)) fnExactChoicesInUptoCard

/-- THE SECOND FORM's CARD OF 'laws.FnExactSortsOn'. -/
def fnExactSortsOnUptoCard : Claim7 := { stood := { row := fnExactSortsOnUptoRow, standIns := [], harness := (true, "8a5ce1e316c9906a862a1365b62cd65f099624a63beb3f83e58c0eb5a1de8a35"), looks := false }, kinds := [], alts := [], laidByText := true, laidKinds := [.data, .pinned], laidTests := true, laidLooks := .later }
def FnExactSortsOnUptoCardSaid : Prop := Claim7.holds Tryz.pinned (.plain (OpenSpec.upto fnExactSortsOnSpec)) fnExactSortsOnUptoCard

/-- THE SECOND FORM's CARD OF 'laws.FnExactIsSorted'. -/
def fnExactIsSortedUptoCard : Claim7 := { stood := { row := fnExactIsSortedUptoRow, standIns := [], harness := (true, "8a5ce1e316c9906a862a1365b62cd65f099624a63beb3f83e58c0eb5a1de8a35"), looks := false }, kinds := [], alts := [], laidByText := true, laidKinds := [.data, .pinned], laidTests := true, laidLooks := .later }
def FnExactIsSortedUptoCardSaid : Prop := Claim7.holds Tryz.pinned (.plain (OpenSpec.upto fnExactIsSortedSpec)) fnExactIsSortedUptoCard

/-- THE SECOND FORM's CARD OF 'laws.FnExactIsSortedInside'. -/
def fnExactIsSortedInsideUptoCard : Claim7 := { stood := { row := fnExactIsSortedInsideUptoRow, standIns := [], harness := (true, "8a5ce1e316c9906a862a1365b62cd65f099624a63beb3f83e58c0eb5a1de8a35"), looks := false }, kinds := [], alts := [], laidByText := true, laidKinds := [.data, .pinned], laidTests := true, laidLooks := .later }
def FnExactIsSortedInsideUptoCardSaid : Prop := Claim7.holds Tryz.pinned (.plain (OpenSpec.upto fnExactIsSortedInsideSpec)) fnExactIsSortedInsideUptoCard

/-- THE SECOND FORM's CARD OF 'laws.FnExactFitsSorted'. -/
def fnExactFitsSortedUptoCard : Claim7 := { stood := { row := fnExactFitsSortedUptoRow, standIns := [], harness := (true, "8a5ce1e316c9906a862a1365b62cd65f099624a63beb3f83e58c0eb5a1de8a35"), looks := false }, kinds := [], alts := [], laidByText := true, laidKinds := [.data, .pinned], laidTests := true, laidLooks := .later }
def FnExactFitsSortedUptoCardSaid : Prop := Claim7.holds Tryz.pinned (.plain (OpenSpec.upto fnExactFitsSortedSpec)) fnExactFitsSortedUptoCard

/-- THE SECOND FORM's CARD OF 'laws.FnExactFaultsOf'. -/
def fnExactFaultsOfUptoCard : Claim7 := { stood := { row := fnExactFaultsOfUptoRow, standIns := [], harness := (true, "8a5ce1e316c9906a862a1365b62cd65f099624a63beb3f83e58c0eb5a1de8a35"), looks := false }, kinds := [], alts := [], laidByText := true, laidKinds := [.data, .pinned], laidTests := true, laidLooks := .later }
def FnExactFaultsOfUptoCardSaid : Prop := Claim7.holds Tryz.pinned (.plain (OpenSpec.upto fnExactFaultsOfSpec)) fnExactFaultsOfUptoCard
end Rows
end Go.Proofs.YtafkbnlacihocaaGreatDoor
