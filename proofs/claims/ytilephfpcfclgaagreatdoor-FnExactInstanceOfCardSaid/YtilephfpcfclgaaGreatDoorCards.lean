/-
  DERIVED. GIVEN WITH THE SEED: THE CARDS: each row of YtilephfpcfclgaaGreatDoorRows.lean that lists a variable, with what it lists TIED to the program's text (the seventh form; the later family's looks); each row that meets fmt, with fmt's text TOLD by the authors' own Lean function (tested against real Go, not proved from fmt's source: count such statements apart). THE CARD IS WHAT COUNTS. Prove the row's statement (the work); the ties are given (YtilephfpcfclgaaGreatDoorTie.lean); close each card by the builder's one call (the guide's Derived/Test/ToyasCard.lean, 'card_holds'). Laid BY PROGRAM, IN A SANDBOX (cutbox-door.mjs). By AI agents, Wed Nov 11 2026. No macro, syntax, notation, axiom, sorry.
-/
import Derived.Test.YtilephfpcfclgaaGreatDoorRows
import GoSem.ClaimSeven
namespace Go.Proofs.YtilephfpcfclgaaGreatDoor
namespace Rows

/-- THE TIED CARD OF 'laws.FnExactInstanceOf'. -/
def fnExactInstanceOfCard : Claim7 := { stood := { row := fnExactInstanceOfRow, standIns := [], harness := (true, "8ef169ead771cfea98ba73472636959cba66dd5ce294d67172fb559cfce64955"), looks := false }, kinds := [], alts := [], laidByText := true, laidKinds := [.data, .pinned], laidTests := true, laidLooks := .later }
def FnExactInstanceOfCardSaid : Prop := Claim7.holds Tryz.pinned (.plain (OpenSpec.ofChange fnExactInstanceOfSpec)) fnExactInstanceOfCard

/-- THE SECOND FORM's CARD OF 'laws.FnExactInstanceOf'. -/
def fnExactInstanceOfUptoCard : Claim7 := { stood := { row := fnExactInstanceOfUptoRow, standIns := [], harness := (true, "8ef169ead771cfea98ba73472636959cba66dd5ce294d67172fb559cfce64955"), looks := false }, kinds := [], alts := [], laidByText := true, laidKinds := [.data, .pinned], laidTests := true, laidLooks := .later }
def FnExactInstanceOfUptoCardSaid : Prop := Claim7.holds Tryz.pinned (.plain (OpenSpec.upto fnExactInstanceOfSpec)) fnExactInstanceOfUptoCard
end Rows
end Go.Proofs.YtilephfpcfclgaaGreatDoor
