/-
  DERIVED. GIVEN WITH THE SEED: THE CARDS: each row of YtdbgdhmmdhbjbaaGreatDoorRows.lean that lists a variable, with what it lists TIED to the program's text (the seventh form; the later family's looks); each row that meets fmt, with fmt's text TOLD by the authors' own Lean function (tested against real Go, not proved from fmt's source: count such statements apart). THE CARD IS WHAT COUNTS. Prove the row's statement (the work); the ties are given (YtdbgdhmmdhbjbaaGreatDoorTie.lean); close each card by the builder's one call (the guide's Derived/Test/ToyasCard.lean, 'card_holds'). Laid BY PROGRAM, IN A SANDBOX (cutbox-door.mjs). By AI agents, Wed Nov 11 2026. No macro, syntax, notation, axiom, sorry.
-/
import Derived.Test.YtdbgdhmmdhbjbaaGreatDoorRows
import GoSem.ClaimSeven
namespace Go.Proofs.YtdbgdhmmdhbjbaaGreatDoor
namespace Rows

/-- THE TIED CARD OF 'laws.FnExactRecomposeMatch'. -/
def fnExactRecomposeMatchCard : Claim7 := { stood := { row := fnExactRecomposeMatchRow, standIns := [], harness := (true, "f45c9057e51ab1d00e3bf779171520ddb5182e80365f49f6f58afeb0a6d4eccc"), looks := false }, kinds := [], alts := [], laidByText := true, laidKinds := [.data, .pinned], laidTests := true, laidLooks := .later }
def FnExactRecomposeMatchCardSaid : Prop := Claim7.holds Tryz.pinned (.plain (OpenSpec.ofChange fnExactRecomposeMatchSpec)) fnExactRecomposeMatchCard

/-- THE SECOND FORM's CARD OF 'laws.FnExactRecomposeMatch'. -/
def fnExactRecomposeMatchUptoCard : Claim7 := { stood := { row := fnExactRecomposeMatchUptoRow, standIns := [], harness := (true, "f45c9057e51ab1d00e3bf779171520ddb5182e80365f49f6f58afeb0a6d4eccc"), looks := false }, kinds := [], alts := [], laidByText := true, laidKinds := [.data, .pinned], laidTests := true, laidLooks := .later }
def FnExactRecomposeMatchUptoCardSaid : Prop := Claim7.holds Tryz.pinned (.plain (OpenSpec.upto fnExactRecomposeMatchSpec)) fnExactRecomposeMatchUptoCard
end Rows
end Go.Proofs.YtdbgdhmmdhbjbaaGreatDoor
