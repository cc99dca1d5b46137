/-
  DERIVED. GIVEN WITH THE SEED: THE CARDS: each row of YtldofmeonljanaaGreatDoorRows.lean that lists a variable, with what it lists TIED to the program's text (the seventh form; the later family's looks); each row that meets fmt, with fmt's text TOLD by the authors' own Lean function (tested against real Go, not proved from fmt's source: count such statements apart). THE CARD IS WHAT COUNTS. Prove the row's statement (the work); the ties are given (YtldofmeonljanaaGreatDoorTie.lean); close each card by the builder's one call (the guide's Derived/Test/ToyasCard.lean, 'card_holds'). Laid BY PROGRAM, IN A SANDBOX (cutbox-door.mjs). By AI agents, Wed Nov 11 2026. No macro, syntax, notation, axiom, sorry.
-/
import Derived.Test.YtldofmeonljanaaGreatDoorRows
import GoSem.ClaimSeven
namespace Go.Proofs.YtldofmeonljanaaGreatDoor
namespace Rows

/-- THE TIED CARD OF 'laws.FnExactClassesOf'. -/
def fnExactClassesOfCard : Claim7 := { stood := { row := fnExactClassesOfRow, standIns := [], harness := (true, "25c6a5f3f67e573686306891d962346c3a5027ce7d6831e03d82659e1822ec1e"), looks := false }, kinds := [], alts := [], laidByText := true, laidKinds := [.data, .data, .data, .data, .pinned], laidTests := true, laidLooks := .later }
def FnExactClassesOfCardSaid : Prop := Claim7.holds Tryz.pinned (.plain (OpenSpec.ofChange fnExactClassesOfSpec)) fnExactClassesOfCard

/-- THE SECOND FORM's CARD OF 'laws.FnExactClassesOf'. -/
def fnExactClassesOfUptoCard : Claim7 := { stood := { row := fnExactClassesOfUptoRow, standIns := [], harness := (true, "25c6a5f3f67e573686306891d962346c3a5027ce7d6831e03d82659e1822ec1e"), looks := false }, kinds := [], alts := [], laidByText := true, laidKinds := [.data, .data, .data, .data, .pinned], laidTests := true, laidLooks := .later }
def FnExactClassesOfUptoCardSaid : Prop := Claim7.holds Tryz.pinned (.plain (OpenSpec.upto fnExactClassesOfSpec)) fnExactClassesOfUptoCard
end Rows
end Go.Proofs.YtldofmeonljanaaGreatDoor
