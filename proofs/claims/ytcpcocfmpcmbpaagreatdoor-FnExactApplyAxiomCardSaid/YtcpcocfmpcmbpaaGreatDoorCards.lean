/-
  DERIVED. GIVEN WITH THE SEED: THE CARDS: each row of YtcpcocfmpcmbpaaGreatDoorRows.lean that lists a variable, with what it lists TIED to the program's text (the seventh form; the later family's looks); each row that meets fmt, with fmt's text TOLD by the authors' own Lean function (tested against real Go, not proved from fmt's source: count such statements apart). THE CARD IS WHAT COUNTS. Prove the row's statement (the work); the ties are given (YtcpcocfmpcmbpaaGreatDoorTie.lean); close each card by the builder's one call (the guide's Derived/Test/ToyasCard.lean, 'card_holds'). Laid BY PROGRAM, IN A SANDBOX (cutbox-door.mjs). By AI agents, Wed Nov 11 2026. No macro, syntax, notation, axiom, sorry.
-/
import Derived.Test.YtcpcocfmpcmbpaaGreatDoorRows
import GoSem.ClaimSeven
namespace Go.Proofs.YtcpcocfmpcmbpaaGreatDoor
namespace Rows

/-- THE TIED CARD OF 'laws.FnExactApplyAxiom'. -/
def fnExactApplyAxiomCard : Claim7 := { stood := { row := fnExactApplyAxiomRow, standIns := [], harness := (true, "cfd362bbeba8603b07ab04f80da74a893752913c504ab224200b5cbce23156e6"), looks := false }, kinds := [], alts := [], laidByText := true, laidKinds := [.data, .pinned], laidTests := true, laidLooks := .later }
def FnExactApplyAxiomCardSaid : Prop := Claim7.holds Tryz.pinned (.plain (OpenSpec.ofChange fnExactApplyAxiomSpec)) fnExactApplyAxiomCard

/-- THE SECOND FORM's CARD OF 'laws.FnExactApplyAxiom'. -/
def fnExactApplyAxiomUptoCard : Claim7 := { stood := { row := fnExactApplyAxiomUptoRow, standIns := [], harness := (true, "cfd362bbeba8603b07ab04f80da74a893752913c504ab224200b5cbce23156e6"), looks := false }, kinds := [], alts := [], laidByText := true, laidKinds := [.data, .pinned], laidTests := true, laidLooks := .later }
def FnExactApplyAxiomUptoCardSaid : Prop := Claim7.holds Tryz.pinned (.plain (OpenSpec.upto fnExactApplyAxiomSpec)) fnExactApplyAxiomUptoCard
end Rows
end Go.Proofs.YtcpcocfmpcmbpaaGreatDoor
