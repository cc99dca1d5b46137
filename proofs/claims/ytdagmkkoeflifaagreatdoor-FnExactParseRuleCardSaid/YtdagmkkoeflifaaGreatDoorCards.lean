/-
  DERIVED. GIVEN WITH THE SEED: THE CARDS: each row of YtdagmkkoeflifaaGreatDoorRows.lean that lists a variable, with what it lists TIED to the program's text (the seventh form; the later family's looks); each row that meets fmt, with fmt's text TOLD by the authors' own Lean function (tested against real Go, not proved from fmt's source: count such statements apart). THE CARD IS WHAT COUNTS. Prove the row's statement (the work); the ties are given (YtdagmkkoeflifaaGreatDoorTie.lean); close each card by the builder's one call (the guide's Derived/Test/ToyasCard.lean, 'card_holds'). Laid BY PROGRAM, IN A SANDBOX (cutbox-door.mjs). By AI agents, Wed Nov 11 2026. No macro, syntax, notation, axiom, sorry.
-/
import Derived.Test.YtdagmkkoeflifaaGreatDoorRows
import GoSem.ClaimSeven
namespace Go.Proofs.YtdagmkkoeflifaaGreatDoor
namespace Rows

/-- THE TIED CARD OF 'laws.FnExactParseRule'. -/
def fnExactParseRuleCard : Claim7 := { stood := { row := fnExactParseRuleRow, standIns := [], harness := (true, "cd303f5d30abf8782c150d0f2b241619219e8d63d7501fe41b1070dd690126ab"), looks := true }, kinds := [], alts := [], laidByText := true, laidKinds := [.data, .data, .data, .data, .sentinel, .sentinel, .pinned], laidTests := true, laidLooks := .later }
def FnExactParseRuleCardSaid : Prop := Claim7.holds Tryz.pinned (.plain (OpenSpec.ofChange fnExactParseRuleSpec)) fnExactParseRuleCard

/-- THE SECOND FORM's CARD OF 'laws.FnExactParseRule'. -/
def fnExactParseRuleUptoCard : Claim7 := { stood := { row := fnExactParseRuleUptoRow, standIns := [], harness := (true, "cd303f5d30abf8782c150d0f2b241619219e8d63d7501fe41b1070dd690126ab"), looks := true }, kinds := [], alts := [], laidByText := true, laidKinds := [.data, .data, .data, .data, .sentinel, .sentinel, .pinned], laidTests := true, laidLooks := .later }
def FnExactParseRuleUptoCardSaid : Prop := Claim7.holds Tryz.pinned (.plain (OpenSpec.upto fnExactParseRuleSpec)) fnExactParseRuleUptoCard
end Rows
end Go.Proofs.YtdagmkkoeflifaaGreatDoor
