/-
  DERIVED. GIVEN WITH THE SEED: THE CARDS: each row of YtcjkjlchlflbfaaGreatDoorRows.lean that lists a variable, with what it lists TIED to the program's text (the seventh form; the later family's looks); each row that meets fmt, with fmt's text TOLD by the authors' own Lean function (tested against real Go, not proved from fmt's source: count such statements apart). THE CARD IS WHAT COUNTS. Prove the row's statement (the work); the ties are given (YtcjkjlchlflbfaaGreatDoorTie.lean); close each card by the builder's one call (the guide's Derived/Test/ToyasCard.lean, 'card_holds'). Laid BY PROGRAM, IN A SANDBOX (cutbox-door.mjs). By AI agents, Wed Nov 11 2026. No macro, syntax, notation, axiom, sorry.
-/
import Derived.Test.YtcjkjlchlflbfaaGreatDoorRows
import GoSem.ClaimSeven
namespace Go.Proofs.YtcjkjlchlflbfaaGreatDoor
namespace Rows

/-- THE TIED CARD OF 'laws.FnExactParseTerm'. -/
def fnExactParseTermCard : Claim7 := { stood := { row := fnExactParseTermRow, standIns := [], harness := (true, "376478481d6c6ebe88abb01d39d387ff1c228403c7c8d9d4135e73065f5f4d80"), looks := true }, kinds := [], alts := [], laidByText := true, laidKinds := [.data, .data, .data, .data, .sentinel, .sentinel, .pinned], laidTests := true, laidLooks := .later }
def FnExactParseTermCardSaid : Prop := Claim7.holds Tryz.pinned (.plain (OpenSpec.ofChange fnExactParseTermSpec)) fnExactParseTermCard

/-- THE SECOND FORM's CARD OF 'laws.FnExactParseTerm'. -/
def fnExactParseTermUptoCard : Claim7 := { stood := { row := fnExactParseTermUptoRow, standIns := [], harness := (true, "376478481d6c6ebe88abb01d39d387ff1c228403c7c8d9d4135e73065f5f4d80"), looks := true }, kinds := [], alts := [], laidByText := true, laidKinds := [.data, .data, .data, .data, .sentinel, .sentinel, .pinned], laidTests := true, laidLooks := .later }
def FnExactParseTermUptoCardSaid : Prop := Claim7.holds Tryz.pinned (.plain (OpenSpec.upto fnExactParseTermSpec)) fnExactParseTermUptoCard
end Rows
end Go.Proofs.YtcjkjlchlflbfaaGreatDoor
