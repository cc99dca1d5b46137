/-
  DERIVED. GIVEN WITH THE SEED: THE CARDS: each row of YtnioooiiegjabaaGreatDoorRows.lean that lists a variable, with what it lists TIED to the program's text (the seventh form; the later family's looks); each row that meets fmt, with fmt's text TOLD by the authors' own Lean function (tested against real Go, not proved from fmt's source: count such statements apart). THE CARD IS WHAT COUNTS. Prove the row's statement (the work); the ties are given (YtnioooiiegjabaaGreatDoorTie.lean); close each card by the builder's one call (the guide's Derived/Test/ToyasCard.lean, 'card_holds'). Laid BY PROGRAM, IN A SANDBOX (cutbox-door.mjs). By AI agents, Wed Nov 11 2026. No macro, syntax, notation, axiom, sorry.
-/
import Derived.Test.YtnioooiiegjabaaGreatDoorRows
import GoSem.ClaimSeven
namespace Go.Proofs.YtnioooiiegjabaaGreatDoor
namespace Rows

/-- THE TIED CARD OF 'laws.FnExactSortingText'. -/
def fnExactSortingTextCard : Claim7 := { stood := { row := fnExactSortingTextRow, standIns := [], harness := (true, "74dd81806ced972235df14b683855db159e65f96a38aa51243486e30242c509e"), looks := false }, kinds := [], alts := [], laidByText := true, laidKinds := [.data, .data, .data, .data, .pinned], laidTests := true, laidLooks := .later }
def FnExactSortingTextCardSaid : Prop := Claim7.holds Tryz.pinned (.plain (OpenSpec.ofChange fnExactSortingTextSpec)) fnExactSortingTextCard

/-- THE TIED CARD OF 'laws.FnExactJoinOf'. -/
def fnExactJoinOfCard : Claim7 := { stood := { row := fnExactJoinOfRow, standIns := [], harness := (true, "74dd81806ced972235df14b683855db159e65f96a38aa51243486e30242c509e"), looks := false }, kinds := [], alts := [], laidByText := true, laidKinds := [.data, .pinned], laidTests := true, laidLooks := .later }
def FnExactJoinOfCardSaid : Prop := Claim7.holds Tryz.pinned (.plain (OpenSpec.ofChange fnExactJoinOfSpec)) fnExactJoinOfCard

/-- THE TIED CARD OF 'laws.FnExactMeetOf'. -/
def fnExactMeetOfCard : Claim7 := { stood := { row := fnExactMeetOfRow, standIns := [], harness := (true, "74dd81806ced972235df14b683855db159e65f96a38aa51243486e30242c509e"), looks := false }, kinds := [], alts := [], laidByText := true, laidKinds := [.data, .pinned], laidTests := true, laidLooks := .later }
def FnExactMeetOfCardSaid : Prop := Claim7.holds Tryz.pinned (.plain (OpenSpec.ofChange fnExactMeetOfSpec)) fnExactMeetOfCard

/-- THE SECOND FORM's CARD OF 'laws.FnExactSortingText'. -/
def fnExactSortingTextUptoCard : Claim7 := { stood := { row := fnExactSortingTextUptoRow, standIns := [], harness := (true, "74dd81806ced972235df14b683855db159e65f96a38aa51243486e30242c509e"), looks := false }, kinds := [], alts := [], laidByText := true, laidKinds := [.data, .data, .data, .data, .pinned], laidTests := true, laidLooks := .later }
def FnExactSortingTextUptoCardSaid : Prop := Claim7.holds Tryz.pinned (.plain (OpenSpec.upto fnExactSortingTextSpec)) fnExactSortingTextUptoCard

/-- THE SECOND FORM's CARD OF 'laws.FnExactJoinOf'. -/
def fnExactJoinOfUptoCard : Claim7 := { stood := { row := fnExactJoinOfUptoRow, standIns := [], harness := (true, "74dd81806ced972235df14b683855db159e65f96a38aa51243486e30242c509e"), looks := false }, kinds := [], alts := [], laidByText := true, laidKinds := [.data, .pinned], laidTests := true, laidLooks := .later }
def FnExactJoinOfUptoCardSaid : Prop := Claim7.holds Tryz.pinned (.plain (OpenSpec.upto fnExactJoinOfSpec)) fnExactJoinOfUptoCard

/-- THE SECOND FORM's CARD OF 'laws.FnExactMeetOf'. -/
def fnExactMeetOfUptoCard : Claim7 := { stood := { row := fnExactMeetOfUptoRow, standIns := [], harness := (true, "74dd81806ced972235df14b683855db159e65f96a38aa51243486e30242c509e"), looks := false }, kinds := [], alts := [], laidByText := true, laidKinds := [.data, .pinned], laidTests := true, laidLooks := .later }
def FnExactMeetOfUptoCardSaid : Prop := Claim7.holds Tryz.pinned (.plain (OpenSpec.upto fnExactMeetOfSpec)) fnExactMeetOfUptoCard
end Rows
end Go.Proofs.YtnioooiiegjabaaGreatDoor
