/-
  DERIVED. GIVEN WITH THE SEED: THE CARDS: each row of YtkhjhkepdjkiaaaGreatDoorRows.lean that lists a variable, with what it lists TIED to the program's text (the seventh form; the later family's looks); each row that meets fmt, with fmt's text TOLD by the authors' own Lean function (tested against real Go, not proved from fmt's source: count such statements apart). THE CARD IS WHAT COUNTS. Prove the row's statement (the work); the ties are given (YtkhjhkepdjkiaaaGreatDoorTie.lean); close each card by the builder's one call (the guide's Derived/Test/ToyasCard.lean, 'card_holds'). Laid BY PROGRAM, IN A SANDBOX (cutbox-door.mjs). By AI agents, Wed Nov 11 2026. No macro, syntax, notation, axiom, sorry.
-/
import Derived.Test.YtkhjhkepdjkiaaaGreatDoorRows
import GoSem.ClaimSeven
namespace Go.Proofs.YtkhjhkepdjkiaaaGreatDoor
namespace Rows

/-- THE TIED CARD OF 'laws.FnExactCountSymmetries'. -/
def fnExactCountSymmetriesCard : Claim7 := { stood := { row := fnExactCountSymmetriesRow, standIns := [], harness := (true, "c1cb9518fd4f2aec4926d7e5e73b916e8a4ba9968c2a8e424e5e91fbbbd6a635"), looks := false }, kinds := [], alts := [], laidByText := true, laidKinds := [.data, .pinned], laidTests := true, laidLooks := .later }
def FnExactCountSymmetriesCardSaid : Prop := Claim7.holds Tryz.pinned (.plain (OpenSpec.ofChange fnExactCountSymmetriesSpec)) fnExactCountSymmetriesCard

/-- THE TIED CARD OF 'laws.FnExactSymmetriesOf'. -/
def fnExactSymmetriesOfCard : Claim7 := { stood := { row := fnExactSymmetriesOfRow, standIns := [], harness := (true, "c1cb9518fd4f2aec4926d7e5e73b916e8a4ba9968c2a8e424e5e91fbbbd6a635"), looks := false }, kinds := [], alts := [], laidByText := true, laidKinds := [.data, .pinned], laidTests := true, laidLooks := .later }
def FnExactSymmetriesOfCardSaid : Prop := Claim7.holds Tryz.pinned (.plain (OpenSpec.ofChange fnExactSymmetriesOfSpec)) fnExactSymmetriesOfCard

/-- THE TIED CARD OF 'laws.FnExactOrbitsOf'. -/
def fnExactOrbitsOfCard : Claim7 := { stood := { row := fnExactOrbitsOfRow, standIns := [], harness := (true, "c1cb9518fd4f2aec4926d7e5e73b916e8a4ba9968c2a8e424e5e91fbbbd6a635"), looks := false }, kinds := [], alts := [], laidByText := true, laidKinds := [.data, .pinned], laidTests := true, laidLooks := .later }
def FnExactOrbitsOfCardSaid : Prop := Claim7.holds Tryz.pinned (.plain (OpenSpec.ofChange fnExactOrbitsOfSpec)) fnExactOrbitsOfCard

/-- THE TIED CARD OF 'laws.FnExactFindTranslation'. -/
def fnExactFindTranslationCard : Claim7 := { stood := { row := fnExactFindTranslationRow, standIns := [], harness := (true, "c1cb9518fd4f2aec4926d7e5e73b916e8a4ba9968c2a8e424e5e91fbbbd6a635"), looks := false }, kinds := [], alts := [], laidByText := true, laidKinds := [.data, .pinned], laidTests := true, laidLooks := .later }
def FnExactFindTranslationCardSaid : Prop := Claim7.holds Tryz.pinned (.plain (OpenSpec.ofChange fnExactFindTranslationSpec)) fnExactFindTranslationCard

/-- THE TIED CARD OF 'laws.FnExactAreLeanEqual'. -/
def fnExactAreLeanEqualCard : Claim7 := { stood := { row := fnExactAreLeanEqualRow, standIns := [], harness := (true, "c1cb9518fd4f2aec4926d7e5e73b916e8a4ba9968c2a8e424e5e91fbbbd6a635"), looks := false }, kinds := [], alts := [], laidByText := true, laidKinds := [.data, .pinned], laidTests := true, laidLooks := .later }
def FnExactAreLeanEqualCardSaid : Prop := Claim7.holds Tryz.pinned (.plain (OpenSpec.ofChange fnExactAreLeanEqualSpec)) fnExactAreLeanEqualCard

/-- THE SECOND FORM's CARD OF 'laws.FnExactCountSymmetries'. -/
def fnExactCountSymmetriesUptoCard : Claim7 := { stood := { row := fnExactCountSymmetriesUptoRow, standIns := [], harness := (true, "c1cb9518fd4f2aec4926d7e5e73b916e8a4ba9968c2a8e424e5e91fbbbd6a635"), looks := false }, kinds := [], alts := [], laidByText := true, laidKinds := [.data, .pinned], laidTests := true, laidLooks := .later }
def FnExactCountSymmetriesUptoCardSaid : Prop := Claim7.holds Tryz.pinned (.plain (OpenSpec.upto fnExactCountSymmetriesSpec)) fnExactCountSymmetriesUptoCard

/-- THE SECOND FORM's CARD OF 'laws.FnExactSymmetriesOf'. -/
def fnExactSymmetriesOfUptoCard : Claim7 := { stood := { row := fnExactSymmetriesOfUptoRow, standIns := [], harness := (true, "c1cb9518fd4f2aec4926d7e5e73b916e8a4ba9968c2a8e424e5e91fbbbd6a635"), looks := false }, kinds := [], alts := [], laidByText := true, laidKinds := [.data, .pinned], laidTests := true, laidLooks := .later }
def FnExactSymmetriesOfUptoCardSaid : Prop := Claim7.holds Tryz.pinned (.plain (OpenSpec.upto fnExactSymmetriesOfSpec)) fnExactSymmetriesOfUptoCard

/-- THE SECOND FORM's CARD OF 'laws.FnExactOrbitsOf'. -/
def fnExactOrbitsOfUptoCard : Claim7 := { stood := { row := fnExactOrbitsOfUptoRow, standIns := [], harness := (true, "c1cb9518fd4f2aec4926d7e5e73b916e8a4ba9968c2a8e424e5e91fbbbd6a635"), looks := false }, kinds := [], alts := [], laidByText := true, laidKinds := [.data, .pinned], laidTests := true, laidLooks := .later }
def FnExactOrbitsOfUptoCardSaid : Prop := Claim7.holds Tryz.pinned (.plain (OpenSpec.upto fnExactOrbitsOfSpec)) fnExactOrbitsOfUptoCard

/-- THE SECOND FORM's CARD OF 'laws.FnExactFindTranslation'. -/
def fnExactFindTranslationUptoCard : Claim7 := { stood := { row := fnExactFindTranslationUptoRow, standIns := [], harness := (true, "c1cb9518fd4f2aec4926d7e5e73b916e8a4ba9968c2a8e424e5e91fbbbd6a635"), looks := false }, kinds := [], alts := [], laidByText := true, laidKinds := [.data, .pinned], laidTests := true, laidLooks := .later }
def FnExactFindTranslationUptoCardSaid : Prop := Claim7.holds Tryz.pinned (.plain (OpenSpec.upto fnExactFindTranslationSpec)) fnExactFindTranslationUptoCard

/-- THE SECOND FORM's CARD OF 'laws.FnExactAreLeanEqual'. -/
def fnExactAreLeanEqualUptoCard : Claim7 := { stood := { row := fnExactAreLeanEqualUptoRow, standIns := [], harness := (true, "c1cb9518fd4f2aec4926d7e5e73b916e8a4ba9968c2a8e424e5e91fbbbd6a635"), looks := false }, kinds := [], alts := [], laidByText := true, laidKinds := [.data, .pinned], laidTests := true, laidLooks := .later }
def FnExactAreLeanEqualUptoCardSaid : Prop := Claim7.holds Tryz.pinned (.plain (OpenSpec.upto fnExactAreLeanEqualSpec)) fnExactAreLeanEqualUptoCard
end Rows
end Go.Proofs.YtkhjhkepdjkiaaaGreatDoor
