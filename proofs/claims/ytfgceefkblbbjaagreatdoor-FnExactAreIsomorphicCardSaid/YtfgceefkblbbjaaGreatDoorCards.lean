/-
  DERIVED. GIVEN WITH THE SEED: THE CARDS: each row of YtfgceefkblbbjaaGreatDoorRows.lean that lists a variable, with what it lists TIED to the program's text (the seventh form; the later family's looks); each row that meets fmt, with fmt's text TOLD by the authors' own Lean function (tested against real Go, not proved from fmt's source: count such statements apart). THE CARD IS WHAT COUNTS. Prove the row's statement (the work); the ties are given (YtfgceefkblbbjaaGreatDoorTie.lean); close each card by the builder's one call (the guide's Derived/Test/ToyasCard.lean, 'card_holds'). Laid BY PROGRAM, IN A SANDBOX (cutbox-door.mjs). By AI agents, Wed Nov 11 2026. No macro, syntax, notation, axiom, sorry.
-/
import Derived.Test.YtfgceefkblbbjaaGreatDoorRows
import GoSem.ClaimSeven
namespace Go.Proofs.YtfgceefkblbbjaaGreatDoor
namespace Rows

/-- THE TIED CARD OF 'laws.FnExactIsTerm'. -/
def fnExactIsTermCard : Claim7 := { stood := { row := fnExactIsTermRow, standIns := [], harness := (true, "8edbf2ddb8d744aff7dd90c9753d309bd25ce31ae8457e5edbe7ce2641346957"), looks := true }, kinds := [], alts := [], laidByText := true, laidKinds := [.data, .pinned], laidTests := true, laidLooks := .later }
def FnExactIsTermCardSaid : Prop := Claim7.holds Tryz.pinned (.plain (OpenSpec.ofChange fnExactIsTermSpec)) fnExactIsTermCard

/-- THE TIED CARD OF 'laws.FnExactTermDepth'. -/
def fnExactTermDepthCard : Claim7 := { stood := { row := fnExactTermDepthRow, standIns := [], harness := (true, "8edbf2ddb8d744aff7dd90c9753d309bd25ce31ae8457e5edbe7ce2641346957"), looks := true }, kinds := [], alts := [], laidByText := true, laidKinds := [.data, .pinned], laidTests := true, laidLooks := .later }
def FnExactTermDepthCardSaid : Prop := Claim7.holds Tryz.pinned (.plain (OpenSpec.ofChange fnExactTermDepthSpec)) fnExactTermDepthCard

/-- THE TIED CARD OF 'laws.FnExactTermParts'. -/
def fnExactTermPartsCard : Claim7 := { stood := { row := fnExactTermPartsRow, standIns := [], harness := (true, "8edbf2ddb8d744aff7dd90c9753d309bd25ce31ae8457e5edbe7ce2641346957"), looks := true }, kinds := [], alts := [], laidByText := true, laidKinds := [.data, .pinned], laidTests := true, laidLooks := .later }
def FnExactTermPartsCardSaid : Prop := Claim7.holds Tryz.pinned (.plain (OpenSpec.ofChange fnExactTermPartsSpec)) fnExactTermPartsCard

/-- THE TIED CARD OF 'laws.FnExactTermValue'. -/
def fnExactTermValueCard : Claim7 := { stood := { row := fnExactTermValueRow, standIns := [], harness := (true, "8edbf2ddb8d744aff7dd90c9753d309bd25ce31ae8457e5edbe7ce2641346957"), looks := true }, kinds := [], alts := [], laidByText := true, laidKinds := [.data, .pinned], laidTests := true, laidLooks := .later }
def FnExactTermValueCardSaid : Prop := Claim7.holds Tryz.pinned (.plain (OpenSpec.ofChange fnExactTermValueSpec)) fnExactTermValueCard

/-- THE TIED CARD OF 'laws.FnExactTermText'. -/
def fnExactTermTextCard : Claim7 := { stood := { row := fnExactTermTextRow, standIns := [], harness := (true, "8edbf2ddb8d744aff7dd90c9753d309bd25ce31ae8457e5edbe7ce2641346957"), looks := true }, kinds := [], alts := [], laidByText := true, laidKinds := [.data, .data, .data, .data, .pinned], laidTests := true, laidLooks := .later }
def FnExactTermTextCardSaid : Prop := Claim7.holds Tryz.pinned (.plain (OpenSpec.ofChange fnExactTermTextSpec)) fnExactTermTextCard

/-- THE TIED CARD OF 'laws.FnExactParseTerm'. -/
def fnExactParseTermCard : Claim7 := { stood := { row := fnExactParseTermRow, standIns := [], harness := (true, "8edbf2ddb8d744aff7dd90c9753d309bd25ce31ae8457e5edbe7ce2641346957"), looks := true }, kinds := [], alts := [], laidByText := true, laidKinds := [.data, .data, .data, .data, .sentinel, .sentinel, .pinned], laidTests := true, laidLooks := .later }
def FnExactParseTermCardSaid : Prop := Claim7.holds Tryz.pinned (.plain (OpenSpec.ofChange fnExactParseTermSpec)) fnExactParseTermCard

/-- THE TIED CARD OF 'laws.FnExactSameTerms'. -/
def fnExactSameTermsCard : Claim7 := { stood := { row := fnExactSameTermsRow, standIns := [], harness := (true, "8edbf2ddb8d744aff7dd90c9753d309bd25ce31ae8457e5edbe7ce2641346957"), looks := true }, kinds := [], alts := [], laidByText := true, laidKinds := [.data, .pinned], laidTests := true, laidLooks := .later }
def FnExactSameTermsCardSaid : Prop := Claim7.holds Tryz.pinned (.plain (OpenSpec.ofChange fnExactSameTermsSpec)) fnExactSameTermsCard

/-- THE TIED CARD OF 'laws.FnExactApplyAxiom'. -/
def fnExactApplyAxiomCard : Claim7 := { stood := { row := fnExactApplyAxiomRow, standIns := [], harness := (true, "8edbf2ddb8d744aff7dd90c9753d309bd25ce31ae8457e5edbe7ce2641346957"), looks := true }, kinds := [], alts := [], laidByText := true, laidKinds := [.data, .pinned], laidTests := true, laidLooks := .later }
def FnExactApplyAxiomCardSaid : Prop := Claim7.holds Tryz.pinned (.plain (OpenSpec.ofChange fnExactApplyAxiomSpec)) fnExactApplyAxiomCard

/-- THE TIED CARD OF 'laws.FnExactEdgesOfTranslation'. -/
def fnExactEdgesOfTranslationCard : Claim7 := { stood := { row := fnExactEdgesOfTranslationRow, standIns := [], harness := (true, "8edbf2ddb8d744aff7dd90c9753d309bd25ce31ae8457e5edbe7ce2641346957"), looks := true }, kinds := [], alts := [], laidByText := true, laidKinds := [.data, .pinned], laidTests := true, laidLooks := .later }
def FnExactEdgesOfTranslationCardSaid : Prop := Claim7.holds Tryz.pinned (.plain (OpenSpec.ofChange fnExactEdgesOfTranslationSpec)) fnExactEdgesOfTranslationCard

/-- THE TIED CARD OF 'laws.FnExactIsTranslation'. -/
def fnExactIsTranslationCard : Claim7 := { stood := { row := fnExactIsTranslationRow, standIns := [], harness := (true, "8edbf2ddb8d744aff7dd90c9753d309bd25ce31ae8457e5edbe7ce2641346957"), looks := true }, kinds := [], alts := [], laidByText := true, laidKinds := [.data, .pinned], laidTests := true, laidLooks := .later }
def FnExactIsTranslationCardSaid : Prop := Claim7.holds Tryz.pinned (.plain (OpenSpec.ofChange fnExactIsTranslationSpec)) fnExactIsTranslationCard

/-- THE TIED CARD OF 'laws.FnExactFindTranslation'. -/
def fnExactFindTranslationCard : Claim7 := { stood := { row := fnExactFindTranslationRow, standIns := [], harness := (true, "8edbf2ddb8d744aff7dd90c9753d309bd25ce31ae8457e5edbe7ce2641346957"), looks := true }, kinds := [], alts := [], laidByText := true, laidKinds := [.data, .pinned], laidTests := true, laidLooks := .later }
def FnExactFindTranslationCardSaid : Prop := Claim7.holds Tryz.pinned (.plain (OpenSpec.ofChange fnExactFindTranslationSpec)) fnExactFindTranslationCard

/-- THE TIED CARD OF 'laws.FnExactAreIsomorphic'. -/
def fnExactAreIsomorphicCard : Claim7 := { stood := { row := fnExactAreIsomorphicRow, standIns := [], harness := (true, "8edbf2ddb8d744aff7dd90c9753d309bd25ce31ae8457e5edbe7ce2641346957"), looks := true }, kinds := [], alts := [], laidByText := true, laidKinds := [.data, .pinned], laidTests := true, laidLooks := .later }
def FnExactAreIsomorphicCardSaid : Prop := Claim7.holds Tryz.pinned (.plain (OpenSpec.ofChange fnExactAreIsomorphicSpec)) fnExactAreIsomorphicCard

/-- THE SECOND FORM's CARD OF 'laws.FnExactIsTerm'. -/
def fnExactIsTermUptoCard : Claim7 := { stood := { row := fnExactIsTermUptoRow, standIns := [], harness := (true, "8edbf2ddb8d744aff7dd90c9753d309bd25ce31ae8457e5edbe7ce2641346957"), looks := true }, kinds := [], alts := [], laidByText := true, laidKinds := [.data, .pinned], laidTests := true, laidLooks := .later }
def FnExactIsTermUptoCardSaid : Prop := Claim7.holds Tryz.pinned (.plain (OpenSpec.upto fnExactIsTermSpec)) fnExactIsTermUptoCard

/-- THE SECOND FORM's CARD OF 'laws.FnExactTermDepth'. -/
def fnExactTermDepthUptoCard : Claim7 := { stood := { row := fnExactTermDepthUptoRow, standIns := [], harness := (true, "8edbf2ddb8d744aff7dd90c9753d309bd25ce31ae8457e5edbe7ce2641346957"), looks := true }, kinds := [], alts := [], laidByText := true, laidKinds := [.data, .pinned], laidTests := true, laidLooks := .later }
def FnExactTermDepthUptoCardSaid : Prop := Claim7.holds Tryz.pinned (.plain (OpenSpec.upto fnExactTermDepthSpec)) fnExactTermDepthUptoCard

/-- THE SECOND FORM's CARD OF 'laws.FnExactTermParts'. -/
def fnExactTermPartsUptoCard : Claim7 := { stood := { row := fnExactTermPartsUptoRow, standIns := [], harness := (true, "8edbf2ddb8d744aff7dd90c9753d309bd25ce31ae8457e5edbe7ce2641346957"), looks := true }, kinds := [], alts := [], laidByText := true, laidKinds := [.data, .pinned], laidTests := true, laidLooks := .later }
def FnExactTermPartsUptoCardSaid : Prop := Claim7.holds Tryz.pinned (.plain (OpenSpec.upto fnExactTermPartsSpec)) fnExactTermPartsUptoCard

/-- THE SECOND FORM's CARD OF 'laws.FnExactTermValue'. -/
def fnExactTermValueUptoCard : Claim7 := { stood := { row := fnExactTermValueUptoRow, standIns := [], harness := (true, "8edbf2ddb8d744aff7dd90c9753d309bd25ce31ae8457e5edbe7ce2641346957"), looks := true }, kinds := [], alts := [], laidByText := true, laidKinds := [.data, .pinned], laidTests := true, laidLooks := .later }
def FnExactTermValueUptoCardSaid : Prop := Claim7.holds Tryz.pinned (.plain (OpenSpec.upto fnExactTermValueSpec)) fnExactTermValueUptoCard

/-- THE SECOND FORM's CARD OF 'laws.FnExactTermText'. -/
def fnExactTermTextUptoCard : Claim7 := { stood := { row := fnExactTermTextUptoRow, standIns := [], harness := (true, "8edbf2ddb8d744aff7dd90c9753d309bd25ce31ae8457e5edbe7ce2641346957"), looks := true }, kinds := [], alts := [], laidByText := true, laidKinds := [.data, .data, .data, .data, .pinned], laidTests := true, laidLooks := .later }
def FnExactTermTextUptoCardSaid : Prop := Claim7.holds Tryz.pinned (.plain (OpenSpec.upto fnExactTermTextSpec)) fnExactTermTextUptoCard

/-- THE SECOND FORM's CARD OF 'laws.FnExactParseTerm'. -/
def fnExactParseTermUptoCard : Claim7 := { stood := { row := fnExactParseTermUptoRow, standIns := [], harness := (true, "8edbf2ddb8d744aff7dd90c9753d309bd25ce31ae8457e5edbe7ce2641346957"), looks := true }, kinds := [], alts := [], laidByText := true, laidKinds := [.data, .data, .data, .data, .sentinel, .sentinel, .pinned], laidTests := true, laidLooks := .later }
def FnExactParseTermUptoCardSaid : Prop := Claim7.holds Tryz.pinned (.plain (OpenSpec.upto fnExactParseTermSpec)) fnExactParseTermUptoCard

/-- THE SECOND FORM's CARD OF 'laws.FnExactSameTerms'. -/
def fnExactSameTermsUptoCard : Claim7 := { stood := { row := fnExactSameTermsUptoRow, standIns := [], harness := (true, "8edbf2ddb8d744aff7dd90c9753d309bd25ce31ae8457e5edbe7ce2641346957"), looks := true }, kinds := [], alts := [], laidByText := true, laidKinds := [.data, .pinned], laidTests := true, laidLooks := .later }
def FnExactSameTermsUptoCardSaid : Prop := Claim7.holds Tryz.pinned (.plain (OpenSpec.upto fnExactSameTermsSpec)) fnExactSameTermsUptoCard

/-- THE SECOND FORM's CARD OF 'laws.FnExactApplyAxiom'. -/
def fnExactApplyAxiomUptoCard : Claim7 := { stood := { row := fnExactApplyAxiomUptoRow, standIns := [], harness := (true, "8edbf2ddb8d744aff7dd90c9753d309bd25ce31ae8457e5edbe7ce2641346957"), looks := true }, kinds := [], alts := [], laidByText := true, laidKinds := [.data, .pinned], laidTests := true, laidLooks := .later }
def FnExactApplyAxiomUptoCardSaid : Prop := Claim7.holds Tryz.pinned (.plain (OpenSpec.upto fnExactApplyAxiomSpec)) fnExactApplyAxiomUptoCard

/-- THE SECOND FORM's CARD OF 'laws.FnExactEdgesOfTranslation'. -/
def fnExactEdgesOfTranslationUptoCard : Claim7 := { stood := { row := fnExactEdgesOfTranslationUptoRow, standIns := [], harness := (true, "8edbf2ddb8d744aff7dd90c9753d309bd25ce31ae8457e5edbe7ce2641346957"), looks := true }, kinds := [], alts := [], laidByText := true, laidKinds := [.data, .pinned], laidTests := true, laidLooks := .later }
def FnExactEdgesOfTranslationUptoCardSaid : Prop := Claim7.holds Tryz.pinned (.plain (OpenSpec.upto fnExactEdgesOfTranslationSpec)) fnExactEdgesOfTranslationUptoCard

/-- THE SECOND FORM's CARD OF 'laws.FnExactIsTranslation'. -/
def fnExactIsTranslationUptoCard : Claim7 := { stood := { row := fnExactIsTranslationUptoRow, standIns := [], harness := (true, "8edbf2ddb8d744aff7dd90c9753d309bd25ce31ae8457e5edbe7ce2641346957"), looks := true }, kinds := [], alts := [], laidByText := true, laidKinds := [.data, .pinned], laidTests := true, laidLooks := .later }
def FnExactIsTranslationUptoCardSaid : Prop := Claim7.holds Tryz.pinned (.plain (OpenSpec.upto fnExactIsTranslationSpec)) fnExactIsTranslationUptoCard

/-- THE SECOND FORM's CARD OF 'laws.FnExactFindTranslation'. -/
def fnExactFindTranslationUptoCard : Claim7 := { stood := { row := fnExactFindTranslationUptoRow, standIns := [], harness := (true, "8edbf2ddb8d744aff7dd90c9753d309bd25ce31ae8457e5edbe7ce2641346957"), looks := true }, kinds := [], alts := [], laidByText := true, laidKinds := [.data, .pinned], laidTests := true, laidLooks := .later }
def FnExactFindTranslationUptoCardSaid : Prop := Claim7.holds Tryz.pinned (.plain (OpenSpec.upto fnExactFindTranslationSpec)) fnExactFindTranslationUptoCard

/-- THE SECOND FORM's CARD OF 'laws.FnExactAreIsomorphic'. -/
def fnExactAreIsomorphicUptoCard : Claim7 := { stood := { row := fnExactAreIsomorphicUptoRow, standIns := [], harness := (true, "8edbf2ddb8d744aff7dd90c9753d309bd25ce31ae8457e5edbe7ce2641346957"), looks := true }, kinds := [], alts := [], laidByText := true, laidKinds := [.data, .pinned], laidTests := true, laidLooks := .later }
def FnExactAreIsomorphicUptoCardSaid : Prop := Claim7.holds Tryz.pinned (.plain (OpenSpec.upto fnExactAreIsomorphicSpec)) fnExactAreIsomorphicUptoCard
end Rows
end Go.Proofs.YtfgceefkblbbjaaGreatDoor
