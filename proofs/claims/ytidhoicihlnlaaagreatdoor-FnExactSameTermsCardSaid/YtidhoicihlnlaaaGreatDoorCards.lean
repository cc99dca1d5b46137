/-
  DERIVED. GIVEN WITH THE SEED: THE CARDS: each row of YtidhoicihlnlaaaGreatDoorRows.lean that lists a variable, with what it lists TIED to the program's text (the seventh form; the later family's looks); each row that meets fmt, with fmt's text TOLD by the authors' own Lean function (tested against real Go, not proved from fmt's source: count such statements apart). THE CARD IS WHAT COUNTS. Prove the row's statement (the work); the ties are given (YtidhoicihlnlaaaGreatDoorTie.lean); close each card by the builder's one call (the guide's Derived/Test/ToyasCard.lean, 'card_holds'). Laid BY PROGRAM, IN A SANDBOX (cutbox-door.mjs). By AI agents, Wed Nov 11 2026. No macro, syntax, notation, axiom, sorry.
-/
import Derived.Test.YtidhoicihlnlaaaGreatDoorRows
import GoSem.ClaimSeven
namespace Go.Proofs.YtidhoicihlnlaaaGreatDoor
namespace Rows

/-- THE TIED CARD OF 'laws.FnExactTermText'. -/
def fnExactTermTextCard : Claim7 := { stood := { row := fnExactTermTextRow, standIns := [], harness := (true, "efdab8404cd1b3eaf13ebab4749173e06b34331ed1a9aadfbcedb4646c024741"), looks := false }, kinds := [], alts := [], laidByText := true, laidKinds := [.data, .data, .data, .data, .pinned], laidTests := true, laidLooks := .later }
def FnExactTermTextCardSaid : Prop := Claim7.holds Tryz.pinned (.plain (OpenSpec.ofChange fnExactTermTextSpec)) fnExactTermTextCard

/-- THE TIED CARD OF 'laws.FnExactTermParts'. -/
def fnExactTermPartsCard : Claim7 := { stood := { row := fnExactTermPartsRow, standIns := [], harness := (true, "efdab8404cd1b3eaf13ebab4749173e06b34331ed1a9aadfbcedb4646c024741"), looks := false }, kinds := [], alts := [], laidByText := true, laidKinds := [.data, .pinned], laidTests := true, laidLooks := .later }
def FnExactTermPartsCardSaid : Prop := Claim7.holds Tryz.pinned (.plain (OpenSpec.ofChange fnExactTermPartsSpec)) fnExactTermPartsCard

/-- THE TIED CARD OF 'laws.FnExactSameTerms'. -/
def fnExactSameTermsCard : Claim7 := { stood := { row := fnExactSameTermsRow, standIns := [], harness := (true, "efdab8404cd1b3eaf13ebab4749173e06b34331ed1a9aadfbcedb4646c024741"), looks := false }, kinds := [], alts := [], laidByText := true, laidKinds := [.data, .pinned], laidTests := true, laidLooks := .later }
def FnExactSameTermsCardSaid : Prop := Claim7.holds Tryz.pinned (.plain (OpenSpec.ofChange fnExactSameTermsSpec)) fnExactSameTermsCard

/-- THE TIED CARD OF 'laws.FnExactInverseRule'. -/
def fnExactInverseRuleCard : Claim7 := { stood := { row := fnExactInverseRuleRow, standIns := [], harness := (true, "efdab8404cd1b3eaf13ebab4749173e06b34331ed1a9aadfbcedb4646c024741"), looks := false }, kinds := [], alts := [], laidByText := true, laidKinds := [.data, .pinned], laidTests := true, laidLooks := .later }
def FnExactInverseRuleCardSaid : Prop := Claim7.holds Tryz.pinned (.plain (OpenSpec.ofChange fnExactInverseRuleSpec)) fnExactInverseRuleCard

/-- THE SECOND FORM's CARD OF 'laws.FnExactTermText'. -/
def fnExactTermTextUptoCard : Claim7 := { stood := { row := fnExactTermTextUptoRow, standIns := [], harness := (true, "efdab8404cd1b3eaf13ebab4749173e06b34331ed1a9aadfbcedb4646c024741"), looks := false }, kinds := [], alts := [], laidByText := true, laidKinds := [.data, .data, .data, .data, .pinned], laidTests := true, laidLooks := .later }
def FnExactTermTextUptoCardSaid : Prop := Claim7.holds Tryz.pinned (.plain (OpenSpec.upto fnExactTermTextSpec)) fnExactTermTextUptoCard

/-- THE SECOND FORM's CARD OF 'laws.FnExactTermParts'. -/
def fnExactTermPartsUptoCard : Claim7 := { stood := { row := fnExactTermPartsUptoRow, standIns := [], harness := (true, "efdab8404cd1b3eaf13ebab4749173e06b34331ed1a9aadfbcedb4646c024741"), looks := false }, kinds := [], alts := [], laidByText := true, laidKinds := [.data, .pinned], laidTests := true, laidLooks := .later }
def FnExactTermPartsUptoCardSaid : Prop := Claim7.holds Tryz.pinned (.plain (OpenSpec.upto fnExactTermPartsSpec)) fnExactTermPartsUptoCard

/-- THE SECOND FORM's CARD OF 'laws.FnExactSameTerms'. -/
def fnExactSameTermsUptoCard : Claim7 := { stood := { row := fnExactSameTermsUptoRow, standIns := [], harness := (true, "efdab8404cd1b3eaf13ebab4749173e06b34331ed1a9aadfbcedb4646c024741"), looks := false }, kinds := [], alts := [], laidByText := true, laidKinds := [.data, .pinned], laidTests := true, laidLooks := .later }
def FnExactSameTermsUptoCardSaid : Prop := Claim7.holds Tryz.pinned (.plain (OpenSpec.upto fnExactSameTermsSpec)) fnExactSameTermsUptoCard

/-- THE SECOND FORM's CARD OF 'laws.FnExactInverseRule'. -/
def fnExactInverseRuleUptoCard : Claim7 := { stood := { row := fnExactInverseRuleUptoRow, standIns := [], harness := (true, "efdab8404cd1b3eaf13ebab4749173e06b34331ed1a9aadfbcedb4646c024741"), looks := false }, kinds := [], alts := [], laidByText := true, laidKinds := [.data, .pinned], laidTests := true, laidLooks := .later }
def FnExactInverseRuleUptoCardSaid : Prop := Claim7.holds Tryz.pinned (.plain (OpenSpec.upto fnExactInverseRuleSpec)) fnExactInverseRuleUptoCard
end Rows
end Go.Proofs.YtidhoicihlnlaaaGreatDoor
