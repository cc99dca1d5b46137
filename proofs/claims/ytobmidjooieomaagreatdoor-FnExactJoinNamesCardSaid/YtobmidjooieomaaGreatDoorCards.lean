/-
  DERIVED. GIVEN WITH THE SEED: THE CARDS: each row of YtobmidjooieomaaGreatDoorRows.lean that lists a variable, with what it lists TIED to the program's text (the seventh form; the later family's looks); each row that meets fmt, with fmt's text TOLD by the authors' own Lean function (tested against real Go, not proved from fmt's source: count such statements apart). THE CARD IS WHAT COUNTS. Prove the row's statement (the work); the ties are given (YtobmidjooieomaaGreatDoorTie.lean); close each card by the builder's one call (the guide's Derived/Test/ToyasCard.lean, 'card_holds'). Laid BY PROGRAM, IN A SANDBOX (cutbox-door.mjs). By AI agents, Wed Nov 11 2026. No macro, syntax, notation, axiom, sorry.
-/
import Derived.Test.YtobmidjooieomaaGreatDoorRows
import GoSem.ClaimSeven
namespace Go.Proofs.YtobmidjooieomaaGreatDoor
namespace Rows

/-- THE TIED CARD OF 'laws.FnExactJoinNames'. -/
def fnExactJoinNamesCard : Claim7 := { stood := { row := fnExactJoinNamesRow, standIns := [], harness := (true, "0307124e9cdcd7721705c8b2ec0b81ea919ee5a0359593bc2acaf00afdf9ce98"), looks := false }, kinds := [], alts := [], laidByText := true, laidKinds := [.data, .pinned], laidTests := true, laidLooks := .later }
def FnExactJoinNamesCardSaid : Prop := Claim7.holds Tryz.pinned (.plain (OpenSpec.ofChange fnExactJoinNamesSpec)) fnExactJoinNamesCard

/-- THE TIED CARD OF 'laws.FnExactOpenName'. -/
def fnExactOpenNameCard : Claim7 := { stood := { row := fnExactOpenNameRow, standIns := [], harness := (true, "0307124e9cdcd7721705c8b2ec0b81ea919ee5a0359593bc2acaf00afdf9ce98"), looks := false }, kinds := [], alts := [], laidByText := true, laidKinds := [.data, .pinned], laidTests := true, laidLooks := .later }
def FnExactOpenNameCardSaid : Prop := Claim7.holds Tryz.pinned (.plain (OpenSpec.ofChange fnExactOpenNameSpec)) fnExactOpenNameCard

/-- THE TIED CARD OF 'laws.FnExactCloseName'. -/
def fnExactCloseNameCard : Claim7 := { stood := { row := fnExactCloseNameRow, standIns := [], harness := (true, "0307124e9cdcd7721705c8b2ec0b81ea919ee5a0359593bc2acaf00afdf9ce98"), looks := false }, kinds := [], alts := [], laidByText := true, laidKinds := [.data, .pinned], laidTests := true, laidLooks := .later }
def FnExactCloseNameCardSaid : Prop := Claim7.holds Tryz.pinned (.plain (OpenSpec.ofChange fnExactCloseNameSpec)) fnExactCloseNameCard

/-- THE TIED CARD OF 'laws.FnExactComposeBigraphs'. -/
def fnExactComposeBigraphsCard : Claim7 := { stood := { row := fnExactComposeBigraphsRow, standIns := [], harness := (true, "0307124e9cdcd7721705c8b2ec0b81ea919ee5a0359593bc2acaf00afdf9ce98"), looks := false }, kinds := [], alts := [], laidByText := true, laidKinds := [.data, .pinned], laidTests := true, laidLooks := .later }
def FnExactComposeBigraphsCardSaid : Prop := Claim7.holds Tryz.pinned (.plain (OpenSpec.ofChange fnExactComposeBigraphsSpec)) fnExactComposeBigraphsCard

/-- THE TIED CARD OF 'laws.FnExactNestBigraphs'. -/
def fnExactNestBigraphsCard : Claim7 := { stood := { row := fnExactNestBigraphsRow, standIns := [], harness := (true, "0307124e9cdcd7721705c8b2ec0b81ea919ee5a0359593bc2acaf00afdf9ce98"), looks := false }, kinds := [], alts := [], laidByText := true, laidKinds := [.data, .pinned], laidTests := true, laidLooks := .later }
def FnExactNestBigraphsCardSaid : Prop := Claim7.holds Tryz.pinned (.plain (OpenSpec.ofChange fnExactNestBigraphsSpec)) fnExactNestBigraphsCard

/-- THE SECOND FORM's CARD OF 'laws.FnExactJoinNames'. -/
def fnExactJoinNamesUptoCard : Claim7 := { stood := { row := fnExactJoinNamesUptoRow, standIns := [], harness := (true, "0307124e9cdcd7721705c8b2ec0b81ea919ee5a0359593bc2acaf00afdf9ce98"), looks := false }, kinds := [], alts := [], laidByText := true, laidKinds := [.data, .pinned], laidTests := true, laidLooks := .later }
def FnExactJoinNamesUptoCardSaid : Prop := Claim7.holds Tryz.pinned (.plain (OpenSpec.upto fnExactJoinNamesSpec)) fnExactJoinNamesUptoCard

/-- THE SECOND FORM's CARD OF 'laws.FnExactOpenName'. -/
def fnExactOpenNameUptoCard : Claim7 := { stood := { row := fnExactOpenNameUptoRow, standIns := [], harness := (true, "0307124e9cdcd7721705c8b2ec0b81ea919ee5a0359593bc2acaf00afdf9ce98"), looks := false }, kinds := [], alts := [], laidByText := true, laidKinds := [.data, .pinned], laidTests := true, laidLooks := .later }
def FnExactOpenNameUptoCardSaid : Prop := Claim7.holds Tryz.pinned (.plain (OpenSpec.upto fnExactOpenNameSpec)) fnExactOpenNameUptoCard

/-- THE SECOND FORM's CARD OF 'laws.FnExactCloseName'. -/
def fnExactCloseNameUptoCard : Claim7 := { stood := { row := fnExactCloseNameUptoRow, standIns := [], harness := (true, "0307124e9cdcd7721705c8b2ec0b81ea919ee5a0359593bc2acaf00afdf9ce98"), looks := false }, kinds := [], alts := [], laidByText := true, laidKinds := [.data, .pinned], laidTests := true, laidLooks := .later }
def FnExactCloseNameUptoCardSaid : Prop := Claim7.holds Tryz.pinned (.plain (OpenSpec.upto fnExactCloseNameSpec)) fnExactCloseNameUptoCard

/-- THE SECOND FORM's CARD OF 'laws.FnExactComposeBigraphs'. -/
def fnExactComposeBigraphsUptoCard : Claim7 := { stood := { row := fnExactComposeBigraphsUptoRow, standIns := [], harness := (true, "0307124e9cdcd7721705c8b2ec0b81ea919ee5a0359593bc2acaf00afdf9ce98"), looks := false }, kinds := [], alts := [], laidByText := true, laidKinds := [.data, .pinned], laidTests := true, laidLooks := .later }
def FnExactComposeBigraphsUptoCardSaid : Prop := Claim7.holds Tryz.pinned (.plain (OpenSpec.upto fnExactComposeBigraphsSpec)) fnExactComposeBigraphsUptoCard

/-- THE SECOND FORM's CARD OF 'laws.FnExactNestBigraphs'. -/
def fnExactNestBigraphsUptoCard : Claim7 := { stood := { row := fnExactNestBigraphsUptoRow, standIns := [], harness := (true, "0307124e9cdcd7721705c8b2ec0b81ea919ee5a0359593bc2acaf00afdf9ce98"), looks := false }, kinds := [], alts := [], laidByText := true, laidKinds := [.data, .pinned], laidTests := true, laidLooks := .later }
def FnExactNestBigraphsUptoCardSaid : Prop := Claim7.holds Tryz.pinned (.plain (OpenSpec.upto fnExactNestBigraphsSpec)) fnExactNestBigraphsUptoCard
end Rows
end Go.Proofs.YtobmidjooieomaaGreatDoor
