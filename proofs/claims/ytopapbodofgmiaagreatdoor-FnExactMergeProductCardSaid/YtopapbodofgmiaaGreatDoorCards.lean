/-
  DERIVED. GIVEN WITH THE SEED: THE CARDS: each row of YtopapbodofgmiaaGreatDoorRows.lean that lists a variable, with what it lists TIED to the program's text (the seventh form; the later family's looks); each row that meets fmt, with fmt's text TOLD by the authors' own Lean function (tested against real Go, not proved from fmt's source: count such statements apart). THE CARD IS WHAT COUNTS. Prove the row's statement (the work); the ties are given (YtopapbodofgmiaaGreatDoorTie.lean); close each card by the builder's one call (the guide's Derived/Test/ToyasCard.lean, 'card_holds'). Laid BY PROGRAM, IN A SANDBOX (cutbox-door.mjs). By AI agents, Wed Nov 11 2026. No macro, syntax, notation, axiom, sorry.
-/
import Derived.Test.YtopapbodofgmiaaGreatDoorRows
import GoSem.ClaimSeven
namespace Go.Proofs.YtopapbodofgmiaaGreatDoor
namespace Rows

/-- THE TIED CARD OF 'laws.FnExactOpenName'. -/
def fnExactOpenNameCard : Claim7 := { stood := { row := fnExactOpenNameRow, standIns := [], harness := (true, "e094df6f4e35409a47fc0c04e9be7972dbfb23dcd6f6ccae0cbf22f057d73138"), looks := false }, kinds := [], alts := [], laidByText := true, laidKinds := [.data, .pinned], laidTests := true, laidLooks := .later }
def FnExactOpenNameCardSaid : Prop := Claim7.holds Tryz.pinned (.plain (OpenSpec.ofChange fnExactOpenNameSpec)) fnExactOpenNameCard

/-- THE TIED CARD OF 'laws.FnExactComposeBigraphs'. -/
def fnExactComposeBigraphsCard : Claim7 := { stood := { row := fnExactComposeBigraphsRow, standIns := [], harness := (true, "e094df6f4e35409a47fc0c04e9be7972dbfb23dcd6f6ccae0cbf22f057d73138"), looks := false }, kinds := [], alts := [], laidByText := true, laidKinds := [.data, .pinned], laidTests := true, laidLooks := .later }
def FnExactComposeBigraphsCardSaid : Prop := Claim7.holds Tryz.pinned (.plain (OpenSpec.ofChange fnExactComposeBigraphsSpec)) fnExactComposeBigraphsCard

/-- THE TIED CARD OF 'laws.FnExactNestBigraphs'. -/
def fnExactNestBigraphsCard : Claim7 := { stood := { row := fnExactNestBigraphsRow, standIns := [], harness := (true, "e094df6f4e35409a47fc0c04e9be7972dbfb23dcd6f6ccae0cbf22f057d73138"), looks := false }, kinds := [], alts := [], laidByText := true, laidKinds := [.data, .pinned], laidTests := true, laidLooks := .later }
def FnExactNestBigraphsCardSaid : Prop := Claim7.holds Tryz.pinned (.plain (OpenSpec.ofChange fnExactNestBigraphsSpec)) fnExactNestBigraphsCard

/-- THE TIED CARD OF 'laws.FnExactComposeAll'. -/
def fnExactComposeAllCard : Claim7 := { stood := { row := fnExactComposeAllRow, standIns := [], harness := (true, "e094df6f4e35409a47fc0c04e9be7972dbfb23dcd6f6ccae0cbf22f057d73138"), looks := false }, kinds := [], alts := [], laidByText := true, laidKinds := [.data, .pinned], laidTests := true, laidLooks := .later }
def FnExactComposeAllCardSaid : Prop := Claim7.holds Tryz.pinned (.plain (OpenSpec.ofChange fnExactComposeAllSpec)) fnExactComposeAllCard

/-- THE TIED CARD OF 'laws.FnExactParallelProduct'. -/
def fnExactParallelProductCard : Claim7 := { stood := { row := fnExactParallelProductRow, standIns := [], harness := (true, "e094df6f4e35409a47fc0c04e9be7972dbfb23dcd6f6ccae0cbf22f057d73138"), looks := false }, kinds := [], alts := [], laidByText := true, laidKinds := [.data, .pinned], laidTests := true, laidLooks := .later }
def FnExactParallelProductCardSaid : Prop := Claim7.holds Tryz.pinned (.plain (OpenSpec.ofChange fnExactParallelProductSpec)) fnExactParallelProductCard

/-- THE TIED CARD OF 'laws.FnExactJuxtapose'. -/
def fnExactJuxtaposeCard : Claim7 := { stood := { row := fnExactJuxtaposeRow, standIns := [], harness := (true, "e094df6f4e35409a47fc0c04e9be7972dbfb23dcd6f6ccae0cbf22f057d73138"), looks := false }, kinds := [], alts := [], laidByText := true, laidKinds := [.data, .pinned], laidTests := true, laidLooks := .later }
def FnExactJuxtaposeCardSaid : Prop := Claim7.holds Tryz.pinned (.plain (OpenSpec.ofChange fnExactJuxtaposeSpec)) fnExactJuxtaposeCard

/-- THE TIED CARD OF 'laws.FnExactMergeProduct'. -/
def fnExactMergeProductCard : Claim7 := { stood := { row := fnExactMergeProductRow, standIns := [], harness := (true, "e094df6f4e35409a47fc0c04e9be7972dbfb23dcd6f6ccae0cbf22f057d73138"), looks := false }, kinds := [], alts := [], laidByText := true, laidKinds := [.data, .pinned], laidTests := true, laidLooks := .later }
def FnExactMergeProductCardSaid : Prop := Claim7.holds Tryz.pinned (.plain (OpenSpec.ofChange fnExactMergeProductSpec)) fnExactMergeProductCard

/-- THE SECOND FORM's CARD OF 'laws.FnExactOpenName'. -/
def fnExactOpenNameUptoCard : Claim7 := { stood := { row := fnExactOpenNameUptoRow, standIns := [], harness := (true, "e094df6f4e35409a47fc0c04e9be7972dbfb23dcd6f6ccae0cbf22f057d73138"), looks := false }, kinds := [], alts := [], laidByText := true, laidKinds := [.data, .pinned], laidTests := true, laidLooks := .later }
def FnExactOpenNameUptoCardSaid : Prop := Claim7.holds Tryz.pinned (.plain (OpenSpec.upto fnExactOpenNameSpec)) fnExactOpenNameUptoCard

/-- THE SECOND FORM's CARD OF 'laws.FnExactComposeBigraphs'. -/
def fnExactComposeBigraphsUptoCard : Claim7 := { stood := { row := fnExactComposeBigraphsUptoRow, standIns := [], harness := (true, "e094df6f4e35409a47fc0c04e9be7972dbfb23dcd6f6ccae0cbf22f057d73138"), looks := false }, kinds := [], alts := [], laidByText := true, laidKinds := [.data, .pinned], laidTests := true, laidLooks := .later }
def FnExactComposeBigraphsUptoCardSaid : Prop := Claim7.holds Tryz.pinned (.plain (OpenSpec.upto fnExactComposeBigraphsSpec)) fnExactComposeBigraphsUptoCard

/-- THE SECOND FORM's CARD OF 'laws.FnExactNestBigraphs'. -/
def fnExactNestBigraphsUptoCard : Claim7 := { stood := { row := fnExactNestBigraphsUptoRow, standIns := [], harness := (true, "e094df6f4e35409a47fc0c04e9be7972dbfb23dcd6f6ccae0cbf22f057d73138"), looks := false }, kinds := [], alts := [], laidByText := true, laidKinds := [.data, .pinned], laidTests := true, laidLooks := .later }
def FnExactNestBigraphsUptoCardSaid : Prop := Claim7.holds Tryz.pinned (.plain (OpenSpec.upto fnExactNestBigraphsSpec)) fnExactNestBigraphsUptoCard

/-- THE SECOND FORM's CARD OF 'laws.FnExactComposeAll'. -/
def fnExactComposeAllUptoCard : Claim7 := { stood := { row := fnExactComposeAllUptoRow, standIns := [], harness := (true, "e094df6f4e35409a47fc0c04e9be7972dbfb23dcd6f6ccae0cbf22f057d73138"), looks := false }, kinds := [], alts := [], laidByText := true, laidKinds := [.data, .pinned], laidTests := true, laidLooks := .later }
def FnExactComposeAllUptoCardSaid : Prop := Claim7.holds Tryz.pinned (.plain (OpenSpec.upto fnExactComposeAllSpec)) fnExactComposeAllUptoCard

/-- THE SECOND FORM's CARD OF 'laws.FnExactParallelProduct'. -/
def fnExactParallelProductUptoCard : Claim7 := { stood := { row := fnExactParallelProductUptoRow, standIns := [], harness := (true, "e094df6f4e35409a47fc0c04e9be7972dbfb23dcd6f6ccae0cbf22f057d73138"), looks := false }, kinds := [], alts := [], laidByText := true, laidKinds := [.data, .pinned], laidTests := true, laidLooks := .later }
def FnExactParallelProductUptoCardSaid : Prop := Claim7.holds Tryz.pinned (.plain (OpenSpec.upto fnExactParallelProductSpec)) fnExactParallelProductUptoCard

/-- THE SECOND FORM's CARD OF 'laws.FnExactJuxtapose'. -/
def fnExactJuxtaposeUptoCard : Claim7 := { stood := { row := fnExactJuxtaposeUptoRow, standIns := [], harness := (true, "e094df6f4e35409a47fc0c04e9be7972dbfb23dcd6f6ccae0cbf22f057d73138"), looks := false }, kinds := [], alts := [], laidByText := true, laidKinds := [.data, .pinned], laidTests := true, laidLooks := .later }
def FnExactJuxtaposeUptoCardSaid : Prop := Claim7.holds Tryz.pinned (.plain (OpenSpec.upto fnExactJuxtaposeSpec)) fnExactJuxtaposeUptoCard

/-- THE SECOND FORM's CARD OF 'laws.FnExactMergeProduct'. -/
def fnExactMergeProductUptoCard : Claim7 := { stood := { row := fnExactMergeProductUptoRow, standIns := [], harness := (true, "e094df6f4e35409a47fc0c04e9be7972dbfb23dcd6f6ccae0cbf22f057d73138"), looks := false }, kinds := [], alts := [], laidByText := true, laidKinds := [.data, .pinned], laidTests := true, laidLooks := .later }
def FnExactMergeProductUptoCardSaid : Prop := Claim7.holds Tryz.pinned (.plain (OpenSpec.upto fnExactMergeProductSpec)) fnExactMergeProductUptoCard
end Rows
end Go.Proofs.YtopapbodofgmiaaGreatDoor
