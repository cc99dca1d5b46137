/-
  NARROWER THAN 'FOR EVERY INPUT', by the rows' own cells (each row's printed sentence says how): FnExactJoinNames: laid · FnExactOpenName: laid · FnExactCloseName: laid · FnExactComposeBigraphs: laid · FnExactNestBigraphs: laid.
  DERIVED. THE GIVEN ROWS OF THIS SEAT. 5 by the template 'for every input the law returns true; each argument reads behind the call as it read before'; 0 by the template 'total and deterministic' (their statements: YtobmidjooieomaaGreatDoorTotals.lean).
  GIVEN WITH THE SEED: the statements are not yours to turn. If you find one false, say at which input.
  Laid BY PROGRAM, IN A SANDBOX (cutbox-rows.mjs): the forced cells as the released guide's own fill.sh prints them over the translation 50cd9a8c2bed1a1c… (all of the seat's roots in one cut). By AI agents, Wed Nov 11 2026. No macro, syntax, notation, axiom, sorry.
-/
import Derived.Test.YtobmidjooieomaaGreatDoorChecked
import GoSem.PinnedTables
import GoSem.Claim
import GoSem.ClaimJoined
import GoSem.ClaimMapViews
import Derived.JoinedTies
import Derived.KernelRfl
namespace Go.Proofs.YtobmidjooieomaaGreatDoor
/- THE CELL 'sum', in the pinned program and in every row, IS THE sha256 OF THE DUMP (.gsa) THAT YtobmidjooieomaaGreatDoorProg.lean LOADS. Nothing in Lean hashes anything: it is a label: what it is worth is what the hold of that sum in a sandbox is worth. -/
noncomputable def Tryz.pinned : Pinned := { name := "ytobmidjooieomaagreatdoor", sum := "50cd9a8c2bed1a1c04847e8835287222ff161fc3771458252746900fe8a7621c", checked := Tryz.checked }
namespace Rows
def none {H : Type} : Left H := { results := [], args := [] }

/- WHAT THE LISTED PACKAGE-LEVEL VARIABLES READ AS WHEN THE CALL BEGINS. Each datum BY PROGRAM (the guide's laid-datum.mjs) off the statement by which the dump's own 'gosem.cut.vars' lays the variable. In a bare row this is a premise. The card (YtobmidjooieomaaGreatDoorCards.lean) ties it to the program's text. -/
def laid_unicode_utf8_acceptRanges {H : Type} : DataW H := .agg [.agg [.lit (.int .u8 128), .lit (.int .u8 191)], .agg [.lit (.int .u8 160), .lit (.int .u8 191)], .agg [.lit (.int .u8 128), .lit (.int .u8 159)], .agg [.lit (.int .u8 144), .lit (.int .u8 191)], .agg [.lit (.int .u8 128), .lit (.int .u8 143)], .agg [.lit (.int .u8 0), .lit (.int .u8 0)], .agg [.lit (.int .u8 0), .lit (.int .u8 0)], .agg [.lit (.int .u8 0), .lit (.int .u8 0)], .agg [.lit (.int .u8 0), .lit (.int .u8 0)], .agg [.lit (.int .u8 0), .lit (.int .u8 0)], .agg [.lit (.int .u8 0), .lit (.int .u8 0)], .agg [.lit (.int .u8 0), .lit (.int .u8 0)], .agg [.lit (.int .u8 0), .lit (.int .u8 0)], .agg [.lit (.int .u8 0), .lit (.int .u8 0)], .agg [.lit (.int .u8 0), .lit (.int .u8 0)], .agg [.lit (.int .u8 0), .lit (.int .u8 0)]]
/-- One of Go's own tables, pinned by name: the form's constant. -/
def laid_unicode_utf8_first : DataW Unit := Go.Pinned.utf8First

/-- 'laws.FnExactJoinNames': WHATEVER THE INPUT: true; the input reads as it did. -/
def fnExactJoinNamesSpec : ChangeSpec := { name := "fnExactJoinNames", fn := fun _ => fun
  | [d1, d2, d3, d4] => { results := [.lit (.bool true)], args := [d1, d2, d3, d4] }
  | _ => none }
def fnExactJoinNamesRow : OpenClaim := { program := "ytobmidjooieomaagreatdoor", sum := "50cd9a8c2bed1a1c04847e8835287222ff161fc3771458252746900fe8a7621c", func := "loop.example/g01082/laws.FnExactJoinNames", spec := "fnExactJoinNames", inPlace := ["internal/bytealg.IndexByteString", "internal/bytealg.IndexString"], unfollowed := true, recurses := true, named := ["unicode/utf8.first", "unicode/utf8.acceptRanges", "internal/bytealg.MaxLen"], apart := false, laid := [("unicode/utf8.acceptRanges", laid_unicode_utf8_acceptRanges), ("unicode/utf8.first", laid_unicode_utf8_first)] }
def FnExactJoinNamesSaid : Prop := fnExactJoinNamesRow.holds Tryz.pinned (OpenSpec.ofChange fnExactJoinNamesSpec)

/-- ITS FALSE NEIGHBOUR: 'it returns false'. Refute it at one input. -/
def fnExactJoinNamesWrong : ChangeSpec := { name := "fnExactJoinNames", fn := fun _ => fun
  | [d1, d2, d3, d4] => { results := [.lit (.bool false)], args := [d1, d2, d3, d4] }
  | _ => none }
def FnExactJoinNamesWrongFalsely : Prop := fnExactJoinNamesRow.holds Tryz.pinned (OpenSpec.ofChange fnExactJoinNamesWrong)

/-- 'laws.FnExactOpenName': WHATEVER THE INPUT: true; the input reads as it did. -/
def fnExactOpenNameSpec : ChangeSpec := { name := "fnExactOpenName", fn := fun _ => fun
  | [d1, d2, d3, d4] => { results := [.lit (.bool true)], args := [d1, d2, d3, d4] }
  | _ => none }
def fnExactOpenNameRow : OpenClaim := { program := "ytobmidjooieomaagreatdoor", sum := "50cd9a8c2bed1a1c04847e8835287222ff161fc3771458252746900fe8a7621c", func := "loop.example/g01082/laws.FnExactOpenName", spec := "fnExactOpenName", inPlace := ["internal/bytealg.IndexByteString", "internal/bytealg.IndexString"], unfollowed := true, recurses := true, named := ["unicode/utf8.first", "unicode/utf8.acceptRanges", "internal/bytealg.MaxLen"], apart := false, laid := [("unicode/utf8.acceptRanges", laid_unicode_utf8_acceptRanges), ("unicode/utf8.first", laid_unicode_utf8_first)] }
def FnExactOpenNameSaid : Prop := fnExactOpenNameRow.holds Tryz.pinned (OpenSpec.ofChange fnExactOpenNameSpec)

/-- ITS FALSE NEIGHBOUR: 'it returns false'. Refute it at one input. -/
def fnExactOpenNameWrong : ChangeSpec := { name := "fnExactOpenName", fn := fun _ => fun
  | [d1, d2, d3, d4] => { results := [.lit (.bool false)], args := [d1, d2, d3, d4] }
  | _ => none }
def FnExactOpenNameWrongFalsely : Prop := fnExactOpenNameRow.holds Tryz.pinned (OpenSpec.ofChange fnExactOpenNameWrong)

/-- 'laws.FnExactCloseName': WHATEVER THE INPUT: true; the input reads as it did. -/
def fnExactCloseNameSpec : ChangeSpec := { name := "fnExactCloseName", fn := fun _ => fun
  | [d1, d2, d3] => { results := [.lit (.bool true)], args := [d1, d2, d3] }
  | _ => none }
def fnExactCloseNameRow : OpenClaim := { program := "ytobmidjooieomaagreatdoor", sum := "50cd9a8c2bed1a1c04847e8835287222ff161fc3771458252746900fe8a7621c", func := "loop.example/g01082/laws.FnExactCloseName", spec := "fnExactCloseName", inPlace := ["internal/bytealg.IndexByteString", "internal/bytealg.IndexString"], unfollowed := true, recurses := true, named := ["unicode/utf8.first", "unicode/utf8.acceptRanges", "internal/bytealg.MaxLen"], apart := false, laid := [("unicode/utf8.acceptRanges", laid_unicode_utf8_acceptRanges), ("unicode/utf8.first", laid_unicode_utf8_first)] }
def FnExactCloseNameSaid : Prop := fnExactCloseNameRow.holds Tryz.pinned (OpenSpec.ofChange fnExactCloseNameSpec)

/-- ITS FALSE NEIGHBOUR: 'it returns false'. Refute it at one input. -/
def fnExactCloseNameWrong : ChangeSpec := { name := "fnExactCloseName", fn := fun _ => fun
  | [d1, d2, d3] => { results := [.lit (.bool false)], args := [d1, d2, d3] }
  | _ => none }
def FnExactCloseNameWrongFalsely : Prop := fnExactCloseNameRow.holds Tryz.pinned (OpenSpec.ofChange fnExactCloseNameWrong)

/-- 'laws.FnExactComposeBigraphs': WHATEVER THE INPUT: true; the input reads as it did. -/
def fnExactComposeBigraphsSpec : ChangeSpec := { name := "fnExactComposeBigraphs", fn := fun _ => fun
  | [d1, d2, d3] => { results := [.lit (.bool true)], args := [d1, d2, d3] }
  | _ => none }
def fnExactComposeBigraphsRow : OpenClaim := { program := "ytobmidjooieomaagreatdoor", sum := "50cd9a8c2bed1a1c04847e8835287222ff161fc3771458252746900fe8a7621c", func := "loop.example/g01082/laws.FnExactComposeBigraphs", spec := "fnExactComposeBigraphs", inPlace := ["internal/bytealg.IndexByteString", "internal/bytealg.IndexString"], unfollowed := true, recurses := true, named := ["unicode/utf8.first", "unicode/utf8.acceptRanges", "internal/bytealg.MaxLen"], apart := false, laid := [("unicode/utf8.acceptRanges", laid_unicode_utf8_acceptRanges), ("unicode/utf8.first", laid_unicode_utf8_first)] }
def FnExactComposeBigraphsSaid : Prop := fnExactComposeBigraphsRow.holds Tryz.pinned (OpenSpec.ofChange fnExactComposeBigraphsSpec)

/-- ITS FALSE NEIGHBOUR: 'it returns false'. Refute it at one input. -/
def fnExactComposeBigraphsWrong : ChangeSpec := { name := "fnExactComposeBigraphs", fn := fun _ => fun
  | [d1, d2, d3] => { results := [.lit (.bool false)], args := [d1, d2, d3] }
  | _ => none }
def FnExactComposeBigraphsWrongFalsely : Prop := fnExactComposeBigraphsRow.holds Tryz.pinned (OpenSpec.ofChange fnExactComposeBigraphsWrong)

/-- 'laws.FnExactNestBigraphs': WHATEVER THE INPUT: true; the input reads as it did. -/
def fnExactNestBigraphsSpec : ChangeSpec := { name := "fnExactNestBigraphs", fn := fun _ => fun
  | [d1, d2, d3] => { results := [.lit (.bool true)], args := [d1, d2, d3] }
  | _ => none }
def fnExactNestBigraphsRow : OpenClaim := { program := "ytobmidjooieomaagreatdoor", sum := "50cd9a8c2bed1a1c04847e8835287222ff161fc3771458252746900fe8a7621c", func := "loop.example/g01082/laws.FnExactNestBigraphs", spec := "fnExactNestBigraphs", inPlace := ["internal/bytealg.IndexByteString", "internal/bytealg.IndexString"], unfollowed := true, recurses := true, named := ["unicode/utf8.first", "unicode/utf8.acceptRanges", "internal/bytealg.MaxLen"], apart := false, laid := [("unicode/utf8.acceptRanges", laid_unicode_utf8_acceptRanges), ("unicode/utf8.first", laid_unicode_utf8_first)] }
def FnExactNestBigraphsSaid : Prop := fnExactNestBigraphsRow.holds Tryz.pinned (OpenSpec.ofChange fnExactNestBigraphsSpec)

/-- ITS FALSE NEIGHBOUR: 'it returns false'. Refute it at one input. -/
def fnExactNestBigraphsWrong : ChangeSpec := { name := "fnExactNestBigraphs", fn := fun _ => fun
  | [d1, d2, d3] => { results := [.lit (.bool false)], args := [d1, d2, d3] }
  | _ => none }
def FnExactNestBigraphsWrongFalsely : Prop := fnExactNestBigraphsRow.holds Tryz.pinned (OpenSpec.ofChange fnExactNestBigraphsWrong)

/- THE SECOND FORM. 'bulk': how many values and letters a reading holds, each counted each time it is reached (what is shared counts as often as it is met; a slice's spare places count too). A statement '..UptoSaid' is the law's where the arguments, and the package variables that the reading takes, are together of bulk at most 1048576: NARROWER than '..Said'. Prove '..Said' where nothing that the law and all that it calls make is longer than what came in: it says more and counts as full. Else prove '..UptoSaid'. A law counts once. -/
mutual
def uptoBulk {H : Type} : DataW H → Nat
  | .lit (.string bytes) => bytes.length + 1
  | .lit _ => 1
  | .nil => 1
  | .ptr d => uptoBulk d + 1
  | .slice elems spare => uptoBulkAll elems + uptoBulkAll spare + 1
  | .agg parts => uptoBulkAll parts + 1
  | .iface _ d => uptoBulk d + 1
  | .map entries => uptoBulkEntries entries + 1
  | .held _ => 1
def uptoBulkAll {H : Type} : List (DataW H) → Nat
  | [] => 0
  | d :: r => uptoBulk d + uptoBulkAll r
def uptoBulkEntries {H : Type} : List (Lit × DataW H) → Nat
  | [] => 0
  | x :: r => uptoBulkEntry x + uptoBulkEntries r
def uptoBulkEntry {H : Type} : Lit × DataW H → Nat
  | (.string bytes, d) => bytes.length + uptoBulk d + 1
  | (_, d) => uptoBulk d + 1
 end
def uptoSmall : (H : Type) → List (DataW H) → Bool := fun _ ds => decide (uptoBulkAll ds ≤ 1048576)
def OpenSpec.upto (s : _root_.Go.ChangeSpec) : _root_.Go.OpenSpec := { _root_.Go.OpenSpec.ofChange s with cond := some uptoSmall }

/-- 'laws.FnExactJoinNames', WHERE WHAT IT READS IS OF BULK AT MOST 1048576: true; the input reads as it did. -/
def fnExactJoinNamesUptoRow : OpenClaim := { program := "ytobmidjooieomaagreatdoor", sum := "50cd9a8c2bed1a1c04847e8835287222ff161fc3771458252746900fe8a7621c", func := "loop.example/g01082/laws.FnExactJoinNames", spec := "fnExactJoinNames", inPlace := ["internal/bytealg.IndexByteString", "internal/bytealg.IndexString"], unfollowed := true, recurses := true, named := ["unicode/utf8.first", "unicode/utf8.acceptRanges", "internal/bytealg.MaxLen"], apart := false, laid := [("unicode/utf8.acceptRanges", laid_unicode_utf8_acceptRanges), ("unicode/utf8.first", laid_unicode_utf8_first)], narrowed := true }
def FnExactJoinNamesUptoSaid : Prop := fnExactJoinNamesUptoRow.holds Tryz.pinned (OpenSpec.upto fnExactJoinNamesSpec)

/-- 'laws.FnExactOpenName', WHERE WHAT IT READS IS OF BULK AT MOST 1048576: true; the input reads as it did. -/
def fnExactOpenNameUptoRow : OpenClaim := { program := "ytobmidjooieomaagreatdoor", sum := "50cd9a8c2bed1a1c04847e8835287222ff161fc3771458252746900fe8a7621c", func := "loop.example/g01082/laws.FnExactOpenName", spec := "fnExactOpenName", inPlace := ["internal/bytealg.IndexByteString", "internal/bytealg.IndexString"], unfollowed := true, recurses := true, named := ["unicode/utf8.first", "unicode/utf8.acceptRanges", "internal/bytealg.MaxLen"], apart := false, laid := [("unicode/utf8.acceptRanges", laid_unicode_utf8_acceptRanges), ("unicode/utf8.first", laid_unicode_utf8_first)], narrowed := true }
def FnExactOpenNameUptoSaid : Prop := fnExactOpenNameUptoRow.holds Tryz.pinned (OpenSpec.upto fnExactOpenNameSpec)

/-- 'laws.FnExactCloseName', WHERE WHAT IT READS IS OF BULK AT MOST 1048576: true; the input reads as it did. -/
def fnExactCloseNameUptoRow : OpenClaim := { program := "ytobmidjooieomaagreatdoor", sum := "50cd9a8c2bed1a1c04847e8835287222ff161fc3771458252746900fe8a7621c", func := "loop.example/g01082/laws.FnExactCloseName", spec := "fnExactCloseName", inPlace := ["internal/bytealg.IndexByteString", "internal/bytealg.IndexString"], unfollowed := true, recurses := true, named := ["unicode/utf8.first", "unicode/utf8.acceptRanges", "internal/bytealg.MaxLen"], apart := false, laid := [("unicode/utf8.acceptRanges", laid_unicode_utf8_acceptRanges), ("unicode/utf8.first", laid_unicode_utf8_first)], narrowed := true }
def FnExactCloseNameUptoSaid : Prop := fnExactCloseNameUptoRow.holds Tryz.pinned (OpenSpec.upto fnExactCloseNameSpec)

/-- 'laws.FnExactComposeBigraphs', WHERE WHAT IT READS IS OF BULK AT MOST 1048576: true; the input reads as it did. -/
def fnExactComposeBigraphsUptoRow : OpenClaim := { program := "ytobmidjooieomaagreatdoor", sum := "50cd9a8c2bed1a1c04847e8835287222ff161fc3771458252746900fe8a7621c", func := "loop.example/g01082/laws.FnExactComposeBigraphs", spec := "fnExactComposeBigraphs", inPlace := ["internal/bytealg.IndexByteString", "internal/bytealg.IndexString"], unfollowed := true, recurses := true, named := ["unicode/utf8.first", "unicode/utf8.acceptRanges", "internal/bytealg.MaxLen"], apart := false, laid := [("unicode/utf8.acceptRanges", laid_unicode_utf8_acceptRanges), ("unicode/utf8.first", laid_unicode_utf8_first)], narrowed := true }
def FnExactComposeBigraphsUptoSaid : Prop := fnExactComposeBigraphsUptoRow.holds Tryz.pinned (OpenSpec.upto fnExactComposeBigraphsSpec)

/-- 'laws.FnExactNestBigraphs', WHERE WHAT IT READS IS OF BULK AT MOST 1048576: true; the input reads as it did. -/
def fnExactNestBigraphsUptoRow : OpenClaim := { program := "ytobmidjooieomaagreatdoor", sum := "50cd9a8c2bed1a1c04847e8835287222ff161fc3771458252746900fe8a7621c", func := "loop.example/g01082/laws.FnExactNestBigraphs", spec := "fnExactNestBigraphs", inPlace := ["internal/bytealg.IndexByteString", "internal/bytealg.IndexString"], unfollowed := true, recurses := true, named := ["unicode/utf8.first", "unicode/utf8.acceptRanges", "internal/bytealg.MaxLen"], apart := false, laid := [("unicode/utf8.acceptRanges", laid_unicode_utf8_acceptRanges), ("unicode/utf8.first", laid_unicode_utf8_first)], narrowed := true }
def FnExactNestBigraphsUptoSaid : Prop := fnExactNestBigraphsUptoRow.holds Tryz.pinned (OpenSpec.upto fnExactNestBigraphsSpec)

end Rows
end Go.Proofs.YtobmidjooieomaaGreatDoor
