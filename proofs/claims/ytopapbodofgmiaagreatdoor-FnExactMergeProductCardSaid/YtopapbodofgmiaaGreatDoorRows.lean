/-
  NARROWER THAN 'FOR EVERY INPUT', by the rows' own cells (each row's printed sentence says how): FnExactOpenName: laid · FnExactComposeBigraphs: laid · FnExactNestBigraphs: laid · FnExactComposeAll: laid · FnExactParallelProduct: laid · FnExactJuxtapose: laid · FnExactMergeProduct: laid.
  DERIVED. THE GIVEN ROWS OF THIS SEAT. 7 by the template 'for every input the law returns true; each argument reads behind the call as it read before'; 0 by the template 'total and deterministic' (their statements: YtopapbodofgmiaaGreatDoorTotals.lean).
  GIVEN WITH THE SEED: the statements are not yours to turn. If you find one false, say at which input.
  Laid BY PROGRAM, IN A SANDBOX (cutbox-rows.mjs): the forced cells as the released guide's own fill.sh prints them over the translation b7e8532b8d31ce1f… (all of the seat's roots in one cut). By AI agents, Wed Nov 11 2026. No macro, syntax, notation, axiom, sorry.
-/
import Derived.Test.YtopapbodofgmiaaGreatDoorChecked
import GoSem.PinnedTables
import GoSem.Claim
import GoSem.ClaimJoined
import GoSem.ClaimMapViews
import Derived.JoinedTies
import Derived.KernelRfl
namespace Go.Proofs.YtopapbodofgmiaaGreatDoor
/- THE CELL 'sum', in the pinned program and in every row, IS THE sha256 OF THE DUMP (.gsa) THAT YtopapbodofgmiaaGreatDoorProg.lean LOADS. Nothing in Lean hashes anything: it is a label: what it is worth is what the hold of that sum in a sandbox is worth. -/
noncomputable def Tryz.pinned : Pinned := { name := "ytopapbodofgmiaagreatdoor", sum := "b7e8532b8d31ce1f4907ae3f26b6f8b3d8d00187cc1ecd4cc7f3348d2de609d0", checked := Tryz.checked }
namespace Rows
def none {H : Type} : Left H := { results := [], args := [] }

/- WHAT THE LISTED PACKAGE-LEVEL VARIABLES READ AS WHEN THE CALL BEGINS. Each datum BY PROGRAM (the guide's laid-datum.mjs) off the statement by which the dump's own 'gosem.cut.vars' lays the variable. In a bare row this is a premise. The card (YtopapbodofgmiaaGreatDoorCards.lean) ties it to the program's text. -/
def laid_unicode_utf8_acceptRanges {H : Type} : DataW H := .agg [.agg [.lit (.int .u8 128), .lit (.int .u8 191)], .agg [.lit (.int .u8 160), .lit (.int .u8 191)], .agg [.lit (.int .u8 128), .lit (.int .u8 159)], .agg [.lit (.int .u8 144), .lit (.int .u8 191)], .agg [.lit (.int .u8 128), .lit (.int .u8 143)], .agg [.lit (.int .u8 0), .lit (.int .u8 0)], .agg [.lit (.int .u8 0), .lit (.int .u8 0)], .agg [.lit (.int .u8 0), .lit (.int .u8 0)], .agg [.lit (.int .u8 0), .lit (.int .u8 0)], .agg [.lit (.int .u8 0), .lit (.int .u8 0)], .agg [.lit (.int .u8 0), .lit (.int .u8 0)], .agg [.lit (.int .u8 0), .lit (.int .u8 0)], .agg [.lit (.int .u8 0), .lit (.int .u8 0)], .agg [.lit (.int .u8 0), .lit (.int .u8 0)], .agg [.lit (.int .u8 0), .lit (.int .u8 0)], .agg [.lit (.int .u8 0), .lit (.int .u8 0)]]
/-- One of Go's own tables, pinned by name: the form's constant. -/
def laid_unicode_utf8_first : DataW Unit := Go.Pinned.utf8First

/-- 'laws.FnExactOpenName': WHATEVER THE INPUT: true; the input reads as it did. -/
def fnExactOpenNameSpec : ChangeSpec := { name := "fnExactOpenName", fn := fun _ => fun
  | [d1, d2, d3, d4] => { results := [.lit (.bool true)], args := [d1, d2, d3, d4] }
  | _ => none }
def fnExactOpenNameRow : OpenClaim := { program := "ytopapbodofgmiaagreatdoor", sum := "b7e8532b8d31ce1f4907ae3f26b6f8b3d8d00187cc1ecd4cc7f3348d2de609d0", func := "loop.example/g01082/laws.FnExactOpenName", spec := "fnExactOpenName", inPlace := ["internal/bytealg.IndexByteString", "internal/bytealg.IndexString"], unfollowed := true, recurses := true, named := ["unicode/utf8.first", "unicode/utf8.acceptRanges", "internal/bytealg.MaxLen"], apart := false, laid := [("unicode/utf8.acceptRanges", laid_unicode_utf8_acceptRanges), ("unicode/utf8.first", laid_unicode_utf8_first)] }
def FnExactOpenNameSaid : Prop := fnExactOpenNameRow.holds Tryz.pinned (OpenSpec.ofChange fnExactOpenNameSpec)

/-- ITS FALSE NEIGHBOUR: 'it returns false'. Refute it at one input. -/
def fnExactOpenNameWrong : ChangeSpec := { name := "fnExactOpenName", fn := fun _ => fun
  | [d1, d2, d3, d4] => { results := [.lit (.bool false)], args := [d1, d2, d3, d4] }
  | _ => none }
def FnExactOpenNameWrongFalsely : Prop := fnExactOpenNameRow.holds Tryz.pinned (OpenSpec.ofChange fnExactOpenNameWrong)

/-- 'laws.FnExactComposeBigraphs': WHATEVER THE INPUT: true; the input reads as it did. -/
def fnExactComposeBigraphsSpec : ChangeSpec := { name := "fnExactComposeBigraphs", fn := fun _ => fun
  | [d1, d2, d3] => { results := [.lit (.bool true)], args := [d1, d2, d3] }
  | _ => none }
def fnExactComposeBigraphsRow : OpenClaim := { program := "ytopapbodofgmiaagreatdoor", sum := "b7e8532b8d31ce1f4907ae3f26b6f8b3d8d00187cc1ecd4cc7f3348d2de609d0", func := "loop.example/g01082/laws.FnExactComposeBigraphs", spec := "fnExactComposeBigraphs", inPlace := ["internal/bytealg.IndexByteString", "internal/bytealg.IndexString"], unfollowed := true, recurses := true, named := ["unicode/utf8.first", "unicode/utf8.acceptRanges", "internal/bytealg.MaxLen"], apart := false, laid := [("unicode/utf8.acceptRanges", laid_unicode_utf8_acceptRanges), ("unicode/utf8.first", laid_unicode_utf8_first)] }
def FnExactComposeBigraphsSaid : Prop := fnExactComposeBigraphsRow.holds Tryz.pinned (OpenSpec.ofChange fnExactComposeBigraphsSpec)

/-- ITS FALSE NEIGHBOUR: 'it returns false'. Refute it at one input. -/
def fnExactComposeBigraphsWrong : ChangeSpec := { name := "fnExactComposeBigraphs", fn := fun _ => fun
  | [d1, d2, d3] => { results := [.lit (.bool false)], args := [d1, d2, d3] }
  | _ => none }
def FnExactComposeBigraphsWrongFalsely : Prop := fnExactComposeBigraphsRow.holds Tryz.pinned (OpenSpec.ofChange fnExactComposeBigraphsWrong)

/-- 'laws.FnExactNestBigraphs': WHATEVER THE INPUT: true; the input reads as it did. -/
def fnExactNestBigraphsSpec : ChangeSpec := { name := "fnExactNestBigraphs", fn := fun _ => fun
  | [d1, d2, d3] => { results := [.lit (.bool true)], args := [d1, d2, d3] }
  | _ => none }
def fnExactNestBigraphsRow : OpenClaim := { program := "ytopapbodofgmiaagreatdoor", sum := "b7e8532b8d31ce1f4907ae3f26b6f8b3d8d00187cc1ecd4cc7f3348d2de609d0", func := "loop.example/g01082/laws.FnExactNestBigraphs", spec := "fnExactNestBigraphs", inPlace := ["internal/bytealg.IndexByteString", "internal/bytealg.IndexString"], unfollowed := true, recurses := true, named := ["unicode/utf8.first", "unicode/utf8.acceptRanges", "internal/bytealg.MaxLen"], apart := false, laid := [("unicode/utf8.acceptRanges", laid_unicode_utf8_acceptRanges), ("unicode/utf8.first", laid_unicode_utf8_first)] }
def FnExactNestBigraphsSaid : Prop := fnExactNestBigraphsRow.holds Tryz.pinned (OpenSpec.ofChange fnExactNestBigraphsSpec)

/-- ITS FALSE NEIGHBOUR: 'it returns false'. Refute it at one input. -/
def fnExactNestBigraphsWrong : ChangeSpec := { name := "fnExactNestBigraphs", fn := fun _ => fun
  | [d1, d2, d3] => { results := [.lit (.bool false)], args := [d1, d2, d3] }
  | _ => none }
def FnExactNestBigraphsWrongFalsely : Prop := fnExactNestBigraphsRow.holds Tryz.pinned (OpenSpec.ofChange fnExactNestBigraphsWrong)

/-- 'laws.FnExactComposeAll': WHATEVER THE INPUT: true; the input reads as it did. -/
def fnExactComposeAllSpec : ChangeSpec := { name := "fnExactComposeAll", fn := fun _ => fun
  | [d1, d2] => { results := [.lit (.bool true)], args := [d1, d2] }
  | _ => none }
def fnExactComposeAllRow : OpenClaim := { program := "ytopapbodofgmiaagreatdoor", sum := "b7e8532b8d31ce1f4907ae3f26b6f8b3d8d00187cc1ecd4cc7f3348d2de609d0", func := "loop.example/g01082/laws.FnExactComposeAll", spec := "fnExactComposeAll", inPlace := ["internal/bytealg.IndexByteString", "internal/bytealg.IndexString"], unfollowed := true, recurses := true, named := ["unicode/utf8.first", "unicode/utf8.acceptRanges", "internal/bytealg.MaxLen"], apart := false, laid := [("unicode/utf8.acceptRanges", laid_unicode_utf8_acceptRanges), ("unicode/utf8.first", laid_unicode_utf8_first)] }
def FnExactComposeAllSaid : Prop := fnExactComposeAllRow.holds Tryz.pinned (OpenSpec.ofChange fnExactComposeAllSpec)

/-- ITS FALSE NEIGHBOUR: 'it returns false'. Refute it at one input. -/
def fnExactComposeAllWrong : ChangeSpec := { name := "fnExactComposeAll", fn := fun _ => fun
  | [d1, d2] => { results := [.lit (.bool false)], args := [d1, d2] }
  | _ => none }
def FnExactComposeAllWrongFalsely : Prop := fnExactComposeAllRow.holds Tryz.pinned (OpenSpec.ofChange fnExactComposeAllWrong)

/-- 'laws.FnExactParallelProduct': WHATEVER THE INPUT: true; the input reads as it did. -/
def fnExactParallelProductSpec : ChangeSpec := { name := "fnExactParallelProduct", fn := fun _ => fun
  | [d1, d2, d3] => { results := [.lit (.bool true)], args := [d1, d2, d3] }
  | _ => none }
def fnExactParallelProductRow : OpenClaim := { program := "ytopapbodofgmiaagreatdoor", sum := "b7e8532b8d31ce1f4907ae3f26b6f8b3d8d00187cc1ecd4cc7f3348d2de609d0", func := "loop.example/g01082/laws.FnExactParallelProduct", spec := "fnExactParallelProduct", inPlace := ["internal/bytealg.IndexByteString", "internal/bytealg.IndexString"], unfollowed := true, recurses := true, named := ["unicode/utf8.first", "unicode/utf8.acceptRanges", "internal/bytealg.MaxLen"], apart := false, laid := [("unicode/utf8.acceptRanges", laid_unicode_utf8_acceptRanges), ("unicode/utf8.first", laid_unicode_utf8_first)] }
def FnExactParallelProductSaid : Prop := fnExactParallelProductRow.holds Tryz.pinned (OpenSpec.ofChange fnExactParallelProductSpec)

/-- ITS FALSE NEIGHBOUR: 'it returns false'. Refute it at one input. -/
def fnExactParallelProductWrong : ChangeSpec := { name := "fnExactParallelProduct", fn := fun _ => fun
  | [d1, d2, d3] => { results := [.lit (.bool false)], args := [d1, d2, d3] }
  | _ => none }
def FnExactParallelProductWrongFalsely : Prop := fnExactParallelProductRow.holds Tryz.pinned (OpenSpec.ofChange fnExactParallelProductWrong)

/-- 'laws.FnExactJuxtapose': WHATEVER THE INPUT: true; the input reads as it did. -/
def fnExactJuxtaposeSpec : ChangeSpec := { name := "fnExactJuxtapose", fn := fun _ => fun
  | [d1, d2, d3] => { results := [.lit (.bool true)], args := [d1, d2, d3] }
  | _ => none }
def fnExactJuxtaposeRow : OpenClaim := { program := "ytopapbodofgmiaagreatdoor", sum := "b7e8532b8d31ce1f4907ae3f26b6f8b3d8d00187cc1ecd4cc7f3348d2de609d0", func := "loop.example/g01082/laws.FnExactJuxtapose", spec := "fnExactJuxtapose", inPlace := ["internal/bytealg.IndexByteString", "internal/bytealg.IndexString"], unfollowed := true, recurses := true, named := ["unicode/utf8.first", "unicode/utf8.acceptRanges", "internal/bytealg.MaxLen"], apart := false, laid := [("unicode/utf8.acceptRanges", laid_unicode_utf8_acceptRanges), ("unicode/utf8.first", laid_unicode_utf8_first)] }
def FnExactJuxtaposeSaid : Prop := fnExactJuxtaposeRow.holds Tryz.pinned (OpenSpec.ofChange fnExactJuxtaposeSpec)

/-- ITS FALSE NEIGHBOUR: 'it returns false'. Refute it at one input. -/
def fnExactJuxtaposeWrong : ChangeSpec := { name := "fnExactJuxtapose", fn := fun _ => fun
  | [d1, d2, d3] => { results := [.lit (.bool false)], args := [d1, d2, d3] }
  | _ => none }
def FnExactJuxtaposeWrongFalsely : Prop := fnExactJuxtaposeRow.holds Tryz.pinned (OpenSpec.ofChange fnExactJuxtaposeWrong)

/-- 'laws.FnExactMergeProduct': WHATEVER THE INPUT: true; the input reads as it did. -/
def fnExactMergeProductSpec : ChangeSpec := { name := "fnExactMergeProduct", fn := fun _ => fun
  | [d1, d2, d3] => { results := [.lit (.bool true)], args := [d1, d2, d3] }
  | _ => none }
def fnExactMergeProductRow : OpenClaim := { program := "ytopapbodofgmiaagreatdoor", sum := "b7e8532b8d31ce1f4907ae3f26b6f8b3d8d00187cc1ecd4cc7f3348d2de609d0", func := "loop.example/g01082/laws.FnExactMergeProduct", spec := "fnExactMergeProduct", inPlace := ["internal/bytealg.IndexByteString", "internal/bytealg.IndexString"], unfollowed := true, recurses := true, named := ["unicode/utf8.first", "unicode/utf8.acceptRanges", "internal/bytealg.MaxLen"], apart := false, laid := [("unicode/utf8.acceptRanges", laid_unicode_utf8_acceptRanges), ("unicode/utf8.first", laid_unicode_utf8_first)] }
def FnExactMergeProductSaid : Prop := fnExactMergeProductRow.holds Tryz.pinned (OpenSpec.ofChange fnExactMergeProductSpec)

/-- ITS FALSE NEIGHBOUR: 'it returns false'. Refute it at one input. -/
def fnExactMergeProductWrong : ChangeSpec := { name := "fnExactMergeProduct", fn := fun _ => fun
  | [d1, d2, d3] => { results := [.lit (.bool false)], args := [d1, d2, d3] }
  | _ => none }
def FnExactMergeProductWrongFalsely : Prop := fnExactMergeProductRow.holds Tryz.pinned (OpenSpec.ofChange fnExactMergeProductWrong)

/- THE SECOND FORM. 'bulk': how many values and letters a reading holds, each counted each time it is reached (what is shared counts as often as it is met; a slice's spare places count too). A statement '..UptoSaid' is the law's where the arguments, and the package variables that the reading takes, are together of bulk at most 1048576: NARROWER than '..Said'. Prove '..Said' where nothing that the law and all that it calls make is longer than what came in: it says more and counts as full. Else prove '..UptoSaid'. A law counts once. -/
mutual
def uptoBulk {H : Type} : DataW H → Nat
  | .lit (.string bytes) => bytes.length + 1
  | .lit _ => 1
  | .nil => 1
  | .ptr d => uptoBulk d + 1
  | .slice elems spare => uptoBulkAll elems + uptoBulkAll spare + 1
  | .agg parts => uptoBulkAll parts + 1
  | .iface _ d => uptoBulk d + 1
  | .map entries => uptoBulkEntries entries + 1
  | .held _ => 1
def uptoBulkAll {H : Type} : List (DataW H) → Nat
  | [] => 0
  | d :: r => uptoBulk d + uptoBulkAll r
def uptoBulkEntries {H : Type} : List (Lit × DataW H) → Nat
  | [] => 0
  | x :: r => uptoBulkEntry x + uptoBulkEntries r
def uptoBulkEntry {H : Type} : Lit × DataW H → Nat
  | (.string bytes, d) => bytes.length + uptoBulk d + 1
  | (_, d) => uptoBulk d + 1
 end
def uptoSmall : (H : Type) → List (DataW H) → Bool := fun _ ds => decide (uptoBulkAll ds ≤ 1048576)
def OpenSpec.upto (s : _root_.Go.ChangeSpec) : _root_.Go.OpenSpec := { _root_.Go.OpenSpec.ofChange s with cond := some uptoSmall }

/-- 'laws.FnExactOpenName', WHERE WHAT IT READS IS OF BULK AT MOST 1048576: true; the input reads as it did. -/
def fnExactOpenNameUptoRow : OpenClaim := { program := "ytopapbodofgmiaagreatdoor", sum := "b7e8532b8d31ce1f4907ae3f26b6f8b3d8d00187cc1ecd4cc7f3348d2de609d0", func := "loop.example/g01082/laws.FnExactOpenName", spec := "fnExactOpenName", inPlace := ["internal/bytealg.IndexByteString", "internal/bytealg.IndexString"], unfollowed := true, recurses := true, named := ["unicode/utf8.first", "unicode/utf8.acceptRanges", "internal/bytealg.MaxLen"], apart := false, laid := [("unicode/utf8.acceptRanges", laid_unicode_utf8_acceptRanges), ("unicode/utf8.first", laid_unicode_utf8_first)], narrowed := true }
def FnExactOpenNameUptoSaid : Prop := fnExactOpenNameUptoRow.holds Tryz.pinned (OpenSpec.upto fnExactOpenNameSpec)

/-- 'laws.FnExactComposeBigraphs', WHERE WHAT IT READS IS OF BULK AT MOST 1048576: true; the input reads as it did. -/
def fnExactComposeBigraphsUptoRow : OpenClaim := { program := "ytopapbodofgmiaagreatdoor", sum := "b7e8532b8d31ce1f4907ae3f26b6f8b3d8d00187cc1ecd4cc7f3348d2de609d0", func := "loop.example/g01082/laws.FnExactComposeBigraphs", spec := "fnExactComposeBigraphs", inPlace := ["internal/bytealg.IndexByteString", "internal/bytealg.IndexString"], unfollowed := true, recurses := true, named := ["unicode/utf8.first", "unicode/utf8.acceptRanges", "internal/bytealg.MaxLen"], apart := false, laid := [("unicode/utf8.acceptRanges", laid_unicode_utf8_acceptRanges), ("unicode/utf8.first", laid_unicode_utf8_first)], narrowed := true }
def FnExactComposeBigraphsUptoSaid : Prop := fnExactComposeBigraphsUptoRow.holds Tryz.pinned (OpenSpec.upto fnExactComposeBigraphsSpec)

/-- 'laws.FnExactNestBigraphs', WHERE WHAT IT READS IS OF BULK AT MOST 1048576: true; the input reads as it did. -/
def fnExactNestBigraphsUptoRow : OpenClaim := { program := "ytopapbodofgmiaagreatdoor", sum := "b7e8532b8d31ce1f4907ae3f26b6f8b3d8d00187cc1ecd4cc7f3348d2de609d0", func := "loop.example/g01082/laws.FnExactNestBigraphs", spec := "fnExactNestBigraphs", inPlace := ["internal/bytealg.IndexByteString", "internal/bytealg.IndexString"], unfollowed := true, recurses := true, named := ["unicode/utf8.first", "unicode/utf8.acceptRanges", "internal/bytealg.MaxLen"], apart := false, laid := [("unicode/utf8.acceptRanges", laid_unicode_utf8_acceptRanges), ("unicode/utf8.first", laid_unicode_utf8_first)], narrowed := true }
def FnExactNestBigraphsUptoSaid : Prop := fnExactNestBigraphsUptoRow.holds Tryz.pinned (OpenSpec.upto fnExactNestBigraphsSpec)

/-- 'laws.FnExactComposeAll', WHERE WHAT IT READS IS OF BULK AT MOST 1048576: true; the input reads as it did. -/
def fnExactComposeAllUptoRow : OpenClaim := { program := "ytopapbodofgmiaagreatdoor", sum := "b7e8532b8d31ce1f4907ae3f26b6f8b3d8d00187cc1ecd4cc7f3348d2de609d0", func := "loop.example/g01082/laws.FnExactComposeAll", spec := "fnExactComposeAll", inPlace := ["internal/bytealg.IndexByteString", "internal/bytealg.IndexString"], unfollowed := true, recurses := true, named := ["unicode/utf8.first", "unicode/utf8.acceptRanges", "internal/bytealg.MaxLen"], apart := false, laid := [("unicode/utf8.acceptRanges", laid_unicode_utf8_acceptRanges), ("unicode/utf8.first", laid_unicode_utf8_first)], narrowed := true }
def FnExactComposeAllUptoSaid : Prop := fnExactComposeAllUptoRow.holds Tryz.pinned (OpenSpec.upto fnExactComposeAllSpec)

/-- 'laws.FnExactParallelProduct', WHERE WHAT IT READS IS OF BULK AT MOST 1048576: true; the input reads as it did. -/
def fnExactParallelProductUptoRow : OpenClaim := { program := "ytopapbodofgmiaagreatdoor", sum := "b7e8532b8d31ce1f4907ae3f26b6f8b3d8d00187cc1ecd4cc7f3348d2de609d0", func := "loop.example/g01082/laws.FnExactParallelProduct", spec := "fnExactParallelProduct", inPlace := ["internal/bytealg.IndexByteString", "internal/bytealg.IndexString"], unfollowed := true, recurses := true, named := ["unicode/utf8.first", "unicode/utf8.acceptRanges", "internal/bytealg.MaxLen"], apart := false, laid := [("unicode/utf8.acceptRanges", laid_unicode_utf8_acceptRanges), ("unicode/utf8.first", laid_unicode_utf8_first)], narrowed := true }
def FnExactParallelProductUptoSaid : Prop := fnExactParallelProductUptoRow.holds Tryz.pinned (OpenSpec.upto fnExactParallelProductSpec)

/-- 'laws.FnExactJuxtapose', WHERE WHAT IT READS IS OF BULK AT MOST 1048576: true; the input reads as it did. -/
def fnExactJuxtaposeUptoRow : OpenClaim := { program := "ytopapbodofgmiaagreatdoor", sum := "b7e8532b8d31ce1f4907ae3f26b6f8b3d8d00187cc1ecd4cc7f3348d2de609d0", func := "loop.example/g01082/laws.FnExactJuxtapose", spec := "fnExactJuxtapose", inPlace := ["internal/bytealg.IndexByteString", "internal/bytealg.IndexString"], unfollowed := true, recurses := true, named := ["unicode/utf8.first", "unicode/utf8.acceptRanges", "internal/bytealg.MaxLen"], apart := false, laid := [("unicode/utf8.acceptRanges", laid_unicode_utf8_acceptRanges), ("unicode/utf8.first", laid_unicode_utf8_first)], narrowed := true }
def FnExactJuxtaposeUptoSaid : Prop := fnExactJuxtaposeUptoRow.holds Tryz.pinned (OpenSpec.upto fnExactJuxtaposeSpec)

/-- 'laws.FnExactMergeProduct', WHERE WHAT IT READS IS OF BULK AT MOST 1048576: true; the input reads as it did. -/
def fnExactMergeProductUptoRow : OpenClaim := { program := "ytopapbodofgmiaagreatdoor", sum := "b7e8532b8d31ce1f4907ae3f26b6f8b3d8d00187cc1ecd4cc7f3348d2de609d0", func := "loop.example/g01082/laws.FnExactMergeProduct", spec := "fnExactMergeProduct", inPlace := ["internal/bytealg.IndexByteString", "internal/bytealg.IndexString"], unfollowed := true, recurses := true, named := ["unicode/utf8.first", "unicode/utf8.acceptRanges", "internal/bytealg.MaxLen"], apart := false, laid := [("unicode/utf8.acceptRanges", laid_unicode_utf8_acceptRanges), ("unicode/utf8.first", laid_unicode_utf8_first)], narrowed := true }
def FnExactMergeProductUptoSaid : Prop := fnExactMergeProductUptoRow.holds Tryz.pinned (OpenSpec.upto fnExactMergeProductSpec)

end Rows
end Go.Proofs.YtopapbodofgmiaaGreatDoor
