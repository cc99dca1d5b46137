/-
  NARROWER THAN 'FOR EVERY INPUT', by the rows' own cells (each row's printed sentence says how): FnExactIsGuardedRule: laid · FnExactChoicesIn: laid · FnExactSortsOn: laid · FnExactIsSorted: laid · FnExactIsSortedInside: laid · FnExactFitsSorted: laid · FnExactFaultsOf: laid.
  DERIVED. THE GIVEN ROWS OF THIS SEAT. 7 by the template 'for every input the law returns true; each argument reads behind the call as it read before'; 0 by the template 'total and deterministic' (their statements: YtafkbnlacihocaaGreatDoorTotals.lean).
  GIVEN WITH THE SEED: the statements are not yours to turn. If you find one false, say at which input.
  Laid BY PROGRAM, IN A SANDBOX (cutbox-rows.mjs): the forced cells as the released guide's own fill.sh prints them over the translation 29f42bae1935d815… (all of the seat's roots in one cut). By AI agents, Wed Nov 11 2026. No macro, syntax, notation, axiom, sorry.
-/
import Derived.Test.YtafkbnlacihocaaGreatDoorChecked
import GoSem.PinnedTables
import GoSem.Claim
import GoSem.ClaimJoined
import GoSem.ClaimMapViews
import Derived.JoinedTies
import Derived.KernelRfl
namespace Go.Proofs.YtafkbnlacihocaaGreatDoor
/- THE CELL 'sum', in the pinned program and in every row, IS THE sha256 OF THE DUMP (.gsa) THAT YtafkbnlacihocaaGreatDoorProg.lean LOADS. Nothing in Lean hashes anything: it is a label: what it is worth is what the hold of that sum in a sandbox is worth. -/
noncomputable def Tryz.pinned : Pinned := { name := "ytafkbnlacihocaagreatdoor", sum := "29f42bae1935d815a8d53aba16dd38cd49b36a3428442f4d80e30ba65f58251d", checked := Tryz.checked }
namespace Rows
def none {H : Type} : Left H := { results := [], args := [] }

/- WHAT THE LISTED PACKAGE-LEVEL VARIABLES READ AS WHEN THE CALL BEGINS. Each datum BY PROGRAM (the guide's laid-datum.mjs) off the statement by which the dump's own 'gosem.cut.vars' lays the variable. In a bare row this is a premise. The card (YtafkbnlacihocaaGreatDoorCards.lean) ties it to the program's text. -/
def laid_unicode_utf8_acceptRanges {H : Type} : DataW H := .agg [.agg [.lit (.int .u8 128), .lit (.int .u8 191)], .agg [.lit (.int .u8 160), .lit (.int .u8 191)], .agg [.lit (.int .u8 128), .lit (.int .u8 159)], .agg [.lit (.int .u8 144), .lit (.int .u8 191)], .agg [.lit (.int .u8 128), .lit (.int .u8 143)], .agg [.lit (.int .u8 0), .lit (.int .u8 0)], .agg [.lit (.int .u8 0), .lit (.int .u8 0)], .agg [.lit (.int .u8 0), .lit (.int .u8 0)], .agg [.lit (.int .u8 0), .lit (.int .u8 0)], .agg [.lit (.int .u8 0), .lit (.int .u8 0)], .agg [.lit (.int .u8 0), .lit (.int .u8 0)], .agg [.lit (.int .u8 0), .lit (.int .u8 0)], .agg [.lit (.int .u8 0), .lit (.int .u8 0)], .agg [.lit (.int .u8 0), .lit (.int .u8 0)], .agg [.lit (.int .u8 0), .lit (.int .u8 0)], .agg [.lit (.int .u8 0), .lit (.int .u8 0)]]
/-- One of Go's own tables, pinned by name: the form's constant. -/
def laid_unicode_utf8_first : DataW Unit := Go.Pinned.utf8First

/-- 'laws.FnExactIsGuardedRule': WHATEVER THE INPUT: true; the input reads as it did. -/
def fnExactIsGuardedRuleSpec : ChangeSpec := { name := "fnExactIsGuardedRule", fn := fun _ => fun
  | [d1, d2] => { results := [.lit (.bool true)], args := [d1, d2] }
  | _ => none }
def fnExactIsGuardedRuleRow : OpenClaim := { program := "ytafkbnlacihocaagreatdoor", sum := "29f42bae1935d815a8d53aba16dd38cd49b36a3428442f4d80e30ba65f58251d", func := "loop.example/g01082/laws.FnExactIsGuardedRule", spec := "fnExactIsGuardedRule", inPlace := ["internal/bytealg.IndexByteString", "internal/bytealg.IndexString"], unfollowed := true, recurses := true, named := ["unicode/utf8.first", "unicode/utf8.acceptRanges", "internal/bytealg.MaxLen"], apart := false, laid := [("unicode/utf8.acceptRanges", laid_unicode_utf8_acceptRanges), ("unicode/utf8.first", laid_unicode_utf8_first)] }
def FnExactIsGuardedRuleSaid : Prop := fnExactIsGuardedRuleRow.holds Tryz.pinned (OpenSpec.ofChange fnExactIsGuardedRuleSpec)

/-- ITS FALSE NEIGHBOUR: 'it returns false'. Refute it at one input. -/
def fnExactIsGuardedRuleWrong : ChangeSpec := { name := "fnExactIsGuardedRule", fn := fun _ => fun
  | [d1, d2] => { results := [.lit (.bool false)], args := [d1, d2] }
  | _ => none }
def FnExactIsGuardedRuleWrongFalsely : Prop := fnExactIsGuardedRuleRow.holds Tryz.pinned (OpenSpec.ofChange fnExactIsGuardedRuleWrong)

/-- 'laws.FnExactChoicesIn': WHATEVER THE INPUT: true; the input reads as it did. -/
def fnExactChoicesInSpec : ChangeSpec := { name := "fnExactChoicesIn", fn := fun _ => fun
  | [d1, d2, d3, d4] => { results := [.lit (.bool true)], args := [d1, d2, d3, d4] }
  | _ => none }
def fnExactChoicesInRow : OpenClaim := { program := "ytafkbnlacihocaagreatdoor", sum := "29f42bae1935d815a8d53aba16dd38cd49b36a3428442f4d80e30ba65f58251d", func := "loop.example/g01082/laws.FnExactChoicesIn", spec := "fnExactChoicesIn", inPlace := ["internal/bytealg.IndexByteString", "internal/bytealg.IndexString"], unfollowed := true, recurses := true, named := ["unicode/utf8.first", "unicode/utf8.acceptRanges", "internal/bytealg.MaxLen"], apart := false, laid := [("unicode/utf8.acceptRanges", laid_unicode_utf8_acceptRanges), ("unicode/utf8.first", laid_unicode_utf8_first)] }
def FnExactChoicesInSaid : Prop := fnExactChoicesInRow.holds Tryz.pinned (OpenSpec.ofChange fnExactChoicesInSpec)

/-- ITS FALSE NEIGHBOUR: 'it returns false'. Refute it at one input. -/
def fnExactChoicesInWrong : ChangeSpec := { name := "fnExactChoicesIn", fn := fun _ => fun
  | [d1, d2, d3, d4] => { results := [.lit (.bool false)], args := [d1, d2, d3, d4] }
  | _ => none }
def FnExactChoicesInWrongFalsely : Prop := fnExactChoicesInRow.holds Tryz.pinned (OpenSpec.ofChange fnExactChoicesInWrong)

/-- 'laws.FnExactSortsOn': WHATEVER THE INPUT: true; the input reads as it did. -/
def fnExactSortsOnSpec : ChangeSpec := { name := "fnExactSortsOn", fn := fun _ => fun
  | [d1, d2, d3, d4] => { results := [.lit (.bool true)], args := [d1, d2, d3, d4] }
  | _ => none }
def fnExactSortsOnRow : OpenClaim := { program := "ytafkbnlacihocaagreatdoor", sum := "29f42bae1935d815a8d53aba16dd38cd49b36a3428442f4d80e30ba65f58251d", func := "loop.example/g01082/laws.FnExactSortsOn", spec := "fnExactSortsOn", inPlace := ["internal/bytealg.IndexByteString", "internal/bytealg.IndexString"], unfollowed := true, recurses := true, named := ["unicode/utf8.first", "unicode/utf8.acceptRanges", "internal/bytealg.MaxLen"], apart := false, laid := [("unicode/utf8.acceptRanges", laid_unicode_utf8_acceptRanges), ("unicode/utf8.first", laid_unicode_utf8_first)] }
def FnExactSortsOnSaid : Prop := fnExactSortsOnRow.holds Tryz.pinned (OpenSpec.ofChange fnExactSortsOnSpec)

/-- ITS FALSE NEIGHBOUR: 'it returns false'. Refute it at one input. -/
def fnExactSortsOnWrong : ChangeSpec := { name := "fnExactSortsOn", fn := fun _ => fun
  | [d1, d2, d3, d4] => { results := [.lit (.bool false)], args := [d1, d2, d3, d4] }
  | _ => none }
def FnExactSortsOnWrongFalsely : Prop := fnExactSortsOnRow.holds Tryz.pinned (OpenSpec.ofChange fnExactSortsOnWrong)

/-- 'laws.FnExactIsSorted': WHATEVER THE INPUT: true; the input reads as it did. -/
def fnExactIsSortedSpec : ChangeSpec := { name := "fnExactIsSorted", fn := fun _ => fun
  | [d1, d2, d3] => { results := [.lit (.bool true)], args := [d1, d2, d3] }
  | _ => none }
def fnExactIsSortedRow : OpenClaim := { program := "ytafkbnlacihocaagreatdoor", sum := "29f42bae1935d815a8d53aba16dd38cd49b36a3428442f4d80e30ba65f58251d", func := "loop.example/g01082/laws.FnExactIsSorted", spec := "fnExactIsSorted", inPlace := ["internal/bytealg.IndexByteString", "internal/bytealg.IndexString"], unfollowed := true, recurses := true, named := ["unicode/utf8.first", "unicode/utf8.acceptRanges", "internal/bytealg.MaxLen"], apart := false, laid := [("unicode/utf8.acceptRanges", laid_unicode_utf8_acceptRanges), ("unicode/utf8.first", laid_unicode_utf8_first)] }
def FnExactIsSortedSaid : Prop := fnExactIsSortedRow.holds Tryz.pinned (OpenSpec.ofChange fnExactIsSortedSpec)

/-- ITS FALSE NEIGHBOUR: 'it returns false'. Refute it at one input. -/
def fnExactIsSortedWrong : ChangeSpec := { name := "fnExactIsSorted", fn := fun _ => fun
  | [d1, d2, d3] => { results := [.lit (.bool false)], args := [d1, d2, d3] }
  | _ => none }
def FnExactIsSortedWrongFalsely : Prop := fnExactIsSortedRow.holds Tryz.pinned (OpenSpec.ofChange fnExactIsSortedWrong)

/-- 'laws.FnExactIsSortedInside': WHATEVER THE INPUT: true; the input reads as it did. -/
def fnExactIsSortedInsideSpec : ChangeSpec := { name := "fnExactIsSortedInside", fn := fun _ => fun
  | [d1, d2, d3] => { results := [.lit (.bool true)], args := [d1, d2, d3] }
  | _ => none }
def fnExactIsSortedInsideRow : OpenClaim := { program := "ytafkbnlacihocaagreatdoor", sum := "29f42bae1935d815a8d53aba16dd38cd49b36a3428442f4d80e30ba65f58251d", func := "loop.example/g01082/laws.FnExactIsSortedInside", spec := "fnExactIsSortedInside", inPlace := ["internal/bytealg.IndexByteString", "internal/bytealg.IndexString"], unfollowed := true, recurses := true, named := ["unicode/utf8.first", "unicode/utf8.acceptRanges", "internal/bytealg.MaxLen"], apart := false, laid := [("unicode/utf8.acceptRanges", laid_unicode_utf8_acceptRanges), ("unicode/utf8.first", laid_unicode_utf8_first)] }
def FnExactIsSortedInsideSaid : Prop := fnExactIsSortedInsideRow.holds Tryz.pinned (OpenSpec.ofChange fnExactIsSortedInsideSpec)

/-- ITS FALSE NEIGHBOUR: 'it returns false'. Refute it at one input. -/
def fnExactIsSortedInsideWrong : ChangeSpec := { name := "fnExactIsSortedInside", fn := fun _ => fun
  | [d1, d2, d3] => { results := [.lit (.bool false)], args := [d1, d2, d3] }
  | _ => none }
def FnExactIsSortedInsideWrongFalsely : Prop := fnExactIsSortedInsideRow.holds Tryz.pinned (OpenSpec.ofChange fnExactIsSortedInsideWrong)

/-- 'laws.FnExactFitsSorted': WHATEVER THE INPUT: true; the input reads as it did. -/
def fnExactFitsSortedSpec : ChangeSpec := { name := "fnExactFitsSorted", fn := fun _ => fun
  | [d1, d2, d3, d4] => { results := [.lit (.bool true)], args := [d1, d2, d3, d4] }
  | _ => none }
def fnExactFitsSortedRow : OpenClaim := { program := "ytafkbnlacihocaagreatdoor", sum := "29f42bae1935d815a8d53aba16dd38cd49b36a3428442f4d80e30ba65f58251d", func := "loop.example/g01082/laws.FnExactFitsSorted", spec := "fnExactFitsSorted", inPlace := ["internal/bytealg.IndexByteString", "internal/bytealg.IndexString"], unfollowed := true, recurses := true, named := ["unicode/utf8.first", "unicode/utf8.acceptRanges", "internal/bytealg.MaxLen"], apart := false, laid := [("unicode/utf8.acceptRanges", laid_unicode_utf8_acceptRanges), ("unicode/utf8.first", laid_unicode_utf8_first)] }
def FnExactFitsSortedSaid : Prop := fnExactFitsSortedRow.holds Tryz.pinned (OpenSpec.ofChange fnExactFitsSortedSpec)

/-- ITS FALSE NEIGHBOUR: 'it returns false'. Refute it at one input. -/
def fnExactFitsSortedWrong : ChangeSpec := { name := "fnExactFitsSorted", fn := fun _ => fun
  | [d1, d2, d3, d4] => { results := [.lit (.bool false)], args := [d1, d2, d3, d4] }
  | _ => none }
def FnExactFitsSortedWrongFalsely : Prop := fnExactFitsSortedRow.holds Tryz.pinned (OpenSpec.ofChange fnExactFitsSortedWrong)

/-- 'laws.FnExactFaultsOf': WHATEVER THE INPUT: true; the input reads as it did. -/
def fnExactFaultsOfSpec : ChangeSpec := { name := "fnExactFaultsOf", fn := fun _ => fun
  | [d1, d2, d3] => { results := [.lit (.bool true)], args := [d1, d2, d3] }
  | _ => none }
def fnExactFaultsOfRow : OpenClaim := { program := "ytafkbnlacihocaagreatdoor", sum := "29f42bae1935d815a8d53aba16dd38cd49b36a3428442f4d80e30ba65f58251d", func := "loop.example/g01082/laws.FnExactFaultsOf", spec := "fnExactFaultsOf", inPlace := ["internal/bytealg.IndexByteString", "internal/bytealg.IndexString"], unfollowed := true, recurses := true, named := ["unicode/utf8.first", "unicode/utf8.acceptRanges", "internal/bytealg.MaxLen"], apart := false, laid := [("unicode/utf8.acceptRanges", laid_unicode_utf8_acceptRanges), ("unicode/utf8.first", laid_unicode_utf8_first)] }
def FnExactFaultsOfSaid : Prop := fnExactFaultsOfRow.holds Tryz.pinned (OpenSpec.ofChange fnExactFaultsOfSpec)

/-- ITS FALSE NEIGHBOUR: 'it returns false'. Refute it at one input. -/
def fnExactFaultsOfWrong : ChangeSpec := { name := "fnExactFaultsOf", fn := fun _ => fun
  | [d1, d2, d3] => { results := [.lit (.bool false)], args := [d1, d2, d3] }
  | _ => none }
def FnExactFaultsOfWrongFalsely : Prop := fnExactFaultsOfRow.holds Tryz.pinned (OpenSpec.ofChange fnExactFaultsOfWrong)

/- THE SECOND FORM. 'bulk': how many values and letters a reading holds, each counted each time it is reached (what is shared counts as often as it is met; a slice's spare places count too). A statement '..UptoSaid' is the law's where the arguments, and the package variables that the reading takes, are together of bulk at most 1048576: NARROWER than '..Said'. Prove '..Said' where nothing that the law and all that it calls make is longer than what came in: it says more and counts as full. Else prove '..UptoSaid'. A law counts once. -/
mutual
def uptoBulk {H : Type} : DataW H → Nat
  | .lit (.string bytes) => bytes.length + 1
  | .lit _ => 1
  | .nil => 1
  | .ptr d => uptoBulk d + 1
  | .slice elems spare => uptoBulkAll elems + uptoBulkAll spare + 1
  | .agg parts => uptoBulkAll parts + 1
  | .iface _ d => uptoBulk d + 1
  | .map entries => uptoBulkEntries entries + 1
  | .held _ => 1
def uptoBulkAll {H : Type} : List (DataW H) → Nat
  | [] => 0
  | d :: r => uptoBulk d + uptoBulkAll r
def uptoBulkEntries {H : Type} : List (Lit × DataW H) → Nat
  | [] => 0
  | x :: r => uptoBulkEntry x + uptoBulkEntries r
def uptoBulkEntry {H : Type} : Lit × DataW H → Nat
  | (.string bytes, d) => bytes.length + uptoBulk d + 1
  | (_, d) => uptoBulk d + 1
 end
def uptoSmall : (H : Type) → List (DataW H) → Bool := fun _ ds => decide (uptoBulkAll ds ≤ 1048576)
def OpenSpec.upto (s : _root_.Go.ChangeSpec) : _root_.Go.OpenSpec := { _root_.Go.OpenSpec.ofChange s with cond := some uptoSmall }

/-- 'laws.FnExactIsGuardedRule', WHERE WHAT IT READS IS OF BULK AT MOST 1048576: true; the input reads as it did. -/
def fnExactIsGuardedRuleUptoRow : OpenClaim := { program := "ytafkbnlacihocaagreatdoor", sum := "29f42bae1935d815a8d53aba16dd38cd49b36a3428442f4d80e30ba65f58251d", func := "loop.example/g01082/laws.FnExactIsGuardedRule", spec := "fnExactIsGuardedRule", inPlace := ["internal/bytealg.IndexByteString", "internal/bytealg.IndexString"], unfollowed := true, recurses := true, named := ["unicode/utf8.first", "unicode/utf8.acceptRanges", "internal/bytealg.MaxLen"], apart := false, laid := [("unicode/utf8.acceptRanges", laid_unicode_utf8_acceptRanges), ("unicode/utf8.first", laid_unicode_utf8_first)], narrowed := true }
def FnExactIsGuardedRuleUptoSaid : Prop := fnExactIsGuardedRuleUptoRow.holds Tryz.pinned (OpenSpec.upto fnExactIsGuardedRuleSpec)

/-- 'laws.FnExactChoicesIn', WHERE WHAT IT READS IS OF BULK AT MOST 1048576: true; the input reads as it did. -/
def fnExactChoicesInUptoRow : OpenClaim := { program := "ytafkbnlacihocaagreatdoor", sum := "29f42bae1935d815a8d53aba16dd38cd49b36a3428442f4d80e30ba65f58251d", func := "loop.example/g01082/laws.FnExactChoicesIn", spec := "fnExactChoicesIn", inPlace := ["internal/bytealg.IndexByteString", "internal/bytealg.IndexString"], unfollowed := true, recurses := true, named := ["unicode/utf8.first", "unicode/utf8.acceptRanges", "internal/bytealg.MaxLen"], apart := false, laid := [("unicode/utf8.acceptRanges", laid_unicode_utf8_acceptRanges), ("unicode/utf8.first", laid_unicode_utf8_first)], narrowed := true }
def FnExactChoicesInUptoSaid : Prop := fnExactChoicesInUptoRow.holds Tryz.pinned (OpenSpec.upto fnExactChoicesInSpec)

/-- 'laws.FnExactSortsOn', WHERE WHAT IT READS IS OF BULK AT MOST 1048576: true; the input reads as it did. -/
def fnExactSortsOnUptoRow : OpenClaim := { program := "ytafkbnlacihocaagreatdoor", sum := "29f42bae1935d815a8d53aba16dd38cd49b36a3428442f4d80e30ba65f58251d", func := "loop.example/g01082/laws.FnExactSortsOn", spec := "fnExactSortsOn", inPlace := ["internal/bytealg.IndexByteString", "internal/bytealg.IndexString"], unfollowed := true, recurses := true, named := ["unicode/utf8.first", "unicode/utf8.acceptRanges", "internal/bytealg.MaxLen"], apart := false, laid := [("unicode/utf8.acceptRanges", laid_unicode_utf8_acceptRanges), ("unicode/utf8.first", laid_unicode_utf8_first)], narrowed := true }
def FnExactSortsOnUptoSaid : Prop := fnExactSortsOnUptoRow.holds Tryz.pinned (OpenSpec.upto fnExactSortsOnSpec)

/-- 'laws.FnExactIsSorted', WHERE WHAT IT READS IS OF BULK AT MOST 1048576: true; the input reads as it did. -/
def fnExactIsSortedUptoRow : OpenClaim := { program := "ytafkbnlacihocaagreatdoor", sum := "29f42bae1935d815a8d53aba16dd38cd49b36a3428442f4d80e30ba65f58251d", func := "loop.example/g01082/laws.FnExactIsSorted", spec := "fnExactIsSorted", inPlace := ["internal/bytealg.IndexByteString", "internal/bytealg.IndexString"], unfollowed := true, recurses := true, named := ["unicode/utf8.first", "unicode/utf8.acceptRanges", "internal/bytealg.MaxLen"], apart := false, laid := [("unicode/utf8.acceptRanges", laid_unicode_utf8_acceptRanges), ("unicode/utf8.first", laid_unicode_utf8_first)], narrowed := true }
def FnExactIsSortedUptoSaid : Prop := fnExactIsSortedUptoRow.holds Tryz.pinned (OpenSpec.upto fnExactIsSortedSpec)

/-- 'laws.FnExactIsSortedInside', WHERE WHAT IT READS IS OF BULK AT MOST 1048576: true; the input reads as it did. -/
def fnExactIsSortedInsideUptoRow : OpenClaim := { program := "ytafkbnlacihocaagreatdoor", sum := "29f42bae1935d815a8d53aba16dd38cd49b36a3428442f4d80e30ba65f58251d", func := "loop.example/g01082/laws.FnExactIsSortedInside", spec := "fnExactIsSortedInside", inPlace := ["internal/bytealg.IndexByteString", "internal/bytealg.IndexString"], unfollowed := true, recurses := true, named := ["unicode/utf8.first", "unicode/utf8.acceptRanges", "internal/bytealg.MaxLen"], apart := false, laid := [("unicode/utf8.acceptRanges", laid_unicode_utf8_acceptRanges), ("unicode/utf8.first", laid_unicode_utf8_first)], narrowed := true }
def FnExactIsSortedInsideUptoSaid : Prop := fnExactIsSortedInsideUptoRow.holds Tryz.pinned (OpenSpec.upto fnExactIsSortedInsideSpec)

/-- 'laws.FnExactFitsSorted', WHERE WHAT IT READS IS OF BULK AT MOST 1048576: true; the input reads as it did. -/
def fnExactFitsSortedUptoRow : OpenClaim := { program := "ytafkbnlacihocaagreatdoor", sum := "29f42bae1935d815a8d53aba16dd38cd49b36a3428442f4d80e30ba65f58251d", func := "loop.example/g01082/laws.FnExactFitsSorted", spec := "fnExactFitsSorted", inPlace := ["internal/bytealg.IndexByteString", "internal/bytealg.IndexString"], unfollowed := true, recurses := true, named := ["unicode/utf8.first", "unicode/utf8.acceptRanges", "internal/bytealg.MaxLen"], apart := false, laid := [("unicode/utf8.acceptRanges", laid_unicode_utf8_acceptRanges), ("unicode/utf8.first", laid_unicode_utf8_first)], narrowed := true }
def FnExactFitsSortedUptoSaid : Prop := fnExactFitsSortedUptoRow.holds Tryz.pinned (OpenSpec.upto fnExactFitsSortedSpec)

/-- 'laws.FnExactFaultsOf', WHERE WHAT IT READS IS OF BULK AT MOST 1048576: true; the input reads as it did. -/
def fnExactFaultsOfUptoRow : OpenClaim := { program := "ytafkbnlacihocaagreatdoor", sum := "29f42bae1935d815a8d53aba16dd38cd49b36a3428442f4d80e30ba65f58251d", func := "loop.example/g01082/laws.FnExactFaultsOf", spec := "fnExactFaultsOf", inPlace := ["internal/bytealg.IndexByteString", "internal/bytealg.IndexString"], unfollowed := true, recurses := true, named := ["unicode/utf8.first", "unicode/utf8.acceptRanges", "internal/bytealg.MaxLen"], apart := false, laid := [("unicode/utf8.acceptRanges", laid_unicode_utf8_acceptRanges), ("unicode/utf8.first", laid_unicode_utf8_first)], narrowed := true }
def FnExactFaultsOfUptoSaid : Prop := fnExactFaultsOfUptoRow.holds Tryz.pinned (OpenSpec.upto fnExactFaultsOfSpec)

end Rows
end Go.Proofs.YtafkbnlacihocaaGreatDoor
