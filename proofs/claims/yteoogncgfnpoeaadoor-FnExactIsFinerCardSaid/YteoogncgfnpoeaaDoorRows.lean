/-
  NARROWER THAN 'FOR EVERY INPUT', by the rows' own cells (each row's printed sentence says how): FnExactFreeSorting: laid · FnExactIsSorting: laid · FnExactIsFiner: laid.
  DERIVED. THE GIVEN ROWS OF THIS SEAT. 3 by the template 'for every input the law returns true; each argument reads behind the call as it read before'; 0 by the template 'total and deterministic' (their statements: YteoogncgfnpoeaaDoorTotals.lean).
  GIVEN WITH THE SEED: the statements are not yours to turn. If you find one false, say at which input.
  Laid BY PROGRAM, IN A SANDBOX (cutbox-rows.mjs): the forced cells as the released guide's own fill.sh prints them over the translation 485b4bce99ff6f1e… (all of the seat's roots in one cut). By AI agents, Wed Nov 11 2026. No macro, syntax, notation, axiom, sorry.
-/
import Derived.Test.YteoogncgfnpoeaaDoorChecked
import GoSem.PinnedTables
import GoSem.Claim
import GoSem.ClaimJoined
import GoSem.ClaimMapViews
import Derived.JoinedTies
import Derived.KernelRfl
namespace Go.Proofs.YteoogncgfnpoeaaDoor
/- THE CELL 'sum', in the pinned program and in every row, IS THE sha256 OF THE DUMP (.gsa) THAT YteoogncgfnpoeaaDoorProg.lean LOADS. Nothing in Lean hashes anything: it is a label: what it is worth is what the hold of that sum in a sandbox is worth. -/
noncomputable def Tryd.pinned : Pinned := { name := "yteoogncgfnpoeaadoor", sum := "485b4bce99ff6f1e98c2ad22a6bb47b1092fc53e1a23423fbe4232af6f6eb8e8", checked := Tryd.checked }
namespace Rows
def none {H : Type} : Left H := { results := [], args := [] }

/- WHAT THE LISTED PACKAGE-LEVEL VARIABLES READ AS WHEN THE CALL BEGINS. Each datum BY PROGRAM (the guide's laid-datum.mjs) off the statement by which the dump's own 'gosem.cut.vars' lays the variable. In a bare row this is a premise. The card (YteoogncgfnpoeaaDoorCards.lean) ties it to the program's text. -/
def laid_unicode_utf8_acceptRanges {H : Type} : DataW H := .agg [.agg [.lit (.int .u8 128), .lit (.int .u8 191)], .agg [.lit (.int .u8 160), .lit (.int .u8 191)], .agg [.lit (.int .u8 128), .lit (.int .u8 159)], .agg [.lit (.int .u8 144), .lit (.int .u8 191)], .agg [.lit (.int .u8 128), .lit (.int .u8 143)], .agg [.lit (.int .u8 0), .lit (.int .u8 0)], .agg [.lit (.int .u8 0), .lit (.int .u8 0)], .agg [.lit (.int .u8 0), .lit (.int .u8 0)], .agg [.lit (.int .u8 0), .lit (.int .u8 0)], .agg [.lit (.int .u8 0), .lit (.int .u8 0)], .agg [.lit (.int .u8 0), .lit (.int .u8 0)], .agg [.lit (.int .u8 0), .lit (.int .u8 0)], .agg [.lit (.int .u8 0), .lit (.int .u8 0)], .agg [.lit (.int .u8 0), .lit (.int .u8 0)], .agg [.lit (.int .u8 0), .lit (.int .u8 0)], .agg [.lit (.int .u8 0), .lit (.int .u8 0)]]
/-- One of Go's own tables, pinned by name: the form's constant. -/
def laid_unicode_utf8_first : DataW Unit := Go.Pinned.utf8First

/-- 'laws.FnExactFreeSorting': WHATEVER THE INPUT: true; the input reads as it did. -/
def fnExactFreeSortingSpec : ChangeSpec := { name := "fnExactFreeSorting", fn := fun _ => fun
  | [d] => { results := [.lit (.bool true)], args := [d] }
  | _ => none }
def fnExactFreeSortingRow : OpenClaim := { program := "yteoogncgfnpoeaadoor", sum := "485b4bce99ff6f1e98c2ad22a6bb47b1092fc53e1a23423fbe4232af6f6eb8e8", func := "loop.example/g01082/laws.FnExactFreeSorting", spec := "fnExactFreeSorting", inPlace := ["internal/bytealg.IndexByteString", "internal/bytealg.IndexString"], unfollowed := true, recurses := true, named := ["unicode/utf8.first", "unicode/utf8.acceptRanges", "internal/bytealg.MaxLen"], apart := false, laid := [("unicode/utf8.acceptRanges", laid_unicode_utf8_acceptRanges), ("unicode/utf8.first", laid_unicode_utf8_first)] }
def FnExactFreeSortingSaid : Prop := fnExactFreeSortingRow.holds Tryd.pinned (OpenSpec.ofChange fnExactFreeSortingSpec)

/-- ITS FALSE NEIGHBOUR: 'it returns false'. Refute it at one input. -/
def fnExactFreeSortingWrong : ChangeSpec := { name := "fnExactFreeSorting", fn := fun _ => fun
  | [d] => { results := [.lit (.bool false)], args := [d] }
  | _ => none }
def FnExactFreeSortingWrongFalsely : Prop := fnExactFreeSortingRow.holds Tryd.pinned (OpenSpec.ofChange fnExactFreeSortingWrong)

/-- 'laws.FnExactIsSorting': WHATEVER THE INPUT: true; the input reads as it did. -/
def fnExactIsSortingSpec : ChangeSpec := { name := "fnExactIsSorting", fn := fun _ => fun
  | [d1, d2] => { results := [.lit (.bool true)], args := [d1, d2] }
  | _ => none }
def fnExactIsSortingRow : OpenClaim := { program := "yteoogncgfnpoeaadoor", sum := "485b4bce99ff6f1e98c2ad22a6bb47b1092fc53e1a23423fbe4232af6f6eb8e8", func := "loop.example/g01082/laws.FnExactIsSorting", spec := "fnExactIsSorting", inPlace := ["internal/bytealg.IndexByteString", "internal/bytealg.IndexString"], unfollowed := true, recurses := true, named := ["unicode/utf8.first", "unicode/utf8.acceptRanges", "internal/bytealg.MaxLen"], apart := false, laid := [("unicode/utf8.acceptRanges", laid_unicode_utf8_acceptRanges), ("unicode/utf8.first", laid_unicode_utf8_first)] }
def FnExactIsSortingSaid : Prop := fnExactIsSortingRow.holds Tryd.pinned (OpenSpec.ofChange fnExactIsSortingSpec)

/-- ITS FALSE NEIGHBOUR: 'it returns false'. Refute it at one input. -/
def fnExactIsSortingWrong : ChangeSpec := { name := "fnExactIsSorting", fn := fun _ => fun
  | [d1, d2] => { results := [.lit (.bool false)], args := [d1, d2] }
  | _ => none }
def FnExactIsSortingWrongFalsely : Prop := fnExactIsSortingRow.holds Tryd.pinned (OpenSpec.ofChange fnExactIsSortingWrong)

/-- 'laws.FnExactIsFiner': WHATEVER THE INPUT: true; the input reads as it did. -/
def fnExactIsFinerSpec : ChangeSpec := { name := "fnExactIsFiner", fn := fun _ => fun
  | [d1, d2, d3] => { results := [.lit (.bool true)], args := [d1, d2, d3] }
  | _ => none }
def fnExactIsFinerRow : OpenClaim := { program := "yteoogncgfnpoeaadoor", sum := "485b4bce99ff6f1e98c2ad22a6bb47b1092fc53e1a23423fbe4232af6f6eb8e8", func := "loop.example/g01082/laws.FnExactIsFiner", spec := "fnExactIsFiner", inPlace := ["internal/bytealg.IndexByteString", "internal/bytealg.IndexString"], unfollowed := true, recurses := true, named := ["unicode/utf8.first", "unicode/utf8.acceptRanges", "internal/bytealg.MaxLen"], apart := false, laid := [("unicode/utf8.acceptRanges", laid_unicode_utf8_acceptRanges), ("unicode/utf8.first", laid_unicode_utf8_first)] }
def FnExactIsFinerSaid : Prop := fnExactIsFinerRow.holds Tryd.pinned (OpenSpec.ofChange fnExactIsFinerSpec)

/-- ITS FALSE NEIGHBOUR: 'it returns false'. Refute it at one input. -/
def fnExactIsFinerWrong : ChangeSpec := { name := "fnExactIsFiner", fn := fun _ => fun
  | [d1, d2, d3] => { results := [.lit (.bool false)], args := [d1, d2, d3] }
  | _ => none }
def FnExactIsFinerWrongFalsely : Prop := fnExactIsFinerRow.holds Tryd.pinned (OpenSpec.ofChange fnExactIsFinerWrong)

/- THE SECOND FORM. 'bulk': how many values and letters a reading holds, each counted each time it is reached (what is shared counts as often as it is met; a slice's spare places count too). A statement '..UptoSaid' is the law's where the arguments, and the package variables that the reading takes, are together of bulk at most 1048576: NARROWER than '..Said'. Prove '..Said' where nothing that the law and all that it calls make is longer than what came in: it says more and counts as full. Else prove '..UptoSaid'. A law counts once. -/
mutual
def uptoBulk {H : Type} : DataW H → Nat
  | .lit (.string bytes) => bytes.length + 1
  | .lit _ => 1
  | .nil => 1
  | .ptr d => uptoBulk d + 1
  | .slice elems spare => uptoBulkAll elems + uptoBulkAll spare + 1
  | .agg parts => uptoBulkAll parts + 1
  | .iface _ d => uptoBulk d + 1
  | .map entries => uptoBulkEntries entries + 1
  | .held _ => 1
def uptoBulkAll {H : Type} : List (DataW H) → Nat
  | [] => 0
  | d :: r => uptoBulk d + uptoBulkAll r
def uptoBulkEntries {H : Type} : List (Lit × DataW H) → Nat
  | [] => 0
  | x :: r => uptoBulkEntry x + uptoBulkEntries r
def uptoBulkEntry {H : Type} : Lit × DataW H → Nat
  | (.string bytes, d) => bytes.length + uptoBulk d + 1
  | (_, d) => uptoBulk d + 1
 end
def uptoSmall : (H : Type) → List (DataW H) → Bool := fun _ ds => decide (uptoBulkAll ds ≤ 1048576)
def OpenSpec.upto (s : _root_.Go.ChangeSpec) : _root_.Go.OpenSpec := { _root_.Go.OpenSpec.ofChange s with cond := some uptoSmall }

/-- 'laws.FnExactFreeSorting', WHERE WHAT IT READS IS OF BULK AT MOST 1048576: true; the input reads as it did. -/
def fnExactFreeSortingUptoRow : OpenClaim := { program := "yteoogncgfnpoeaadoor", sum := "485b4bce99ff6f1e98c2ad22a6bb47b1092fc53e1a23423fbe4232af6f6eb8e8", func := "loop.example/g01082/laws.FnExactFreeSorting", spec := "fnExactFreeSorting", inPlace := ["internal/bytealg.IndexByteString", "internal/bytealg.IndexString"], unfollowed := true, recurses := true, named := ["unicode/utf8.first", "unicode/utf8.acceptRanges", "internal/bytealg.MaxLen"], apart := false, laid := [("unicode/utf8.acceptRanges", laid_unicode_utf8_acceptRanges), ("unicode/utf8.first", laid_unicode_utf8_first)], narrowed := true }
def FnExactFreeSortingUptoSaid : Prop := fnExactFreeSortingUptoRow.holds Tryd.pinned (OpenSpec.upto fnExactFreeSortingSpec)

/-- 'laws.FnExactIsSorting', WHERE WHAT IT READS IS OF BULK AT MOST 1048576: true; the input reads as it did. -/
def fnExactIsSortingUptoRow : OpenClaim := { program := "yteoogncgfnpoeaadoor", sum := "485b4bce99ff6f1e98c2ad22a6bb47b1092fc53e1a23423fbe4232af6f6eb8e8", func := "loop.example/g01082/laws.FnExactIsSorting", spec := "fnExactIsSorting", inPlace := ["internal/bytealg.IndexByteString", "internal/bytealg.IndexString"], unfollowed := true, recurses := true, named := ["unicode/utf8.first", "unicode/utf8.acceptRanges", "internal/bytealg.MaxLen"], apart := false, laid := [("unicode/utf8.acceptRanges", laid_unicode_utf8_acceptRanges), ("unicode/utf8.first", laid_unicode_utf8_first)], narrowed := true }
def FnExactIsSortingUptoSaid : Prop := fnExactIsSortingUptoRow.holds Tryd.pinned (OpenSpec.upto fnExactIsSortingSpec)

/-- 'laws.FnExactIsFiner', WHERE WHAT IT READS IS OF BULK AT MOST 1048576: true; the input reads as it did. -/
def fnExactIsFinerUptoRow : OpenClaim := { program := "yteoogncgfnpoeaadoor", sum := "485b4bce99ff6f1e98c2ad22a6bb47b1092fc53e1a23423fbe4232af6f6eb8e8", func := "loop.example/g01082/laws.FnExactIsFiner", spec := "fnExactIsFiner", inPlace := ["internal/bytealg.IndexByteString", "internal/bytealg.IndexString"], unfollowed := true, recurses := true, named := ["unicode/utf8.first", "unicode/utf8.acceptRanges", "internal/bytealg.MaxLen"], apart := false, laid := [("unicode/utf8.acceptRanges", laid_unicode_utf8_acceptRanges), ("unicode/utf8.first", laid_unicode_utf8_first)], narrowed := true }
def FnExactIsFinerUptoSaid : Prop := fnExactIsFinerUptoRow.holds Tryd.pinned (OpenSpec.upto fnExactIsFinerSpec)

end Rows
end Go.Proofs.YteoogncgfnpoeaaDoor
