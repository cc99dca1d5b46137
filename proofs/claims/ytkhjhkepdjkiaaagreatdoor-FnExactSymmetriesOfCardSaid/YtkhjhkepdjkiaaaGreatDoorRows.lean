/-
  NARROWER THAN 'FOR EVERY INPUT', by the rows' own cells (each row's printed sentence says how): FnExactCountSymmetries: laid · FnExactSymmetriesOf: laid · FnExactOrbitsOf: laid · FnExactFindTranslation: laid · FnExactAreLeanEqual: laid.
  DERIVED. THE GIVEN ROWS OF THIS SEAT. 5 by the template 'for every input the law returns true; each argument reads behind the call as it read before'; 0 by the template 'total and deterministic' (their statements: YtkhjhkepdjkiaaaGreatDoorTotals.lean).
  GIVEN WITH THE SEED: the statements are not yours to turn. If you find one false, say at which input.
  Laid BY PROGRAM, IN A SANDBOX (cutbox-rows.mjs): the forced cells as the released guide's own fill.sh prints them over the translation ac297cb2a7bf5209… (all of the seat's roots in one cut). By AI agents, Wed Nov 11 2026. No macro, syntax, notation, axiom, sorry.
-/
import Derived.Test.YtkhjhkepdjkiaaaGreatDoorChecked
import GoSem.PinnedTables
import GoSem.Claim
import GoSem.ClaimJoined
import GoSem.ClaimMapViews
import Derived.JoinedTies
import Derived.KernelRfl
namespace Go.Proofs.YtkhjhkepdjkiaaaGreatDoor
/- THE CELL 'sum', in the pinned program and in every row, IS THE sha256 OF THE DUMP (.gsa) THAT YtkhjhkepdjkiaaaGreatDoorProg.lean LOADS. Nothing in Lean hashes anything: it is a label: what it is worth is what the hold of that sum in a sandbox is worth. -/
noncomputable def Tryz.pinned : Pinned := { name := "ytkhjhkepdjkiaaagreatdoor", sum := "ac297cb2a7bf5209481a9c60945517b1ba0d23bb12cc680a827d70599687cfb7", checked := Tryz.checked }
namespace Rows
def none {H : Type} : Left H := { results := [], args := [] }

/- WHAT THE LISTED PACKAGE-LEVEL VARIABLES READ AS WHEN THE CALL BEGINS. Each datum BY PROGRAM (the guide's laid-datum.mjs) off the statement by which the dump's own 'gosem.cut.vars' lays the variable. In a bare row this is a premise. The card (YtkhjhkepdjkiaaaGreatDoorCards.lean) ties it to the program's text. -/
def laid_unicode_utf8_acceptRanges {H : Type} : DataW H := .agg [.agg [.lit (.int .u8 128), .lit (.int .u8 191)], .agg [.lit (.int .u8 160), .lit (.int .u8 191)], .agg [.lit (.int .u8 128), .lit (.int .u8 159)], .agg [.lit (.int .u8 144), .lit (.int .u8 191)], .agg [.lit (.int .u8 128), .lit (.int .u8 143)], .agg [.lit (.int .u8 0), .lit (.int .u8 0)], .agg [.lit (.int .u8 0), .lit (.int .u8 0)], .agg [.lit (.int .u8 0), .lit (.int .u8 0)], .agg [.lit (.int .u8 0), .lit (.int .u8 0)], .agg [.lit (.int .u8 0), .lit (.int .u8 0)], .agg [.lit (.int .u8 0), .lit (.int .u8 0)], .agg [.lit (.int .u8 0), .lit (.int .u8 0)], .agg [.lit (.int .u8 0), .lit (.int .u8 0)], .agg [.lit (.int .u8 0), .lit (.int .u8 0)], .agg [.lit (.int .u8 0), .lit (.int .u8 0)], .agg [.lit (.int .u8 0), .lit (.int .u8 0)]]
/-- One of Go's own tables, pinned by name: the form's constant. -/
def laid_unicode_utf8_first : DataW Unit := Go.Pinned.utf8First

/-- 'laws.FnExactCountSymmetries': WHATEVER THE INPUT: true; the input reads as it did. -/
def fnExactCountSymmetriesSpec : ChangeSpec := { name := "fnExactCountSymmetries", fn := fun _ => fun
  | [d1, d2] => { results := [.lit (.bool true)], args := [d1, d2] }
  | _ => none }
def fnExactCountSymmetriesRow : OpenClaim := { program := "ytkhjhkepdjkiaaagreatdoor", sum := "ac297cb2a7bf5209481a9c60945517b1ba0d23bb12cc680a827d70599687cfb7", func := "loop.example/g01082/laws.FnExactCountSymmetries", spec := "fnExactCountSymmetries", inPlace := ["internal/bytealg.IndexByteString", "internal/bytealg.IndexString"], unfollowed := true, recurses := true, named := ["unicode/utf8.first", "unicode/utf8.acceptRanges", "internal/bytealg.MaxLen"], apart := false, laid := [("unicode/utf8.acceptRanges", laid_unicode_utf8_acceptRanges), ("unicode/utf8.first", laid_unicode_utf8_first)] }
def FnExactCountSymmetriesSaid : Prop := fnExactCountSymmetriesRow.holds Tryz.pinned (OpenSpec.ofChange fnExactCountSymmetriesSpec)

/-- ITS FALSE NEIGHBOUR: 'it returns false'. Refute it at one input. -/
def fnExactCountSymmetriesWrong : ChangeSpec := { name := "fnExactCountSymmetries", fn := fun _ => fun
  | [d1, d2] => { results := [.lit (.bool false)], args := [d1, d2] }
  | _ => none }
def FnExactCountSymmetriesWrongFalsely : Prop := fnExactCountSymmetriesRow.holds Tryz.pinned (OpenSpec.ofChange fnExactCountSymmetriesWrong)

/-- 'laws.FnExactSymmetriesOf': WHATEVER THE INPUT: true; the input reads as it did. -/
def fnExactSymmetriesOfSpec : ChangeSpec := { name := "fnExactSymmetriesOf", fn := fun _ => fun
  | [d1, d2] => { results := [.lit (.bool true)], args := [d1, d2] }
  | _ => none }
def fnExactSymmetriesOfRow : OpenClaim := { program := "ytkhjhkepdjkiaaagreatdoor", sum := "ac297cb2a7bf5209481a9c60945517b1ba0d23bb12cc680a827d70599687cfb7", func := "loop.example/g01082/laws.FnExactSymmetriesOf", spec := "fnExactSymmetriesOf", inPlace := ["internal/bytealg.IndexByteString", "internal/bytealg.IndexString"], unfollowed := true, recurses := true, named := ["unicode/utf8.first", "unicode/utf8.acceptRanges", "internal/bytealg.MaxLen"], apart := false, laid := [("unicode/utf8.acceptRanges", laid_unicode_utf8_acceptRanges), ("unicode/utf8.first", laid_unicode_utf8_first)] }
def FnExactSymmetriesOfSaid : Prop := fnExactSymmetriesOfRow.holds Tryz.pinned (OpenSpec.ofChange fnExactSymmetriesOfSpec)

/-- ITS FALSE NEIGHBOUR: 'it returns false'. Refute it at one input. -/
def fnExactSymmetriesOfWrong : ChangeSpec := { name := "fnExactSymmetriesOf", fn := fun _ => fun
  | [d1, d2] => { results := [.lit (.bool false)], args := [d1, d2] }
  | _ => none }
def FnExactSymmetriesOfWrongFalsely : Prop := fnExactSymmetriesOfRow.holds Tryz.pinned (OpenSpec.ofChange fnExactSymmetriesOfWrong)

/-- 'laws.FnExactOrbitsOf': WHATEVER THE INPUT: true; the input reads as it did. -/
def fnExactOrbitsOfSpec : ChangeSpec := { name := "fnExactOrbitsOf", fn := fun _ => fun
  | [d1, d2] => { results := [.lit (.bool true)], args := [d1, d2] }
  | _ => none }
def fnExactOrbitsOfRow : OpenClaim := { program := "ytkhjhkepdjkiaaagreatdoor", sum := "ac297cb2a7bf5209481a9c60945517b1ba0d23bb12cc680a827d70599687cfb7", func := "loop.example/g01082/laws.FnExactOrbitsOf", spec := "fnExactOrbitsOf", inPlace := ["internal/bytealg.IndexByteString", "internal/bytealg.IndexString"], unfollowed := true, recurses := true, named := ["unicode/utf8.first", "unicode/utf8.acceptRanges", "internal/bytealg.MaxLen"], apart := false, laid := [("unicode/utf8.acceptRanges", laid_unicode_utf8_acceptRanges), ("unicode/utf8.first", laid_unicode_utf8_first)] }
def FnExactOrbitsOfSaid : Prop := fnExactOrbitsOfRow.holds Tryz.pinned (OpenSpec.ofChange fnExactOrbitsOfSpec)

/-- ITS FALSE NEIGHBOUR: 'it returns false'. Refute it at one input. -/
def fnExactOrbitsOfWrong : ChangeSpec := { name := "fnExactOrbitsOf", fn := fun _ => fun
  | [d1, d2] => { results := [.lit (.bool false)], args := [d1, d2] }
  | _ => none }
def FnExactOrbitsOfWrongFalsely : Prop := fnExactOrbitsOfRow.holds Tryz.pinned (OpenSpec.ofChange fnExactOrbitsOfWrong)

/-- 'laws.FnExactFindTranslation': WHATEVER THE INPUT: true; the input reads as it did. -/
def fnExactFindTranslationSpec : ChangeSpec := { name := "fnExactFindTranslation", fn := fun _ => fun
  | [d1, d2, d3] => { results := [.lit (.bool true)], args := [d1, d2, d3] }
  | _ => none }
def fnExactFindTranslationRow : OpenClaim := { program := "ytkhjhkepdjkiaaagreatdoor", sum := "ac297cb2a7bf5209481a9c60945517b1ba0d23bb12cc680a827d70599687cfb7", func := "loop.example/g01082/laws.FnExactFindTranslation", spec := "fnExactFindTranslation", inPlace := ["internal/bytealg.IndexByteString", "internal/bytealg.IndexString"], unfollowed := true, recurses := true, named := ["unicode/utf8.first", "unicode/utf8.acceptRanges", "internal/bytealg.MaxLen"], apart := false, laid := [("unicode/utf8.acceptRanges", laid_unicode_utf8_acceptRanges), ("unicode/utf8.first", laid_unicode_utf8_first)] }
def FnExactFindTranslationSaid : Prop := fnExactFindTranslationRow.holds Tryz.pinned (OpenSpec.ofChange fnExactFindTranslationSpec)

/-- ITS FALSE NEIGHBOUR: 'it returns false'. Refute it at one input. -/
def fnExactFindTranslationWrong : ChangeSpec := { name := "fnExactFindTranslation", fn := fun _ => fun
  | [d1, d2, d3] => { results := [.lit (.bool false)], args := [d1, d2, d3] }
  | _ => none }
def FnExactFindTranslationWrongFalsely : Prop := fnExactFindTranslationRow.holds Tryz.pinned (OpenSpec.ofChange fnExactFindTranslationWrong)

/-- 'laws.FnExactAreLeanEqual': WHATEVER THE INPUT: true; the input reads as it did. -/
def fnExactAreLeanEqualSpec : ChangeSpec := { name := "fnExactAreLeanEqual", fn := fun _ => fun
  | [d1, d2, d3] => { results := [.lit (.bool true)], args := [d1, d2, d3] }
  | _ => none }
def fnExactAreLeanEqualRow : OpenClaim := { program := "ytkhjhkepdjkiaaagreatdoor", sum := "ac297cb2a7bf5209481a9c60945517b1ba0d23bb12cc680a827d70599687cfb7", func := "loop.example/g01082/laws.FnExactAreLeanEqual", spec := "fnExactAreLeanEqual", inPlace := ["internal/bytealg.IndexByteString", "internal/bytealg.IndexString"], unfollowed := true, recurses := true, named := ["unicode/utf8.first", "unicode/utf8.acceptRanges", "internal/bytealg.MaxLen"], apart := false, laid := [("unicode/utf8.acceptRanges", laid_unicode_utf8_acceptRanges), ("unicode/utf8.first", laid_unicode_utf8_first)] }
def FnExactAreLeanEqualSaid : Prop := fnExactAreLeanEqualRow.holds Tryz.pinned (OpenSpec.ofChange fnExactAreLeanEqualSpec)

/-- ITS FALSE NEIGHBOUR: 'it returns false'. Refute it at one input. -/
def fnExactAreLeanEqualWrong : ChangeSpec := { name := "fnExactAreLeanEqual", fn := fun _ => fun
  | [d1, d2, d3] => { results := [.lit (.bool false)], args := [d1, d2, d3] }
  | _ => none }
def FnExactAreLeanEqualWrongFalsely : Prop := fnExactAreLeanEqualRow.holds Tryz.pinned (OpenSpec.ofChange fnExactAreLeanEqualWrong)

/- THE SECOND FORM. 'bulk': how many values and letters a reading holds, each counted each time it is reached (what is shared counts as often as it is met; a slice's spare places count too). A statement '..UptoSaid' is the law's where the arguments, and the package variables that the reading takes, are together of bulk at most 1048576: NARROWER than '..Said'. Prove '..Said' where nothing that the law and all that it calls make is longer than what came in: it says more and counts as full. Else prove '..UptoSaid'. A law counts once. -/
mutual
def uptoBulk {H : Type} : DataW H → Nat
  | .lit (.string bytes) => bytes.length + 1
  | .lit _ => 1
  | .nil => 1
  | .ptr d => uptoBulk d + 1
  | .slice elems spare => uptoBulkAll elems + uptoBulkAll spare + 1
  | .agg parts => uptoBulkAll parts + 1
  | .iface _ d => uptoBulk d + 1
  | .map entries => uptoBulkEntries entries + 1
  | .held _ => 1
def uptoBulkAll {H : Type} : List (DataW H) → Nat
  | [] => 0
  | d :: r => uptoBulk d + uptoBulkAll r
def uptoBulkEntries {H : Type} : List (Lit × DataW H) → Nat
  | [] => 0
  | x :: r => uptoBulkEntry x + uptoBulkEntries r
def uptoBulkEntry {H : Type} : Lit × DataW H → Nat
  | (.string bytes, d) => bytes.length + uptoBulk d + 1
  | (_, d) => uptoBulk d + 1
 end
def uptoSmall : (H : Type) → List (DataW H) → Bool := fun _ ds => decide (uptoBulkAll ds ≤ 1048576)
def OpenSpec.upto (s : _root_.Go.ChangeSpec) : _root_.Go.OpenSpec := { _root_.Go.OpenSpec.ofChange s with cond := some uptoSmall }

/-- 'laws.FnExactCountSymmetries', WHERE WHAT IT READS IS OF BULK AT MOST 1048576: true; the input reads as it did. -/
def fnExactCountSymmetriesUptoRow : OpenClaim := { program := "ytkhjhkepdjkiaaagreatdoor", sum := "ac297cb2a7bf5209481a9c60945517b1ba0d23bb12cc680a827d70599687cfb7", func := "loop.example/g01082/laws.FnExactCountSymmetries", spec := "fnExactCountSymmetries", inPlace := ["internal/bytealg.IndexByteString", "internal/bytealg.IndexString"], unfollowed := true, recurses := true, named := ["unicode/utf8.first", "unicode/utf8.acceptRanges", "internal/bytealg.MaxLen"], apart := false, laid := [("unicode/utf8.acceptRanges", laid_unicode_utf8_acceptRanges), ("unicode/utf8.first", laid_unicode_utf8_first)], narrowed := true }
def FnExactCountSymmetriesUptoSaid : Prop := fnExactCountSymmetriesUptoRow.holds Tryz.pinned (OpenSpec.upto fnExactCountSymmetriesSpec)

/-- 'laws.FnExactSymmetriesOf', WHERE WHAT IT READS IS OF BULK AT MOST 1048576: true; the input reads as it did. -/
def fnExactSymmetriesOfUptoRow : OpenClaim := { program := "ytkhjhkepdjkiaaagreatdoor", sum := "ac297cb2a7bf5209481a9c60945517b1ba0d23bb12cc680a827d70599687cfb7", func := "loop.example/g01082/laws.FnExactSymmetriesOf", spec := "fnExactSymmetriesOf", inPlace := ["internal/bytealg.IndexByteString", "internal/bytealg.IndexString"], unfollowed := true, recurses := true, named := ["unicode/utf8.first", "unicode/utf8.acceptRanges", "internal/bytealg.MaxLen"], apart := false, laid := [("unicode/utf8.acceptRanges", laid_unicode_utf8_acceptRanges), ("unicode/utf8.first", laid_unicode_utf8_first)], narrowed := true }
def FnExactSymmetriesOfUptoSaid : Prop := fnExactSymmetriesOfUptoRow.holds Tryz.pinned (OpenSpec.upto fnExactSymmetriesOfSpec)

/-- 'laws.FnExactOrbitsOf', WHERE WHAT IT READS IS OF BULK AT MOST 1048576: true; the input reads as it did. -/
def fnExactOrbitsOfUptoRow : OpenClaim := { program := "ytkhjhkepdjkiaaagreatdoor", sum := "ac297cb2a7bf5209481a9c60945517b1ba0d23bb12cc680a827d70599687cfb7", func := "loop.example/g01082/laws.FnExactOrbitsOf", spec := "fnExactOrbitsOf", inPlace := ["internal/bytealg.IndexByteString", "internal/bytealg.IndexString"], unfollowed := true, recurses := true, named := ["unicode/utf8.first", "unicode/utf8.acceptRanges", "internal/bytealg.MaxLen"], apart := false, laid := [("unicode/utf8.acceptRanges", laid_unicode_utf8_acceptRanges), ("unicode/utf8.first", laid_unicode_utf8_first)], narrowed := true }
def FnExactOrbitsOfUptoSaid : Prop := fnExactOrbitsOfUptoRow.holds Tryz.pinned (OpenSpec.upto fnExactOrbitsOfSpec)

/-- 'laws.FnExactFindTranslation', WHERE WHAT IT READS IS OF BULK AT MOST 1048576: true; the input reads as it did. -/
def fnExactFindTranslationUptoRow : OpenClaim := { program := "ytkhjhkepdjkiaaagreatdoor", sum := "ac297cb2a7bf5209481a9c60945517b1ba0d23bb12cc680a827d70599687cfb7", func := "loop.example/g01082/laws.FnExactFindTranslation", spec := "fnExactFindTranslation", inPlace := ["internal/bytealg.IndexByteString", "internal/bytealg.IndexString"], unfollowed := true, recurses := true, named := ["unicode/utf8.first", "unicode/utf8.acceptRanges", "internal/bytealg.MaxLen"], apart := false, laid := [("unicode/utf8.acceptRanges", laid_unicode_utf8_acceptRanges), ("unicode/utf8.first", laid_unicode_utf8_first)], narrowed := true }
def FnExactFindTranslationUptoSaid : Prop := fnExactFindTranslationUptoRow.holds Tryz.pinned (OpenSpec.upto fnExactFindTranslationSpec)

/-- 'laws.FnExactAreLeanEqual', WHERE WHAT IT READS IS OF BULK AT MOST 1048576: true; the input reads as it did. -/
def fnExactAreLeanEqualUptoRow : OpenClaim := { program := "ytkhjhkepdjkiaaagreatdoor", sum := "ac297cb2a7bf5209481a9c60945517b1ba0d23bb12cc680a827d70599687cfb7", func := "loop.example/g01082/laws.FnExactAreLeanEqual", spec := "fnExactAreLeanEqual", inPlace := ["internal/bytealg.IndexByteString", "internal/bytealg.IndexString"], unfollowed := true, recurses := true, named := ["unicode/utf8.first", "unicode/utf8.acceptRanges", "internal/bytealg.MaxLen"], apart := false, laid := [("unicode/utf8.acceptRanges", laid_unicode_utf8_acceptRanges), ("unicode/utf8.first", laid_unicode_utf8_first)], narrowed := true }
def FnExactAreLeanEqualUptoSaid : Prop := fnExactAreLeanEqualUptoRow.holds Tryz.pinned (OpenSpec.upto fnExactAreLeanEqualSpec)

end Rows
end Go.Proofs.YtkhjhkepdjkiaaaGreatDoor
