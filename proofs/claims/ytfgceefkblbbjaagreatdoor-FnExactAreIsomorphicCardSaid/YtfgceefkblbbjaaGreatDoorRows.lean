/-
  NARROWER THAN 'FOR EVERY INPUT', by the rows' own cells (each row's printed sentence says how): FnExactIsTerm: laid · FnExactTermDepth: laid · FnExactTermParts: laid · FnExactTermValue: laid · FnExactTermText: laid · FnExactParseTerm: laid · FnExactSameTerms: laid · FnExactApplyAxiom: laid · FnExactEdgesOfTranslation: laid · FnExactIsTranslation: laid · FnExactFindTranslation: laid · FnExactAreIsomorphic: laid.
  DERIVED. THE GIVEN ROWS OF THIS SEAT. 12 by the template 'for every input the law returns true; each argument reads behind the call as it read before'; 0 by the template 'total and deterministic' (their statements: YtfgceefkblbbjaaGreatDoorTotals.lean).
  GIVEN WITH THE SEED: the statements are not yours to turn. If you find one false, say at which input.
  Laid BY PROGRAM, IN A SANDBOX (cutbox-rows.mjs): the forced cells as the released guide's own fill.sh prints them over the translation 6fe52a65cddff2a0… (all of the seat's roots in one cut). By AI agents, Wed Nov 11 2026. No macro, syntax, notation, axiom, sorry.
-/
import Derived.Test.YtfgceefkblbbjaaGreatDoorChecked
import GoSem.PinnedTables
import GoSem.Claim
import GoSem.ClaimJoined
import GoSem.ClaimMapViews
import Derived.JoinedTies
import Derived.KernelRfl
namespace Go.Proofs.YtfgceefkblbbjaaGreatDoor
/- THE CELL 'sum', in the pinned program and in every row, IS THE sha256 OF THE DUMP (.gsa) THAT YtfgceefkblbbjaaGreatDoorProg.lean LOADS. Nothing in Lean hashes anything: it is a label: what it is worth is what the hold of that sum in a sandbox is worth. -/
noncomputable def Tryz.pinned : Pinned := { name := "ytfgceefkblbbjaagreatdoor", sum := "6fe52a65cddff2a040f337613ee31f31b1b7521f3bf323694903d6009d103506", checked := Tryz.checked }
namespace Rows
def none {H : Type} : Left H := { results := [], args := [] }

/- WHAT THE LISTED PACKAGE-LEVEL VARIABLES READ AS WHEN THE CALL BEGINS. Each datum BY PROGRAM (the guide's laid-datum.mjs) off the statement by which the dump's own 'gosem.cut.vars' lays the variable. In a bare row this is a premise. The card (YtfgceefkblbbjaaGreatDoorCards.lean) ties it to the program's text. -/
def laid_unicode_utf8_acceptRanges {H : Type} : DataW H := .agg [.agg [.lit (.int .u8 128), .lit (.int .u8 191)], .agg [.lit (.int .u8 160), .lit (.int .u8 191)], .agg [.lit (.int .u8 128), .lit (.int .u8 159)], .agg [.lit (.int .u8 144), .lit (.int .u8 191)], .agg [.lit (.int .u8 128), .lit (.int .u8 143)], .agg [.lit (.int .u8 0), .lit (.int .u8 0)], .agg [.lit (.int .u8 0), .lit (.int .u8 0)], .agg [.lit (.int .u8 0), .lit (.int .u8 0)], .agg [.lit (.int .u8 0), .lit (.int .u8 0)], .agg [.lit (.int .u8 0), .lit (.int .u8 0)], .agg [.lit (.int .u8 0), .lit (.int .u8 0)], .agg [.lit (.int .u8 0), .lit (.int .u8 0)], .agg [.lit (.int .u8 0), .lit (.int .u8 0)], .agg [.lit (.int .u8 0), .lit (.int .u8 0)], .agg [.lit (.int .u8 0), .lit (.int .u8 0)], .agg [.lit (.int .u8 0), .lit (.int .u8 0)]]
/-- One of Go's own tables, pinned by name: the form's constant. -/
def laid_unicode_utf8_first : DataW Unit := Go.Pinned.utf8First
def laid_math_bits_deBruijn32tab {H : Type} : DataW H := .agg [.lit (.int .u8 0), .lit (.int .u8 1), .lit (.int .u8 28), .lit (.int .u8 2), .lit (.int .u8 29), .lit (.int .u8 14), .lit (.int .u8 24), .lit (.int .u8 3), .lit (.int .u8 30), .lit (.int .u8 22), .lit (.int .u8 20), .lit (.int .u8 15), .lit (.int .u8 25), .lit (.int .u8 17), .lit (.int .u8 4), .lit (.int .u8 8), .lit (.int .u8 31), .lit (.int .u8 27), .lit (.int .u8 13), .lit (.int .u8 23), .lit (.int .u8 21), .lit (.int .u8 19), .lit (.int .u8 16), .lit (.int .u8 7), .lit (.int .u8 26), .lit (.int .u8 12), .lit (.int .u8 18), .lit (.int .u8 6), .lit (.int .u8 11), .lit (.int .u8 5), .lit (.int .u8 10), .lit (.int .u8 9)]
def laid_math_bits_deBruijn64tab {H : Type} : DataW H := .agg [.lit (.int .u8 0), .lit (.int .u8 1), .lit (.int .u8 56), .lit (.int .u8 2), .lit (.int .u8 57), .lit (.int .u8 49), .lit (.int .u8 28), .lit (.int .u8 3), .lit (.int .u8 61), .lit (.int .u8 58), .lit (.int .u8 42), .lit (.int .u8 50), .lit (.int .u8 38), .lit (.int .u8 29), .lit (.int .u8 17), .lit (.int .u8 4), .lit (.int .u8 62), .lit (.int .u8 47), .lit (.int .u8 59), .lit (.int .u8 36), .lit (.int .u8 45), .lit (.int .u8 43), .lit (.int .u8 51), .lit (.int .u8 22), .lit (.int .u8 53), .lit (.int .u8 39), .lit (.int .u8 33), .lit (.int .u8 30), .lit (.int .u8 24), .lit (.int .u8 18), .lit (.int .u8 12), .lit (.int .u8 5), .lit (.int .u8 63), .lit (.int .u8 55), .lit (.int .u8 48), .lit (.int .u8 27), .lit (.int .u8 60), .lit (.int .u8 41), .lit (.int .u8 37), .lit (.int .u8 16), .lit (.int .u8 46), .lit (.int .u8 35), .lit (.int .u8 44), .lit (.int .u8 21), .lit (.int .u8 52), .lit (.int .u8 32), .lit (.int .u8 23), .lit (.int .u8 11), .lit (.int .u8 54), .lit (.int .u8 26), .lit (.int .u8 40), .lit (.int .u8 15), .lit (.int .u8 34), .lit (.int .u8 20), .lit (.int .u8 31), .lit (.int .u8 10), .lit (.int .u8 25), .lit (.int .u8 14), .lit (.int .u8 19), .lit (.int .u8 9), .lit (.int .u8 13), .lit (.int .u8 8), .lit (.int .u8 7), .lit (.int .u8 6)]
def laid_internal_strconv_uint64pow10 {H : Type} : DataW H := .agg [.lit (.int .u64 1), .lit (.int .u64 10), .lit (.int .u64 100), .lit (.int .u64 1000), .lit (.int .u64 10000), .lit (.int .u64 100000), .lit (.int .u64 1000000), .lit (.int .u64 10000000), .lit (.int .u64 100000000), .lit (.int .u64 1000000000), .lit (.int .u64 10000000000), .lit (.int .u64 100000000000), .lit (.int .u64 1000000000000), .lit (.int .u64 10000000000000), .lit (.int .u64 100000000000000), .lit (.int .u64 1000000000000000), .lit (.int .u64 10000000000000000), .lit (.int .u64 100000000000000000), .lit (.int .u64 1000000000000000000), .lit (.int .u64 10000000000000000000)]
def laid_strconv_ErrRange {H : Type} : DataW H := .iface "*errors.errorString" (.ptr (.agg [.lit (.string [118, 97, 108, 117, 101, 32, 111, 117, 116, 32, 111, 102, 32, 114, 97, 110, 103, 101])]))
def laid_strconv_ErrSyntax {H : Type} : DataW H := .iface "*errors.errorString" (.ptr (.agg [.lit (.string [105, 110, 118, 97, 108, 105, 100, 32, 115, 121, 110, 116, 97, 120])]))

/-- 'laws.FnExactIsTerm': WHATEVER THE INPUT: true; the input reads as it did. -/
def fnExactIsTermSpec : ChangeSpec := { name := "fnExactIsTerm", fn := fun _ => fun
  | [d1, d2] => { results := [.lit (.bool true)], args := [d1, d2] }
  | _ => none }
def fnExactIsTermRow : OpenClaim := { program := "ytfgceefkblbbjaagreatdoor", sum := "6fe52a65cddff2a040f337613ee31f31b1b7521f3bf323694903d6009d103506", func := "loop.example/g01082/laws.FnExactIsTerm", spec := "fnExactIsTerm", inPlace := ["internal/bytealg.IndexByteString", "internal/bytealg.IndexString"], unfollowed := true, recurses := true, named := ["unicode/utf8.first", "unicode/utf8.acceptRanges", "internal/bytealg.MaxLen"], apart := false, laid := [("unicode/utf8.acceptRanges", laid_unicode_utf8_acceptRanges), ("unicode/utf8.first", laid_unicode_utf8_first)] }
def FnExactIsTermSaid : Prop := fnExactIsTermRow.holds Tryz.pinned (OpenSpec.ofChange fnExactIsTermSpec)

/-- ITS FALSE NEIGHBOUR: 'it returns false'. Refute it at one input. -/
def fnExactIsTermWrong : ChangeSpec := { name := "fnExactIsTerm", fn := fun _ => fun
  | [d1, d2] => { results := [.lit (.bool false)], args := [d1, d2] }
  | _ => none }
def FnExactIsTermWrongFalsely : Prop := fnExactIsTermRow.holds Tryz.pinned (OpenSpec.ofChange fnExactIsTermWrong)

/-- 'laws.FnExactTermDepth': WHATEVER THE INPUT: true; the input reads as it did. -/
def fnExactTermDepthSpec : ChangeSpec := { name := "fnExactTermDepth", fn := fun _ => fun
  | [d1, d2] => { results := [.lit (.bool true)], args := [d1, d2] }
  | _ => none }
def fnExactTermDepthRow : OpenClaim := { program := "ytfgceefkblbbjaagreatdoor", sum := "6fe52a65cddff2a040f337613ee31f31b1b7521f3bf323694903d6009d103506", func := "loop.example/g01082/laws.FnExactTermDepth", spec := "fnExactTermDepth", inPlace := ["internal/bytealg.IndexByteString", "internal/bytealg.IndexString"], unfollowed := true, recurses := true, named := ["unicode/utf8.first", "unicode/utf8.acceptRanges", "internal/bytealg.MaxLen"], apart := false, laid := [("unicode/utf8.acceptRanges", laid_unicode_utf8_acceptRanges), ("unicode/utf8.first", laid_unicode_utf8_first)] }
def FnExactTermDepthSaid : Prop := fnExactTermDepthRow.holds Tryz.pinned (OpenSpec.ofChange fnExactTermDepthSpec)

/-- ITS FALSE NEIGHBOUR: 'it returns false'. Refute it at one input. -/
def fnExactTermDepthWrong : ChangeSpec := { name := "fnExactTermDepth", fn := fun _ => fun
  | [d1, d2] => { results := [.lit (.bool false)], args := [d1, d2] }
  | _ => none }
def FnExactTermDepthWrongFalsely : Prop := fnExactTermDepthRow.holds Tryz.pinned (OpenSpec.ofChange fnExactTermDepthWrong)

/-- 'laws.FnExactTermParts': WHATEVER THE INPUT: true; the input reads as it did. -/
def fnExactTermPartsSpec : ChangeSpec := { name := "fnExactTermParts", fn := fun _ => fun
  | [d1, d2] => { results := [.lit (.bool true)], args := [d1, d2] }
  | _ => none }
def fnExactTermPartsRow : OpenClaim := { program := "ytfgceefkblbbjaagreatdoor", sum := "6fe52a65cddff2a040f337613ee31f31b1b7521f3bf323694903d6009d103506", func := "loop.example/g01082/laws.FnExactTermParts", spec := "fnExactTermParts", inPlace := ["internal/bytealg.IndexByteString", "internal/bytealg.IndexString"], unfollowed := true, recurses := true, named := ["unicode/utf8.first", "unicode/utf8.acceptRanges", "internal/bytealg.MaxLen"], apart := false, laid := [("unicode/utf8.acceptRanges", laid_unicode_utf8_acceptRanges), ("unicode/utf8.first", laid_unicode_utf8_first)] }
def FnExactTermPartsSaid : Prop := fnExactTermPartsRow.holds Tryz.pinned (OpenSpec.ofChange fnExactTermPartsSpec)

/-- ITS FALSE NEIGHBOUR: 'it returns false'. Refute it at one input. -/
def fnExactTermPartsWrong : ChangeSpec := { name := "fnExactTermParts", fn := fun _ => fun
  | [d1, d2] => { results := [.lit (.bool false)], args := [d1, d2] }
  | _ => none }
def FnExactTermPartsWrongFalsely : Prop := fnExactTermPartsRow.holds Tryz.pinned (OpenSpec.ofChange fnExactTermPartsWrong)

/-- 'laws.FnExactTermValue': WHATEVER THE INPUT: true; the input reads as it did. -/
def fnExactTermValueSpec : ChangeSpec := { name := "fnExactTermValue", fn := fun _ => fun
  | [d1, d2] => { results := [.lit (.bool true)], args := [d1, d2] }
  | _ => none }
def fnExactTermValueRow : OpenClaim := { program := "ytfgceefkblbbjaagreatdoor", sum := "6fe52a65cddff2a040f337613ee31f31b1b7521f3bf323694903d6009d103506", func := "loop.example/g01082/laws.FnExactTermValue", spec := "fnExactTermValue", inPlace := ["internal/bytealg.IndexByteString", "internal/bytealg.IndexString"], unfollowed := true, recurses := true, named := ["unicode/utf8.first", "unicode/utf8.acceptRanges", "internal/bytealg.MaxLen"], apart := false, laid := [("unicode/utf8.acceptRanges", laid_unicode_utf8_acceptRanges), ("unicode/utf8.first", laid_unicode_utf8_first)] }
def FnExactTermValueSaid : Prop := fnExactTermValueRow.holds Tryz.pinned (OpenSpec.ofChange fnExactTermValueSpec)

/-- ITS FALSE NEIGHBOUR: 'it returns false'. Refute it at one input. -/
def fnExactTermValueWrong : ChangeSpec := { name := "fnExactTermValue", fn := fun _ => fun
  | [d1, d2] => { results := [.lit (.bool false)], args := [d1, d2] }
  | _ => none }
def FnExactTermValueWrongFalsely : Prop := fnExactTermValueRow.holds Tryz.pinned (OpenSpec.ofChange fnExactTermValueWrong)

/-- 'laws.FnExactTermText': WHATEVER THE INPUT: true; the input reads as it did. -/
def fnExactTermTextSpec : ChangeSpec := { name := "fnExactTermText", fn := fun _ => fun
  | [d1, d2] => { results := [.lit (.bool true)], args := [d1, d2] }
  | _ => none }
def fnExactTermTextRow : OpenClaim := { program := "ytfgceefkblbbjaagreatdoor", sum := "6fe52a65cddff2a040f337613ee31f31b1b7521f3bf323694903d6009d103506", func := "loop.example/g01082/laws.FnExactTermText", spec := "fnExactTermText", inPlace := ["internal/bytealg.IndexByteString", "internal/bytealg.IndexString", "internal/abi.NoEscape", "internal/bytealg.MakeNoZero"], unfollowed := true, recurses := true, named := ["unicode/utf8.first", "unicode/utf8.acceptRanges", "internal/strconv.uint64pow10", "math/bits.deBruijn32tab", "math/bits.deBruijn64tab", "internal/bytealg.MaxLen"], apart := false, laid := [("math/bits.deBruijn32tab", laid_math_bits_deBruijn32tab), ("math/bits.deBruijn64tab", laid_math_bits_deBruijn64tab), ("internal/strconv.uint64pow10", laid_internal_strconv_uint64pow10), ("unicode/utf8.acceptRanges", laid_unicode_utf8_acceptRanges), ("unicode/utf8.first", laid_unicode_utf8_first)] }
def FnExactTermTextSaid : Prop := fnExactTermTextRow.holds Tryz.pinned (OpenSpec.ofChange fnExactTermTextSpec)

/-- ITS FALSE NEIGHBOUR: 'it returns false'. Refute it at one input. -/
def fnExactTermTextWrong : ChangeSpec := { name := "fnExactTermText", fn := fun _ => fun
  | [d1, d2] => { results := [.lit (.bool false)], args := [d1, d2] }
  | _ => none }
def FnExactTermTextWrongFalsely : Prop := fnExactTermTextRow.holds Tryz.pinned (OpenSpec.ofChange fnExactTermTextWrong)

/-- 'laws.FnExactParseTerm': WHATEVER THE INPUT: true; the input reads as it did. -/
def fnExactParseTermSpec : ChangeSpec := { name := "fnExactParseTerm", fn := fun _ => fun
  | [d1, d2] => { results := [.lit (.bool true)], args := [d1, d2] }
  | _ => none }
def fnExactParseTermRow : OpenClaim := { program := "ytfgceefkblbbjaagreatdoor", sum := "6fe52a65cddff2a040f337613ee31f31b1b7521f3bf323694903d6009d103506", func := "loop.example/g01082/laws.FnExactParseTerm", spec := "fnExactParseTerm", inPlace := ["internal/bytealg.IndexByteString", "internal/bytealg.IndexString", "internal/abi.NoEscape", "internal/bytealg.MakeNoZero"], unfollowed := true, recurses := true, named := ["strconv.ErrSyntax", "strconv.ErrRange", "internal/strconv.uint64pow10", "math/bits.deBruijn32tab", "math/bits.deBruijn64tab", "internal/bytealg.MaxLen", "unicode/utf8.first", "unicode/utf8.acceptRanges"], apart := false, laid := [("math/bits.deBruijn32tab", laid_math_bits_deBruijn32tab), ("math/bits.deBruijn64tab", laid_math_bits_deBruijn64tab), ("internal/strconv.uint64pow10", laid_internal_strconv_uint64pow10), ("unicode/utf8.acceptRanges", laid_unicode_utf8_acceptRanges), ("strconv.ErrRange", laid_strconv_ErrRange), ("strconv.ErrSyntax", laid_strconv_ErrSyntax), ("unicode/utf8.first", laid_unicode_utf8_first)] }
def FnExactParseTermSaid : Prop := fnExactParseTermRow.holds Tryz.pinned (OpenSpec.ofChange fnExactParseTermSpec)

/-- ITS FALSE NEIGHBOUR: 'it returns false'. Refute it at one input. -/
def fnExactParseTermWrong : ChangeSpec := { name := "fnExactParseTerm", fn := fun _ => fun
  | [d1, d2] => { results := [.lit (.bool false)], args := [d1, d2] }
  | _ => none }
def FnExactParseTermWrongFalsely : Prop := fnExactParseTermRow.holds Tryz.pinned (OpenSpec.ofChange fnExactParseTermWrong)

/-- 'laws.FnExactSameTerms': WHATEVER THE INPUT: true; the input reads as it did. -/
def fnExactSameTermsSpec : ChangeSpec := { name := "fnExactSameTerms", fn := fun _ => fun
  | [d1, d2, d3] => { results := [.lit (.bool true)], args := [d1, d2, d3] }
  | _ => none }
def fnExactSameTermsRow : OpenClaim := { program := "ytfgceefkblbbjaagreatdoor", sum := "6fe52a65cddff2a040f337613ee31f31b1b7521f3bf323694903d6009d103506", func := "loop.example/g01082/laws.FnExactSameTerms", spec := "fnExactSameTerms", inPlace := ["internal/bytealg.IndexByteString", "internal/bytealg.IndexString"], unfollowed := true, recurses := true, named := ["unicode/utf8.first", "unicode/utf8.acceptRanges", "internal/bytealg.MaxLen"], apart := false, laid := [("unicode/utf8.acceptRanges", laid_unicode_utf8_acceptRanges), ("unicode/utf8.first", laid_unicode_utf8_first)] }
def FnExactSameTermsSaid : Prop := fnExactSameTermsRow.holds Tryz.pinned (OpenSpec.ofChange fnExactSameTermsSpec)

/-- ITS FALSE NEIGHBOUR: 'it returns false'. Refute it at one input. -/
def fnExactSameTermsWrong : ChangeSpec := { name := "fnExactSameTerms", fn := fun _ => fun
  | [d1, d2, d3] => { results := [.lit (.bool false)], args := [d1, d2, d3] }
  | _ => none }
def FnExactSameTermsWrongFalsely : Prop := fnExactSameTermsRow.holds Tryz.pinned (OpenSpec.ofChange fnExactSameTermsWrong)

/-- 'laws.FnExactApplyAxiom': WHATEVER THE INPUT: true; the input reads as it did. -/
def fnExactApplyAxiomSpec : ChangeSpec := { name := "fnExactApplyAxiom", fn := fun _ => fun
  | [d1, d2, d3, d4] => { results := [.lit (.bool true)], args := [d1, d2, d3, d4] }
  | _ => none }
def fnExactApplyAxiomRow : OpenClaim := { program := "ytfgceefkblbbjaagreatdoor", sum := "6fe52a65cddff2a040f337613ee31f31b1b7521f3bf323694903d6009d103506", func := "loop.example/g01082/laws.FnExactApplyAxiom", spec := "fnExactApplyAxiom", inPlace := ["internal/bytealg.IndexByteString", "internal/bytealg.IndexString"], unfollowed := true, recurses := true, named := ["unicode/utf8.first", "unicode/utf8.acceptRanges", "internal/bytealg.MaxLen"], apart := false, laid := [("unicode/utf8.acceptRanges", laid_unicode_utf8_acceptRanges), ("unicode/utf8.first", laid_unicode_utf8_first)] }
def FnExactApplyAxiomSaid : Prop := fnExactApplyAxiomRow.holds Tryz.pinned (OpenSpec.ofChange fnExactApplyAxiomSpec)

/-- ITS FALSE NEIGHBOUR: 'it returns false'. Refute it at one input. -/
def fnExactApplyAxiomWrong : ChangeSpec := { name := "fnExactApplyAxiom", fn := fun _ => fun
  | [d1, d2, d3, d4] => { results := [.lit (.bool false)], args := [d1, d2, d3, d4] }
  | _ => none }
def FnExactApplyAxiomWrongFalsely : Prop := fnExactApplyAxiomRow.holds Tryz.pinned (OpenSpec.ofChange fnExactApplyAxiomWrong)

/-- 'laws.FnExactEdgesOfTranslation': WHATEVER THE INPUT: true; the input reads as it did. -/
def fnExactEdgesOfTranslationSpec : ChangeSpec := { name := "fnExactEdgesOfTranslation", fn := fun _ => fun
  | [d1, d2, d3, d4] => { results := [.lit (.bool true)], args := [d1, d2, d3, d4] }
  | _ => none }
def fnExactEdgesOfTranslationRow : OpenClaim := { program := "ytfgceefkblbbjaagreatdoor", sum := "6fe52a65cddff2a040f337613ee31f31b1b7521f3bf323694903d6009d103506", func := "loop.example/g01082/laws.FnExactEdgesOfTranslation", spec := "fnExactEdgesOfTranslation", inPlace := ["internal/bytealg.IndexByteString", "internal/bytealg.IndexString"], unfollowed := true, recurses := true, named := ["unicode/utf8.first", "unicode/utf8.acceptRanges", "internal/bytealg.MaxLen"], apart := false, laid := [("unicode/utf8.acceptRanges", laid_unicode_utf8_acceptRanges), ("unicode/utf8.first", laid_unicode_utf8_first)] }
def FnExactEdgesOfTranslationSaid : Prop := fnExactEdgesOfTranslationRow.holds Tryz.pinned (OpenSpec.ofChange fnExactEdgesOfTranslationSpec)

/-- ITS FALSE NEIGHBOUR: 'it returns false'. Refute it at one input. -/
def fnExactEdgesOfTranslationWrong : ChangeSpec := { name := "fnExactEdgesOfTranslation", fn := fun _ => fun
  | [d1, d2, d3, d4] => { results := [.lit (.bool false)], args := [d1, d2, d3, d4] }
  | _ => none }
def FnExactEdgesOfTranslationWrongFalsely : Prop := fnExactEdgesOfTranslationRow.holds Tryz.pinned (OpenSpec.ofChange fnExactEdgesOfTranslationWrong)

/-- 'laws.FnExactIsTranslation': WHATEVER THE INPUT: true; the input reads as it did. -/
def fnExactIsTranslationSpec : ChangeSpec := { name := "fnExactIsTranslation", fn := fun _ => fun
  | [d1, d2, d3, d4] => { results := [.lit (.bool true)], args := [d1, d2, d3, d4] }
  | _ => none }
def fnExactIsTranslationRow : OpenClaim := { program := "ytfgceefkblbbjaagreatdoor", sum := "6fe52a65cddff2a040f337613ee31f31b1b7521f3bf323694903d6009d103506", func := "loop.example/g01082/laws.FnExactIsTranslation", spec := "fnExactIsTranslation", inPlace := ["internal/bytealg.IndexByteString", "internal/bytealg.IndexString"], unfollowed := true, recurses := true, named := ["unicode/utf8.first", "unicode/utf8.acceptRanges", "internal/bytealg.MaxLen"], apart := false, laid := [("unicode/utf8.acceptRanges", laid_unicode_utf8_acceptRanges), ("unicode/utf8.first", laid_unicode_utf8_first)] }
def FnExactIsTranslationSaid : Prop := fnExactIsTranslationRow.holds Tryz.pinned (OpenSpec.ofChange fnExactIsTranslationSpec)

/-- ITS FALSE NEIGHBOUR: 'it returns false'. Refute it at one input. -/
def fnExactIsTranslationWrong : ChangeSpec := { name := "fnExactIsTranslation", fn := fun _ => fun
  | [d1, d2, d3, d4] => { results := [.lit (.bool false)], args := [d1, d2, d3, d4] }
  | _ => none }
def FnExactIsTranslationWrongFalsely : Prop := fnExactIsTranslationRow.holds Tryz.pinned (OpenSpec.ofChange fnExactIsTranslationWrong)

/-- 'laws.FnExactFindTranslation': WHATEVER THE INPUT: true; the input reads as it did. -/
def fnExactFindTranslationSpec : ChangeSpec := { name := "fnExactFindTranslation", fn := fun _ => fun
  | [d1, d2, d3] => { results := [.lit (.bool true)], args := [d1, d2, d3] }
  | _ => none }
def fnExactFindTranslationRow : OpenClaim := { program := "ytfgceefkblbbjaagreatdoor", sum := "6fe52a65cddff2a040f337613ee31f31b1b7521f3bf323694903d6009d103506", func := "loop.example/g01082/laws.FnExactFindTranslation", spec := "fnExactFindTranslation", inPlace := ["internal/bytealg.IndexByteString", "internal/bytealg.IndexString"], unfollowed := true, recurses := true, named := ["unicode/utf8.first", "unicode/utf8.acceptRanges", "internal/bytealg.MaxLen"], apart := false, laid := [("unicode/utf8.acceptRanges", laid_unicode_utf8_acceptRanges), ("unicode/utf8.first", laid_unicode_utf8_first)] }
def FnExactFindTranslationSaid : Prop := fnExactFindTranslationRow.holds Tryz.pinned (OpenSpec.ofChange fnExactFindTranslationSpec)

/-- ITS FALSE NEIGHBOUR: 'it returns false'. Refute it at one input. -/
def fnExactFindTranslationWrong : ChangeSpec := { name := "fnExactFindTranslation", fn := fun _ => fun
  | [d1, d2, d3] => { results := [.lit (.bool false)], args := [d1, d2, d3] }
  | _ => none }
def FnExactFindTranslationWrongFalsely : Prop := fnExactFindTranslationRow.holds Tryz.pinned (OpenSpec.ofChange fnExactFindTranslationWrong)

/-- 'laws.FnExactAreIsomorphic': WHATEVER THE INPUT: true; the input reads as it did. -/
def fnExactAreIsomorphicSpec : ChangeSpec := { name := "fnExactAreIsomorphic", fn := fun _ => fun
  | [d1, d2, d3] => { results := [.lit (.bool true)], args := [d1, d2, d3] }
  | _ => none }
def fnExactAreIsomorphicRow : OpenClaim := { program := "ytfgceefkblbbjaagreatdoor", sum := "6fe52a65cddff2a040f337613ee31f31b1b7521f3bf323694903d6009d103506", func := "loop.example/g01082/laws.FnExactAreIsomorphic", spec := "fnExactAreIsomorphic", inPlace := ["internal/bytealg.IndexByteString", "internal/bytealg.IndexString"], unfollowed := true, recurses := true, named := ["unicode/utf8.first", "unicode/utf8.acceptRanges", "internal/bytealg.MaxLen"], apart := false, laid := [("unicode/utf8.acceptRanges", laid_unicode_utf8_acceptRanges), ("unicode/utf8.first", laid_unicode_utf8_first)] }
def FnExactAreIsomorphicSaid : Prop := fnExactAreIsomorphicRow.holds Tryz.pinned (OpenSpec.ofChange fnExactAreIsomorphicSpec)

/-- ITS FALSE NEIGHBOUR: 'it returns false'. Refute it at one input. -/
def fnExactAreIsomorphicWrong : ChangeSpec := { name := "fnExactAreIsomorphic", fn := fun _ => fun
  | [d1, d2, d3] => { results := [.lit (.bool false)], args := [d1, d2, d3] }
  | _ => none }
def FnExactAreIsomorphicWrongFalsely : Prop := fnExactAreIsomorphicRow.holds Tryz.pinned (OpenSpec.ofChange fnExactAreIsomorphicWrong)

/- THE SECOND FORM. 'bulk': how many values and letters a reading holds, each counted each time it is reached (what is shared counts as often as it is met; a slice's spare places count too). A statement '..UptoSaid' is the law's where the arguments, and the package variables that the reading takes, are together of bulk at most 1048576: NARROWER than '..Said'. Prove '..Said' where nothing that the law and all that it calls make is longer than what came in: it says more and counts as full. Else prove '..UptoSaid'. A law counts once. -/
mutual
def uptoBulk {H : Type} : DataW H → Nat
  | .lit (.string bytes) => bytes.length + 1
  | .lit _ => 1
  | .nil => 1
  | .ptr d => uptoBulk d + 1
  | .slice elems spare => uptoBulkAll elems + uptoBulkAll spare + 1
  | .agg parts => uptoBulkAll parts + 1
  | .iface _ d => uptoBulk d + 1
  | .map entries => uptoBulkEntries entries + 1
  | .held _ => 1
def uptoBulkAll {H : Type} : List (DataW H) → Nat
  | [] => 0
  | d :: r => uptoBulk d + uptoBulkAll r
def uptoBulkEntries {H : Type} : List (Lit × DataW H) → Nat
  | [] => 0
  | x :: r => uptoBulkEntry x + uptoBulkEntries r
def uptoBulkEntry {H : Type} : Lit × DataW H → Nat
  | (.string bytes, d) => bytes.length + uptoBulk d + 1
  | (_, d) => uptoBulk d + 1
 end
def uptoSmall : (H : Type) → List (DataW H) → Bool := fun _ ds => decide (uptoBulkAll ds ≤ 1048576)
def OpenSpec.upto (s : _root_.Go.ChangeSpec) : _root_.Go.OpenSpec := { _root_.Go.OpenSpec.ofChange s with cond := some uptoSmall }

/-- 'laws.FnExactIsTerm', WHERE WHAT IT READS IS OF BULK AT MOST 1048576: true; the input reads as it did. -/
def fnExactIsTermUptoRow : OpenClaim := { program := "ytfgceefkblbbjaagreatdoor", sum := "6fe52a65cddff2a040f337613ee31f31b1b7521f3bf323694903d6009d103506", func := "loop.example/g01082/laws.FnExactIsTerm", spec := "fnExactIsTerm", inPlace := ["internal/bytealg.IndexByteString", "internal/bytealg.IndexString"], unfollowed := true, recurses := true, named := ["unicode/utf8.first", "unicode/utf8.acceptRanges", "internal/bytealg.MaxLen"], apart := false, laid := [("unicode/utf8.acceptRanges", laid_unicode_utf8_acceptRanges), ("unicode/utf8.first", laid_unicode_utf8_first)], narrowed := true }
def FnExactIsTermUptoSaid : Prop := fnExactIsTermUptoRow.holds Tryz.pinned (OpenSpec.upto fnExactIsTermSpec)

/-- 'laws.FnExactTermDepth', WHERE WHAT IT READS IS OF BULK AT MOST 1048576: true; the input reads as it did. -/
def fnExactTermDepthUptoRow : OpenClaim := { program := "ytfgceefkblbbjaagreatdoor", sum := "6fe52a65cddff2a040f337613ee31f31b1b7521f3bf323694903d6009d103506", func := "loop.example/g01082/laws.FnExactTermDepth", spec := "fnExactTermDepth", inPlace := ["internal/bytealg.IndexByteString", "internal/bytealg.IndexString"], unfollowed := true, recurses := true, named := ["unicode/utf8.first", "unicode/utf8.acceptRanges", "internal/bytealg.MaxLen"], apart := false, laid := [("unicode/utf8.acceptRanges", laid_unicode_utf8_acceptRanges), ("unicode/utf8.first", laid_unicode_utf8_first)], narrowed := true }
def FnExactTermDepthUptoSaid : Prop := fnExactTermDepthUptoRow.holds Tryz.pinned (OpenSpec.upto fnExactTermDepthSpec)

/-- 'laws.FnExactTermParts', WHERE WHAT IT READS IS OF BULK AT MOST 1048576: true; the input reads as it did. -/
def fnExactTermPartsUptoRow : OpenClaim := { program := "ytfgceefkblbbjaagreatdoor", sum := "6fe52a65cddff2a040f337613ee31f31b1b7521f3bf323694903d6009d103506", func := "loop.example/g01082/laws.FnExactTermParts", spec := "fnExactTermParts", inPlace := ["internal/bytealg.IndexByteString", "internal/bytealg.IndexString"], unfollowed := true, recurses := true, named := ["unicode/utf8.first", "unicode/utf8.acceptRanges", "internal/bytealg.MaxLen"], apart := false, laid := [("unicode/utf8.acceptRanges", laid_unicode_utf8_acceptRanges), ("unicode/utf8.first", laid_unicode_utf8_first)], narrowed := true }
def FnExactTermPartsUptoSaid : Prop := fnExactTermPartsUptoRow.holds Tryz.pinned (OpenSpec.upto fnExactTermPartsSpec)

/-- 'laws.FnExactTermValue', WHERE WHAT IT READS IS OF BULK AT MOST 1048576: true; the input reads as it did. -/
def fnExactTermValueUptoRow : OpenClaim := { program := "ytfgceefkblbbjaagreatdoor", sum := "6fe52a65cddff2a040f337613ee31f31b1b7521f3bf323694903d6009d103506", func := "loop.example/g01082/laws.FnExactTermValue", spec := "fnExactTermValue", inPlace := ["internal/bytealg.IndexByteString", "internal/bytealg.IndexString"], unfollowed := true, recurses := true, named := ["unicode/utf8.first", "unicode/utf8.acceptRanges", "internal/bytealg.MaxLen"], apart := false, laid := [("unicode/utf8.acceptRanges", laid_unicode_utf8_acceptRanges), ("unicode/utf8.first", laid_unicode_utf8_first)], narrowed := true }
def FnExactTermValueUptoSaid : Prop := fnExactTermValueUptoRow.holds Tryz.pinned (OpenSpec.upto fnExactTermValueSpec)

/-- 'laws.FnExactTermText', WHERE WHAT IT READS IS OF BULK AT MOST 1048576: true; the input reads as it did. -/
def fnExactTermTextUptoRow : OpenClaim := { program := "ytfgceefkblbbjaagreatdoor", sum := "6fe52a65cddff2a040f337613ee31f31b1b7521f3bf323694903d6009d103506", func := "loop.example/g01082/laws.FnExactTermText", spec := "fnExactTermText", inPlace := ["internal/bytealg.IndexByteString", "internal/bytealg.IndexString", "internal/abi.NoEscape", "internal/bytealg.MakeNoZero"], unfollowed := true, recurses := true, named := ["unicode/utf8.first", "unicode/utf8.acceptRanges", "internal/strconv.uint64pow10", "math/bits.deBruijn32tab", "math/bits.deBruijn64tab", "internal/bytealg.MaxLen"], apart := false, laid := [("math/bits.deBruijn32tab", laid_math_bits_deBruijn32tab), ("math/bits.deBruijn64tab", laid_math_bits_deBruijn64tab), ("internal/strconv.uint64pow10", laid_internal_strconv_uint64pow10), ("unicode/utf8.acceptRanges", laid_unicode_utf8_acceptRanges), ("unicode/utf8.first", laid_unicode_utf8_first)], narrowed := true }
def FnExactTermTextUptoSaid : Prop := fnExactTermTextUptoRow.holds Tryz.pinned (OpenSpec.upto fnExactTermTextSpec)

/-- 'laws.FnExactParseTerm', WHERE WHAT IT READS IS OF BULK AT MOST 1048576: true; the input reads as it did. -/
def fnExactParseTermUptoRow : OpenClaim := { program := "ytfgceefkblbbjaagreatdoor", sum := "6fe52a65cddff2a040f337613ee31f31b1b7521f3bf323694903d6009d103506", func := "loop.example/g01082/laws.FnExactParseTerm", spec := "fnExactParseTerm", inPlace := ["internal/bytealg.IndexByteString", "internal/bytealg.IndexString", "internal/abi.NoEscape", "internal/bytealg.MakeNoZero"], unfollowed := true, recurses := true, named := ["strconv.ErrSyntax", "strconv.ErrRange", "internal/strconv.uint64pow10", "math/bits.deBruijn32tab", "math/bits.deBruijn64tab", "internal/bytealg.MaxLen", "unicode/utf8.first", "unicode/utf8.acceptRanges"], apart := false, laid := [("math/bits.deBruijn32tab", laid_math_bits_deBruijn32tab), ("math/bits.deBruijn64tab", laid_math_bits_deBruijn64tab), ("internal/strconv.uint64pow10", laid_internal_strconv_uint64pow10), ("unicode/utf8.acceptRanges", laid_unicode_utf8_acceptRanges), ("strconv.ErrRange", laid_strconv_ErrRange), ("strconv.ErrSyntax", laid_strconv_ErrSyntax), ("unicode/utf8.first", laid_unicode_utf8_first)], narrowed := true }
def FnExactParseTermUptoSaid : Prop := fnExactParseTermUptoRow.holds Tryz.pinned (OpenSpec.upto fnExactParseTermSpec)

/-- 'laws.FnExactSameTerms', WHERE WHAT IT READS IS OF BULK AT MOST 1048576: true; the input reads as it did. -/
def fnExactSameTermsUptoRow : OpenClaim := { program := "ytfgceefkblbbjaagreatdoor", sum := "6fe52a65cddff2a040f337613ee31f31b1b7521f3bf323694903d6009d103506", func := "loop.example/g01082/laws.FnExactSameTerms", spec := "fnExactSameTerms", inPlace := ["internal/bytealg.IndexByteString", "internal/bytealg.IndexString"], unfollowed := true, recurses := true, named := ["unicode/utf8.first", "unicode/utf8.acceptRanges", "internal/bytealg.MaxLen"], apart := false, laid := [("unicode/utf8.acceptRanges", laid_unicode_utf8_acceptRanges), ("unicode/utf8.first", laid_unicode_utf8_first)], narrowed := true }
def FnExactSameTermsUptoSaid : Prop := fnExactSameTermsUptoRow.holds Tryz.pinned (OpenSpec.upto fnExactSameTermsSpec)

/-- 'laws.FnExactApplyAxiom', WHERE WHAT IT READS IS OF BULK AT MOST 1048576: true; the input reads as it did. -/
def fnExactApplyAxiomUptoRow : OpenClaim := { program := "ytfgceefkblbbjaagreatdoor", sum := "6fe52a65cddff2a040f337613ee31f31b1b7521f3bf323694903d6009d103506", func := "loop.example/g01082/laws.FnExactApplyAxiom", spec := "fnExactApplyAxiom", inPlace := ["internal/bytealg.IndexByteString", "internal/bytealg.IndexString"], unfollowed := true, recurses := true, named := ["unicode/utf8.first", "unicode/utf8.acceptRanges", "internal/bytealg.MaxLen"], apart := false, laid := [("unicode/utf8.acceptRanges", laid_unicode_utf8_acceptRanges), ("unicode/utf8.first", laid_unicode_utf8_first)], narrowed := true }
def FnExactApplyAxiomUptoSaid : Prop := fnExactApplyAxiomUptoRow.holds Tryz.pinned (OpenSpec.upto fnExactApplyAxiomSpec)

/-- 'laws.FnExactEdgesOfTranslation', WHERE WHAT IT READS IS OF BULK AT MOST 1048576: true; the input reads as it did. -/
def fnExactEdgesOfTranslationUptoRow : OpenClaim := { program := "ytfgceefkblbbjaagreatdoor", sum := "6fe52a65cddff2a040f337613ee31f31b1b7521f3bf323694903d6009d103506", func := "loop.example/g01082/laws.FnExactEdgesOfTranslation", spec := "fnExactEdgesOfTranslation", inPlace := ["internal/bytealg.IndexByteString", "internal/bytealg.IndexString"], unfollowed := true, recurses := true, named := ["unicode/utf8.first", "unicode/utf8.acceptRanges", "internal/bytealg.MaxLen"], apart := false, laid := [("unicode/utf8.acceptRanges", laid_unicode_utf8_acceptRanges), ("unicode/utf8.first", laid_unicode_utf8_first)], narrowed := true }
def FnExactEdgesOfTranslationUptoSaid : Prop := fnExactEdgesOfTranslationUptoRow.holds Tryz.pinned (OpenSpec.upto fnExactEdgesOfTranslationSpec)

/-- 'laws.FnExactIsTranslation', WHERE WHAT IT READS IS OF BULK AT MOST 1048576: true; the input reads as it did. -/
def fnExactIsTranslationUptoRow : OpenClaim := { program := "ytfgceefkblbbjaagreatdoor", sum := "6fe52a65cddff2a040f337613ee31f31b1b7521f3bf323694903d6009d103506", func := "loop.example/g01082/laws.FnExactIsTranslation", spec := "fnExactIsTranslation", inPlace := ["internal/bytealg.IndexByteString", "internal/bytealg.IndexString"], unfollowed := true, recurses := true, named := ["unicode/utf8.first", "unicode/utf8.acceptRanges", "internal/bytealg.MaxLen"], apart := false, laid := [("unicode/utf8.acceptRanges", laid_unicode_utf8_acceptRanges), ("unicode/utf8.first", laid_unicode_utf8_first)], narrowed := true }
def FnExactIsTranslationUptoSaid : Prop := fnExactIsTranslationUptoRow.holds Tryz.pinned (OpenSpec.upto fnExactIsTranslationSpec)

/-- 'laws.FnExactFindTranslation', WHERE WHAT IT READS IS OF BULK AT MOST 1048576: true; the input reads as it did. -/
def fnExactFindTranslationUptoRow : OpenClaim := { program := "ytfgceefkblbbjaagreatdoor", sum := "6fe52a65cddff2a040f337613ee31f31b1b7521f3bf323694903d6009d103506", func := "loop.example/g01082/laws.FnExactFindTranslation", spec := "fnExactFindTranslation", inPlace := ["internal/bytealg.IndexByteString", "internal/bytealg.IndexString"], unfollowed := true, recurses := true, named := ["unicode/utf8.first", "unicode/utf8.acceptRanges", "internal/bytealg.MaxLen"], apart := false, laid := [("unicode/utf8.acceptRanges", laid_unicode_utf8_acceptRanges), ("unicode/utf8.first", laid_unicode_utf8_first)], narrowed := true }
def FnExactFindTranslationUptoSaid : Prop := fnExactFindTranslationUptoRow.holds Tryz.pinned (OpenSpec.upto fnExactFindTranslationSpec)

/-- 'laws.FnExactAreIsomorphic', WHERE WHAT IT READS IS OF BULK AT MOST 1048576: true; the input reads as it did. -/
def fnExactAreIsomorphicUptoRow : OpenClaim := { program := "ytfgceefkblbbjaagreatdoor", sum := "6fe52a65cddff2a040f337613ee31f31b1b7521f3bf323694903d6009d103506", func := "loop.example/g01082/laws.FnExactAreIsomorphic", spec := "fnExactAreIsomorphic", inPlace := ["internal/bytealg.IndexByteString", "internal/bytealg.IndexString"], unfollowed := true, recurses := true, named := ["unicode/utf8.first", "unicode/utf8.acceptRanges", "internal/bytealg.MaxLen"], apart := false, laid := [("unicode/utf8.acceptRanges", laid_unicode_utf8_acceptRanges), ("unicode/utf8.first", laid_unicode_utf8_first)], narrowed := true }
def FnExactAreIsomorphicUptoSaid : Prop := fnExactAreIsomorphicUptoRow.holds Tryz.pinned (OpenSpec.upto fnExactAreIsomorphicSpec)

end Rows
end Go.Proofs.YtfgceefkblbbjaaGreatDoor
