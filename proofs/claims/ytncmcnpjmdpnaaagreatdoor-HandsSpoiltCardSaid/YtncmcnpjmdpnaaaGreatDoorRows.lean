/-
  NARROWER THAN 'FOR EVERY INPUT', by the rows' own cells (each row's printed sentence says how): HandsErrors: laid · HandsMade: laid · HandsFirsts: laid · HandsValues: laid · HandsTrue: laid · HandsLeast: laid · HandsNexts: laid · HandsWrongs: laid · HandsBoth: laid · HandsAlike: laid · HandsMore: laid · HandsOrder: laid · HandsSigns: laid · HandsAgrees: laid · HandsPrints: laid · HandsReads: laid · HandsSpoilt: laid.
  DERIVED. THE GIVEN ROWS OF THIS SEAT. 17 by the template 'for every input the law returns true; each argument reads behind the call as it read before'; 0 by the template 'total and deterministic' (their statements: YtncmcnpjmdpnaaaGreatDoorTotals.lean).
  GIVEN WITH THE SEED: the statements are not yours to turn. If you find one false, say at which input.
  Laid BY PROGRAM, IN A SANDBOX (cutbox-rows.mjs): the forced cells as the released guide's own fill.sh prints them over the translation 0375adbd348ad925… (all of the seat's roots in one cut). By AI agents, Wed Nov 11 2026. No macro, syntax, notation, axiom, sorry.
-/
import Derived.Test.YtncmcnpjmdpnaaaGreatDoorChecked
import GoSem.PinnedTables
import GoSem.Claim
import GoSem.ClaimJoined
import GoSem.ClaimMapViews
import Derived.JoinedTies
import Derived.KernelRfl
namespace Go.Proofs.YtncmcnpjmdpnaaaGreatDoor
/- THE CELL 'sum', in the pinned program and in every row, IS THE sha256 OF THE DUMP (.gsa) THAT YtncmcnpjmdpnaaaGreatDoorProg.lean LOADS. Nothing in Lean hashes anything: it is a label: what it is worth is what the hold of that sum in a sandbox is worth. -/
noncomputable def Tryz.pinned : Pinned := { name := "ytncmcnpjmdpnaaagreatdoor", sum := "0375adbd348ad9253ae0cce6648fccbaca2130bec730b7564d43edd993a9a55b", checked := Tryz.checked }
namespace Rows
def none {H : Type} : Left H := { results := [], args := [] }

/- WHAT THE LISTED PACKAGE-LEVEL VARIABLES READ AS WHEN THE CALL BEGINS. Each datum BY PROGRAM (the guide's laid-datum.mjs) off the statement by which the dump's own 'gosem.cut.vars' lays the variable. In a bare row this is a premise. The card (YtncmcnpjmdpnaaaGreatDoorCards.lean) ties it to the program's text. -/
def laid_math_bits_deBruijn32tab {H : Type} : DataW H := .agg [.lit (.int .u8 0), .lit (.int .u8 1), .lit (.int .u8 28), .lit (.int .u8 2), .lit (.int .u8 29), .lit (.int .u8 14), .lit (.int .u8 24), .lit (.int .u8 3), .lit (.int .u8 30), .lit (.int .u8 22), .lit (.int .u8 20), .lit (.int .u8 15), .lit (.int .u8 25), .lit (.int .u8 17), .lit (.int .u8 4), .lit (.int .u8 8), .lit (.int .u8 31), .lit (.int .u8 27), .lit (.int .u8 13), .lit (.int .u8 23), .lit (.int .u8 21), .lit (.int .u8 19), .lit (.int .u8 16), .lit (.int .u8 7), .lit (.int .u8 26), .lit (.int .u8 12), .lit (.int .u8 18), .lit (.int .u8 6), .lit (.int .u8 11), .lit (.int .u8 5), .lit (.int .u8 10), .lit (.int .u8 9)]
def laid_math_bits_deBruijn64tab {H : Type} : DataW H := .agg [.lit (.int .u8 0), .lit (.int .u8 1), .lit (.int .u8 56), .lit (.int .u8 2), .lit (.int .u8 57), .lit (.int .u8 49), .lit (.int .u8 28), .lit (.int .u8 3), .lit (.int .u8 61), .lit (.int .u8 58), .lit (.int .u8 42), .lit (.int .u8 50), .lit (.int .u8 38), .lit (.int .u8 29), .lit (.int .u8 17), .lit (.int .u8 4), .lit (.int .u8 62), .lit (.int .u8 47), .lit (.int .u8 59), .lit (.int .u8 36), .lit (.int .u8 45), .lit (.int .u8 43), .lit (.int .u8 51), .lit (.int .u8 22), .lit (.int .u8 53), .lit (.int .u8 39), .lit (.int .u8 33), .lit (.int .u8 30), .lit (.int .u8 24), .lit (.int .u8 18), .lit (.int .u8 12), .lit (.int .u8 5), .lit (.int .u8 63), .lit (.int .u8 55), .lit (.int .u8 48), .lit (.int .u8 27), .lit (.int .u8 60), .lit (.int .u8 41), .lit (.int .u8 37), .lit (.int .u8 16), .lit (.int .u8 46), .lit (.int .u8 35), .lit (.int .u8 44), .lit (.int .u8 21), .lit (.int .u8 52), .lit (.int .u8 32), .lit (.int .u8 23), .lit (.int .u8 11), .lit (.int .u8 54), .lit (.int .u8 26), .lit (.int .u8 40), .lit (.int .u8 15), .lit (.int .u8 34), .lit (.int .u8 20), .lit (.int .u8 31), .lit (.int .u8 10), .lit (.int .u8 25), .lit (.int .u8 14), .lit (.int .u8 19), .lit (.int .u8 9), .lit (.int .u8 13), .lit (.int .u8 8), .lit (.int .u8 7), .lit (.int .u8 6)]
def laid_internal_strconv_uint64pow10 {H : Type} : DataW H := .agg [.lit (.int .u64 1), .lit (.int .u64 10), .lit (.int .u64 100), .lit (.int .u64 1000), .lit (.int .u64 10000), .lit (.int .u64 100000), .lit (.int .u64 1000000), .lit (.int .u64 10000000), .lit (.int .u64 100000000), .lit (.int .u64 1000000000), .lit (.int .u64 10000000000), .lit (.int .u64 100000000000), .lit (.int .u64 1000000000000), .lit (.int .u64 10000000000000), .lit (.int .u64 100000000000000), .lit (.int .u64 1000000000000000), .lit (.int .u64 10000000000000000), .lit (.int .u64 100000000000000000), .lit (.int .u64 1000000000000000000), .lit (.int .u64 10000000000000000000)]
def laid_unicode_utf8_acceptRanges {H : Type} : DataW H := .agg [.agg [.lit (.int .u8 128), .lit (.int .u8 191)], .agg [.lit (.int .u8 160), .lit (.int .u8 191)], .agg [.lit (.int .u8 128), .lit (.int .u8 159)], .agg [.lit (.int .u8 144), .lit (.int .u8 191)], .agg [.lit (.int .u8 128), .lit (.int .u8 143)], .agg [.lit (.int .u8 0), .lit (.int .u8 0)], .agg [.lit (.int .u8 0), .lit (.int .u8 0)], .agg [.lit (.int .u8 0), .lit (.int .u8 0)], .agg [.lit (.int .u8 0), .lit (.int .u8 0)], .agg [.lit (.int .u8 0), .lit (.int .u8 0)], .agg [.lit (.int .u8 0), .lit (.int .u8 0)], .agg [.lit (.int .u8 0), .lit (.int .u8 0)], .agg [.lit (.int .u8 0), .lit (.int .u8 0)], .agg [.lit (.int .u8 0), .lit (.int .u8 0)], .agg [.lit (.int .u8 0), .lit (.int .u8 0)], .agg [.lit (.int .u8 0), .lit (.int .u8 0)]]
/-- One of Go's own tables, pinned by name: the form's constant. -/
def laid_unicode_utf8_first : DataW Unit := Go.Pinned.utf8First

/-- 'ephemeristlaw02.HandsErrors': WHATEVER THE INPUT: true; the input reads as it did. -/
def handsErrorsSpec : ChangeSpec := { name := "handsErrors", fn := fun _ => fun
  | [d1, d2] => { results := [.lit (.bool true)], args := [d1, d2] }
  | _ => none }
def handsErrorsRow : OpenClaim := { program := "ytncmcnpjmdpnaaagreatdoor", sum := "0375adbd348ad9253ae0cce6648fccbaca2130bec730b7564d43edd993a9a55b", func := "ephemerist/ephemeristlaw02.HandsErrors", spec := "handsErrors", inPlace := ["internal/bytealg.CountString", "internal/bytealg.IndexByteString", "internal/bytealg.IndexString"], unfollowed := true, recurses := true, named := ["unicode/utf8.first", "unicode/utf8.acceptRanges", "internal/bytealg.MaxLen", "internal/strconv.uint64pow10", "math/bits.deBruijn32tab", "math/bits.deBruijn64tab"], plainKeys := false, apart := false, laid := [("math/bits.deBruijn32tab", laid_math_bits_deBruijn32tab), ("math/bits.deBruijn64tab", laid_math_bits_deBruijn64tab), ("internal/strconv.uint64pow10", laid_internal_strconv_uint64pow10), ("unicode/utf8.acceptRanges", laid_unicode_utf8_acceptRanges), ("unicode/utf8.first", laid_unicode_utf8_first)] }
def HandsErrorsSaid : Prop := handsErrorsRow.holds Tryz.pinned (OpenSpec.ofChange handsErrorsSpec)

/-- ITS FALSE NEIGHBOUR: 'it returns false'. Refute it at one input. -/
def handsErrorsWrong : ChangeSpec := { name := "handsErrors", fn := fun _ => fun
  | [d1, d2] => { results := [.lit (.bool false)], args := [d1, d2] }
  | _ => none }
def HandsErrorsWrongFalsely : Prop := handsErrorsRow.holds Tryz.pinned (OpenSpec.ofChange handsErrorsWrong)

/-- 'ephemeristlaw02.HandsMade': WHATEVER THE INPUT: true; the input reads as it did. -/
def handsMadeSpec : ChangeSpec := { name := "handsMade", fn := fun _ => fun
  | [d1, d2, d3] => { results := [.lit (.bool true)], args := [d1, d2, d3] }
  | _ => none }
def handsMadeRow : OpenClaim := { program := "ytncmcnpjmdpnaaagreatdoor", sum := "0375adbd348ad9253ae0cce6648fccbaca2130bec730b7564d43edd993a9a55b", func := "ephemerist/ephemeristlaw02.HandsMade", spec := "handsMade", inPlace := ["internal/bytealg.CountString", "internal/bytealg.IndexByteString", "internal/bytealg.IndexString"], unfollowed := true, recurses := true, named := ["unicode/utf8.first", "unicode/utf8.acceptRanges", "internal/bytealg.MaxLen", "internal/strconv.uint64pow10", "math/bits.deBruijn32tab", "math/bits.deBruijn64tab"], plainKeys := false, apart := false, laid := [("math/bits.deBruijn32tab", laid_math_bits_deBruijn32tab), ("math/bits.deBruijn64tab", laid_math_bits_deBruijn64tab), ("internal/strconv.uint64pow10", laid_internal_strconv_uint64pow10), ("unicode/utf8.acceptRanges", laid_unicode_utf8_acceptRanges), ("unicode/utf8.first", laid_unicode_utf8_first)] }
def HandsMadeSaid : Prop := handsMadeRow.holds Tryz.pinned (OpenSpec.ofChange handsMadeSpec)

/-- ITS FALSE NEIGHBOUR: 'it returns false'. Refute it at one input. -/
def handsMadeWrong : ChangeSpec := { name := "handsMade", fn := fun _ => fun
  | [d1, d2, d3] => { results := [.lit (.bool false)], args := [d1, d2, d3] }
  | _ => none }
def HandsMadeWrongFalsely : Prop := handsMadeRow.holds Tryz.pinned (OpenSpec.ofChange handsMadeWrong)

/-- 'ephemeristlaw02.HandsFirsts': WHATEVER THE INPUT: true; the input reads as it did. -/
def handsFirstsSpec : ChangeSpec := { name := "handsFirsts", fn := fun _ => fun
  | [d] => { results := [.lit (.bool true)], args := [d] }
  | _ => none }
def handsFirstsRow : OpenClaim := { program := "ytncmcnpjmdpnaaagreatdoor", sum := "0375adbd348ad9253ae0cce6648fccbaca2130bec730b7564d43edd993a9a55b", func := "ephemerist/ephemeristlaw02.HandsFirsts", spec := "handsFirsts", inPlace := ["internal/bytealg.CountString", "internal/bytealg.IndexByteString", "internal/bytealg.IndexString"], unfollowed := true, recurses := true, named := ["unicode/utf8.first", "unicode/utf8.acceptRanges", "internal/bytealg.MaxLen", "internal/strconv.uint64pow10", "math/bits.deBruijn32tab", "math/bits.deBruijn64tab"], plainKeys := false, apart := false, laid := [("math/bits.deBruijn32tab", laid_math_bits_deBruijn32tab), ("math/bits.deBruijn64tab", laid_math_bits_deBruijn64tab), ("internal/strconv.uint64pow10", laid_internal_strconv_uint64pow10), ("unicode/utf8.acceptRanges", laid_unicode_utf8_acceptRanges), ("unicode/utf8.first", laid_unicode_utf8_first)] }
def HandsFirstsSaid : Prop := handsFirstsRow.holds Tryz.pinned (OpenSpec.ofChange handsFirstsSpec)

/-- ITS FALSE NEIGHBOUR: 'it returns false'. Refute it at one input. -/
def handsFirstsWrong : ChangeSpec := { name := "handsFirsts", fn := fun _ => fun
  | [d] => { results := [.lit (.bool false)], args := [d] }
  | _ => none }
def HandsFirstsWrongFalsely : Prop := handsFirstsRow.holds Tryz.pinned (OpenSpec.ofChange handsFirstsWrong)

/-- 'ephemeristlaw02.HandsValues': WHATEVER THE INPUT: true; the input reads as it did. -/
def handsValuesSpec : ChangeSpec := { name := "handsValues", fn := fun _ => fun
  | [d1, d2] => { results := [.lit (.bool true)], args := [d1, d2] }
  | _ => none }
def handsValuesRow : OpenClaim := { program := "ytncmcnpjmdpnaaagreatdoor", sum := "0375adbd348ad9253ae0cce6648fccbaca2130bec730b7564d43edd993a9a55b", func := "ephemerist/ephemeristlaw02.HandsValues", spec := "handsValues", inPlace := ["internal/bytealg.CountString", "internal/bytealg.IndexByteString", "internal/bytealg.IndexString"], unfollowed := true, recurses := true, named := ["unicode/utf8.first", "unicode/utf8.acceptRanges", "internal/bytealg.MaxLen", "internal/strconv.uint64pow10", "math/bits.deBruijn32tab", "math/bits.deBruijn64tab"], plainKeys := false, apart := false, laid := [("math/bits.deBruijn32tab", laid_math_bits_deBruijn32tab), ("math/bits.deBruijn64tab", laid_math_bits_deBruijn64tab), ("internal/strconv.uint64pow10", laid_internal_strconv_uint64pow10), ("unicode/utf8.acceptRanges", laid_unicode_utf8_acceptRanges), ("unicode/utf8.first", laid_unicode_utf8_first)] }
def HandsValuesSaid : Prop := handsValuesRow.holds Tryz.pinned (OpenSpec.ofChange handsValuesSpec)

/-- ITS FALSE NEIGHBOUR: 'it returns false'. Refute it at one input. -/
def handsValuesWrong : ChangeSpec := { name := "handsValues", fn := fun _ => fun
  | [d1, d2] => { results := [.lit (.bool false)], args := [d1, d2] }
  | _ => none }
def HandsValuesWrongFalsely : Prop := handsValuesRow.holds Tryz.pinned (OpenSpec.ofChange handsValuesWrong)

/-- 'ephemeristlaw02.HandsTrue': WHATEVER THE INPUT: true; the input reads as it did. -/
def handsTrueSpec : ChangeSpec := { name := "handsTrue", fn := fun _ => fun
  | [d1, d2, d3, d4] => { results := [.lit (.bool true)], args := [d1, d2, d3, d4] }
  | _ => none }
def handsTrueRow : OpenClaim := { program := "ytncmcnpjmdpnaaagreatdoor", sum := "0375adbd348ad9253ae0cce6648fccbaca2130bec730b7564d43edd993a9a55b", func := "ephemerist/ephemeristlaw02.HandsTrue", spec := "handsTrue", inPlace := ["internal/bytealg.CountString", "internal/bytealg.IndexByteString", "internal/bytealg.IndexString"], unfollowed := true, recurses := true, named := ["unicode/utf8.first", "unicode/utf8.acceptRanges", "internal/bytealg.MaxLen", "internal/strconv.uint64pow10", "math/bits.deBruijn32tab", "math/bits.deBruijn64tab"], plainKeys := false, apart := false, laid := [("math/bits.deBruijn32tab", laid_math_bits_deBruijn32tab), ("math/bits.deBruijn64tab", laid_math_bits_deBruijn64tab), ("internal/strconv.uint64pow10", laid_internal_strconv_uint64pow10), ("unicode/utf8.acceptRanges", laid_unicode_utf8_acceptRanges), ("unicode/utf8.first", laid_unicode_utf8_first)] }
def HandsTrueSaid : Prop := handsTrueRow.holds Tryz.pinned (OpenSpec.ofChange handsTrueSpec)

/-- ITS FALSE NEIGHBOUR: 'it returns false'. Refute it at one input. -/
def handsTrueWrong : ChangeSpec := { name := "handsTrue", fn := fun _ => fun
  | [d1, d2, d3, d4] => { results := [.lit (.bool false)], args := [d1, d2, d3, d4] }
  | _ => none }
def HandsTrueWrongFalsely : Prop := handsTrueRow.holds Tryz.pinned (OpenSpec.ofChange handsTrueWrong)

/-- 'ephemeristlaw02.HandsLeast': WHATEVER THE INPUT: true; the input reads as it did. -/
def handsLeastSpec : ChangeSpec := { name := "handsLeast", fn := fun _ => fun
  | [d1, d2] => { results := [.lit (.bool true)], args := [d1, d2] }
  | _ => none }
def handsLeastRow : OpenClaim := { program := "ytncmcnpjmdpnaaagreatdoor", sum := "0375adbd348ad9253ae0cce6648fccbaca2130bec730b7564d43edd993a9a55b", func := "ephemerist/ephemeristlaw02.HandsLeast", spec := "handsLeast", inPlace := ["internal/bytealg.CountString", "internal/bytealg.IndexByteString", "internal/bytealg.IndexString"], unfollowed := true, recurses := true, named := ["unicode/utf8.first", "unicode/utf8.acceptRanges", "internal/bytealg.MaxLen", "internal/strconv.uint64pow10", "math/bits.deBruijn32tab", "math/bits.deBruijn64tab"], plainKeys := false, apart := false, laid := [("math/bits.deBruijn32tab", laid_math_bits_deBruijn32tab), ("math/bits.deBruijn64tab", laid_math_bits_deBruijn64tab), ("internal/strconv.uint64pow10", laid_internal_strconv_uint64pow10), ("unicode/utf8.acceptRanges", laid_unicode_utf8_acceptRanges), ("unicode/utf8.first", laid_unicode_utf8_first)] }
def HandsLeastSaid : Prop := handsLeastRow.holds Tryz.pinned (OpenSpec.ofChange handsLeastSpec)

/-- ITS FALSE NEIGHBOUR: 'it returns false'. Refute it at one input. -/
def handsLeastWrong : ChangeSpec := { name := "handsLeast", fn := fun _ => fun
  | [d1, d2] => { results := [.lit (.bool false)], args := [d1, d2] }
  | _ => none }
def HandsLeastWrongFalsely : Prop := handsLeastRow.holds Tryz.pinned (OpenSpec.ofChange handsLeastWrong)

/-- 'ephemeristlaw02.HandsNexts': WHATEVER THE INPUT: true; the input reads as it did. -/
def handsNextsSpec : ChangeSpec := { name := "handsNexts", fn := fun _ => fun
  | [d1, d2] => { results := [.lit (.bool true)], args := [d1, d2] }
  | _ => none }
def handsNextsRow : OpenClaim := { program := "ytncmcnpjmdpnaaagreatdoor", sum := "0375adbd348ad9253ae0cce6648fccbaca2130bec730b7564d43edd993a9a55b", func := "ephemerist/ephemeristlaw02.HandsNexts", spec := "handsNexts", inPlace := ["internal/bytealg.CountString", "internal/bytealg.IndexByteString", "internal/bytealg.IndexString"], unfollowed := true, recurses := true, named := ["unicode/utf8.first", "unicode/utf8.acceptRanges", "internal/bytealg.MaxLen", "internal/strconv.uint64pow10", "math/bits.deBruijn32tab", "math/bits.deBruijn64tab"], plainKeys := false, apart := false, laid := [("math/bits.deBruijn32tab", laid_math_bits_deBruijn32tab), ("math/bits.deBruijn64tab", laid_math_bits_deBruijn64tab), ("internal/strconv.uint64pow10", laid_internal_strconv_uint64pow10), ("unicode/utf8.acceptRanges", laid_unicode_utf8_acceptRanges), ("unicode/utf8.first", laid_unicode_utf8_first)] }
def HandsNextsSaid : Prop := handsNextsRow.holds Tryz.pinned (OpenSpec.ofChange handsNextsSpec)

/-- ITS FALSE NEIGHBOUR: 'it returns false'. Refute it at one input. -/
def handsNextsWrong : ChangeSpec := { name := "handsNexts", fn := fun _ => fun
  | [d1, d2] => { results := [.lit (.bool false)], args := [d1, d2] }
  | _ => none }
def HandsNextsWrongFalsely : Prop := handsNextsRow.holds Tryz.pinned (OpenSpec.ofChange handsNextsWrong)

/-- 'ephemeristlaw02.HandsWrongs': WHATEVER THE INPUT: true; the input reads as it did. -/
def handsWrongsSpec : ChangeSpec := { name := "handsWrongs", fn := fun _ => fun
  | [d1, d2] => { results := [.lit (.bool true)], args := [d1, d2] }
  | _ => none }
def handsWrongsRow : OpenClaim := { program := "ytncmcnpjmdpnaaagreatdoor", sum := "0375adbd348ad9253ae0cce6648fccbaca2130bec730b7564d43edd993a9a55b", func := "ephemerist/ephemeristlaw02.HandsWrongs", spec := "handsWrongs", inPlace := ["internal/bytealg.CountString", "internal/bytealg.IndexByteString", "internal/bytealg.IndexString"], unfollowed := true, recurses := true, named := ["unicode/utf8.first", "unicode/utf8.acceptRanges", "internal/bytealg.MaxLen", "internal/strconv.uint64pow10", "math/bits.deBruijn32tab", "math/bits.deBruijn64tab"], plainKeys := false, apart := false, laid := [("math/bits.deBruijn32tab", laid_math_bits_deBruijn32tab), ("math/bits.deBruijn64tab", laid_math_bits_deBruijn64tab), ("internal/strconv.uint64pow10", laid_internal_strconv_uint64pow10), ("unicode/utf8.acceptRanges", laid_unicode_utf8_acceptRanges), ("unicode/utf8.first", laid_unicode_utf8_first)] }
def HandsWrongsSaid : Prop := handsWrongsRow.holds Tryz.pinned (OpenSpec.ofChange handsWrongsSpec)

/-- ITS FALSE NEIGHBOUR: 'it returns false'. Refute it at one input. -/
def handsWrongsWrong : ChangeSpec := { name := "handsWrongs", fn := fun _ => fun
  | [d1, d2] => { results := [.lit (.bool false)], args := [d1, d2] }
  | _ => none }
def HandsWrongsWrongFalsely : Prop := handsWrongsRow.holds Tryz.pinned (OpenSpec.ofChange handsWrongsWrong)

/-- 'ephemeristlaw02.HandsBoth': WHATEVER THE INPUT: true; the input reads as it did. -/
def handsBothSpec : ChangeSpec := { name := "handsBoth", fn := fun _ => fun
  | [d1, d2, d3] => { results := [.lit (.bool true)], args := [d1, d2, d3] }
  | _ => none }
def handsBothRow : OpenClaim := { program := "ytncmcnpjmdpnaaagreatdoor", sum := "0375adbd348ad9253ae0cce6648fccbaca2130bec730b7564d43edd993a9a55b", func := "ephemerist/ephemeristlaw02.HandsBoth", spec := "handsBoth", inPlace := ["internal/bytealg.CountString", "internal/bytealg.IndexByteString", "internal/bytealg.IndexString"], unfollowed := true, recurses := true, named := ["unicode/utf8.first", "unicode/utf8.acceptRanges", "internal/bytealg.MaxLen", "internal/strconv.uint64pow10", "math/bits.deBruijn32tab", "math/bits.deBruijn64tab"], plainKeys := false, apart := false, laid := [("math/bits.deBruijn32tab", laid_math_bits_deBruijn32tab), ("math/bits.deBruijn64tab", laid_math_bits_deBruijn64tab), ("internal/strconv.uint64pow10", laid_internal_strconv_uint64pow10), ("unicode/utf8.acceptRanges", laid_unicode_utf8_acceptRanges), ("unicode/utf8.first", laid_unicode_utf8_first)] }
def HandsBothSaid : Prop := handsBothRow.holds Tryz.pinned (OpenSpec.ofChange handsBothSpec)

/-- ITS FALSE NEIGHBOUR: 'it returns false'. Refute it at one input. -/
def handsBothWrong : ChangeSpec := { name := "handsBoth", fn := fun _ => fun
  | [d1, d2, d3] => { results := [.lit (.bool false)], args := [d1, d2, d3] }
  | _ => none }
def HandsBothWrongFalsely : Prop := handsBothRow.holds Tryz.pinned (OpenSpec.ofChange handsBothWrong)

/-- 'ephemeristlaw02.HandsAlike': WHATEVER THE INPUT: true; the input reads as it did. -/
def handsAlikeSpec : ChangeSpec := { name := "handsAlike", fn := fun _ => fun
  | [d1, d2, d3, d4, d5] => { results := [.lit (.bool true)], args := [d1, d2, d3, d4, d5] }
  | _ => none }
def handsAlikeRow : OpenClaim := { program := "ytncmcnpjmdpnaaagreatdoor", sum := "0375adbd348ad9253ae0cce6648fccbaca2130bec730b7564d43edd993a9a55b", func := "ephemerist/ephemeristlaw02.HandsAlike", spec := "handsAlike", inPlace := ["internal/bytealg.CountString", "internal/bytealg.IndexByteString", "internal/bytealg.IndexString"], unfollowed := true, recurses := true, named := ["unicode/utf8.first", "unicode/utf8.acceptRanges", "internal/bytealg.MaxLen", "internal/strconv.uint64pow10", "math/bits.deBruijn32tab", "math/bits.deBruijn64tab"], plainKeys := false, apart := false, laid := [("math/bits.deBruijn32tab", laid_math_bits_deBruijn32tab), ("math/bits.deBruijn64tab", laid_math_bits_deBruijn64tab), ("internal/strconv.uint64pow10", laid_internal_strconv_uint64pow10), ("unicode/utf8.acceptRanges", laid_unicode_utf8_acceptRanges), ("unicode/utf8.first", laid_unicode_utf8_first)] }
def HandsAlikeSaid : Prop := handsAlikeRow.holds Tryz.pinned (OpenSpec.ofChange handsAlikeSpec)

/-- ITS FALSE NEIGHBOUR: 'it returns false'. Refute it at one input. -/
def handsAlikeWrong : ChangeSpec := { name := "handsAlike", fn := fun _ => fun
  | [d1, d2, d3, d4, d5] => { results := [.lit (.bool false)], args := [d1, d2, d3, d4, d5] }
  | _ => none }
def HandsAlikeWrongFalsely : Prop := handsAlikeRow.holds Tryz.pinned (OpenSpec.ofChange handsAlikeWrong)

/-- 'ephemeristlaw02.HandsMore': WHATEVER THE INPUT: true; the input reads as it did. -/
def handsMoreSpec : ChangeSpec := { name := "handsMore", fn := fun _ => fun
  | [d1, d2, d3, d4, d5] => { results := [.lit (.bool true)], args := [d1, d2, d3, d4, d5] }
  | _ => none }
def handsMoreRow : OpenClaim := { program := "ytncmcnpjmdpnaaagreatdoor", sum := "0375adbd348ad9253ae0cce6648fccbaca2130bec730b7564d43edd993a9a55b", func := "ephemerist/ephemeristlaw02.HandsMore", spec := "handsMore", inPlace := ["internal/bytealg.CountString", "internal/bytealg.IndexByteString", "internal/bytealg.IndexString"], unfollowed := true, recurses := true, named := ["unicode/utf8.first", "unicode/utf8.acceptRanges", "internal/bytealg.MaxLen", "internal/strconv.uint64pow10", "math/bits.deBruijn32tab", "math/bits.deBruijn64tab"], plainKeys := false, apart := false, laid := [("math/bits.deBruijn32tab", laid_math_bits_deBruijn32tab), ("math/bits.deBruijn64tab", laid_math_bits_deBruijn64tab), ("internal/strconv.uint64pow10", laid_internal_strconv_uint64pow10), ("unicode/utf8.acceptRanges", laid_unicode_utf8_acceptRanges), ("unicode/utf8.first", laid_unicode_utf8_first)] }
def HandsMoreSaid : Prop := handsMoreRow.holds Tryz.pinned (OpenSpec.ofChange handsMoreSpec)

/-- ITS FALSE NEIGHBOUR: 'it returns false'. Refute it at one input. -/
def handsMoreWrong : ChangeSpec := { name := "handsMore", fn := fun _ => fun
  | [d1, d2, d3, d4, d5] => { results := [.lit (.bool false)], args := [d1, d2, d3, d4, d5] }
  | _ => none }
def HandsMoreWrongFalsely : Prop := handsMoreRow.holds Tryz.pinned (OpenSpec.ofChange handsMoreWrong)

/-- 'ephemeristlaw02.HandsOrder': WHATEVER THE INPUT: true; the input reads as it did. -/
def handsOrderSpec : ChangeSpec := { name := "handsOrder", fn := fun _ => fun
  | [d1, d2, d3, d4] => { results := [.lit (.bool true)], args := [d1, d2, d3, d4] }
  | _ => none }
def handsOrderRow : OpenClaim := { program := "ytncmcnpjmdpnaaagreatdoor", sum := "0375adbd348ad9253ae0cce6648fccbaca2130bec730b7564d43edd993a9a55b", func := "ephemerist/ephemeristlaw02.HandsOrder", spec := "handsOrder", inPlace := ["internal/bytealg.CountString", "internal/bytealg.IndexByteString", "internal/bytealg.IndexString"], unfollowed := true, recurses := true, named := ["unicode/utf8.first", "unicode/utf8.acceptRanges", "internal/bytealg.MaxLen", "internal/strconv.uint64pow10", "math/bits.deBruijn32tab", "math/bits.deBruijn64tab"], plainKeys := false, apart := false, laid := [("math/bits.deBruijn32tab", laid_math_bits_deBruijn32tab), ("math/bits.deBruijn64tab", laid_math_bits_deBruijn64tab), ("internal/strconv.uint64pow10", laid_internal_strconv_uint64pow10), ("unicode/utf8.acceptRanges", laid_unicode_utf8_acceptRanges), ("unicode/utf8.first", laid_unicode_utf8_first)] }
def HandsOrderSaid : Prop := handsOrderRow.holds Tryz.pinned (OpenSpec.ofChange handsOrderSpec)

/-- ITS FALSE NEIGHBOUR: 'it returns false'. Refute it at one input. -/
def handsOrderWrong : ChangeSpec := { name := "handsOrder", fn := fun _ => fun
  | [d1, d2, d3, d4] => { results := [.lit (.bool false)], args := [d1, d2, d3, d4] }
  | _ => none }
def HandsOrderWrongFalsely : Prop := handsOrderRow.holds Tryz.pinned (OpenSpec.ofChange handsOrderWrong)

/-- 'ephemeristlaw02.HandsSigns': WHATEVER THE INPUT: true; the input reads as it did. -/
def handsSignsSpec : ChangeSpec := { name := "handsSigns", fn := fun _ => fun
  | [d1, d2, d3] => { results := [.lit (.bool true)], args := [d1, d2, d3] }
  | _ => none }
def handsSignsRow : OpenClaim := { program := "ytncmcnpjmdpnaaagreatdoor", sum := "0375adbd348ad9253ae0cce6648fccbaca2130bec730b7564d43edd993a9a55b", func := "ephemerist/ephemeristlaw02.HandsSigns", spec := "handsSigns", inPlace := ["internal/bytealg.CountString", "internal/bytealg.IndexByteString", "internal/bytealg.IndexString"], unfollowed := true, recurses := true, named := ["unicode/utf8.first", "unicode/utf8.acceptRanges", "internal/bytealg.MaxLen", "internal/strconv.uint64pow10", "math/bits.deBruijn32tab", "math/bits.deBruijn64tab"], plainKeys := false, apart := false, laid := [("math/bits.deBruijn32tab", laid_math_bits_deBruijn32tab), ("math/bits.deBruijn64tab", laid_math_bits_deBruijn64tab), ("internal/strconv.uint64pow10", laid_internal_strconv_uint64pow10), ("unicode/utf8.acceptRanges", laid_unicode_utf8_acceptRanges), ("unicode/utf8.first", laid_unicode_utf8_first)] }
def HandsSignsSaid : Prop := handsSignsRow.holds Tryz.pinned (OpenSpec.ofChange handsSignsSpec)

/-- ITS FALSE NEIGHBOUR: 'it returns false'. Refute it at one input. -/
def handsSignsWrong : ChangeSpec := { name := "handsSigns", fn := fun _ => fun
  | [d1, d2, d3] => { results := [.lit (.bool false)], args := [d1, d2, d3] }
  | _ => none }
def HandsSignsWrongFalsely : Prop := handsSignsRow.holds Tryz.pinned (OpenSpec.ofChange handsSignsWrong)

/-- 'ephemeristlaw02.HandsAgrees': WHATEVER THE INPUT: true; the input reads as it did. -/
def handsAgreesSpec : ChangeSpec := { name := "handsAgrees", fn := fun _ => fun
  | [d1, d2] => { results := [.lit (.bool true)], args := [d1, d2] }
  | _ => none }
def handsAgreesRow : OpenClaim := { program := "ytncmcnpjmdpnaaagreatdoor", sum := "0375adbd348ad9253ae0cce6648fccbaca2130bec730b7564d43edd993a9a55b", func := "ephemerist/ephemeristlaw02.HandsAgrees", spec := "handsAgrees", inPlace := ["internal/bytealg.CountString", "internal/bytealg.IndexByteString", "internal/bytealg.IndexString"], unfollowed := true, recurses := true, named := ["unicode/utf8.first", "unicode/utf8.acceptRanges", "internal/bytealg.MaxLen", "internal/strconv.uint64pow10", "math/bits.deBruijn32tab", "math/bits.deBruijn64tab"], plainKeys := false, apart := false, laid := [("math/bits.deBruijn32tab", laid_math_bits_deBruijn32tab), ("math/bits.deBruijn64tab", laid_math_bits_deBruijn64tab), ("internal/strconv.uint64pow10", laid_internal_strconv_uint64pow10), ("unicode/utf8.acceptRanges", laid_unicode_utf8_acceptRanges), ("unicode/utf8.first", laid_unicode_utf8_first)] }
def HandsAgreesSaid : Prop := handsAgreesRow.holds Tryz.pinned (OpenSpec.ofChange handsAgreesSpec)

/-- ITS FALSE NEIGHBOUR: 'it returns false'. Refute it at one input. -/
def handsAgreesWrong : ChangeSpec := { name := "handsAgrees", fn := fun _ => fun
  | [d1, d2] => { results := [.lit (.bool false)], args := [d1, d2] }
  | _ => none }
def HandsAgreesWrongFalsely : Prop := handsAgreesRow.holds Tryz.pinned (OpenSpec.ofChange handsAgreesWrong)

/-- 'ephemeristlaw02.HandsPrints': WHATEVER THE INPUT: true; the input reads as it did. -/
def handsPrintsSpec : ChangeSpec := { name := "handsPrints", fn := fun _ => fun
  | [d] => { results := [.lit (.bool true)], args := [d] }
  | _ => none }
def handsPrintsRow : OpenClaim := { program := "ytncmcnpjmdpnaaagreatdoor", sum := "0375adbd348ad9253ae0cce6648fccbaca2130bec730b7564d43edd993a9a55b", func := "ephemerist/ephemeristlaw02.HandsPrints", spec := "handsPrints", inPlace := ["internal/bytealg.CountString", "internal/bytealg.IndexByteString", "internal/bytealg.IndexString"], unfollowed := true, recurses := true, named := ["unicode/utf8.first", "unicode/utf8.acceptRanges", "internal/bytealg.MaxLen", "internal/strconv.uint64pow10", "math/bits.deBruijn32tab", "math/bits.deBruijn64tab"], plainKeys := false, apart := false, laid := [("math/bits.deBruijn32tab", laid_math_bits_deBruijn32tab), ("math/bits.deBruijn64tab", laid_math_bits_deBruijn64tab), ("internal/strconv.uint64pow10", laid_internal_strconv_uint64pow10), ("unicode/utf8.acceptRanges", laid_unicode_utf8_acceptRanges), ("unicode/utf8.first", laid_unicode_utf8_first)] }
def HandsPrintsSaid : Prop := handsPrintsRow.holds Tryz.pinned (OpenSpec.ofChange handsPrintsSpec)

/-- ITS FALSE NEIGHBOUR: 'it returns false'. Refute it at one input. -/
def handsPrintsWrong : ChangeSpec := { name := "handsPrints", fn := fun _ => fun
  | [d] => { results := [.lit (.bool false)], args := [d] }
  | _ => none }
def HandsPrintsWrongFalsely : Prop := handsPrintsRow.holds Tryz.pinned (OpenSpec.ofChange handsPrintsWrong)

/-- 'ephemeristlaw02.HandsReads': WHATEVER THE INPUT: true; the input reads as it did. -/
def handsReadsSpec : ChangeSpec := { name := "handsReads", fn := fun _ => fun
  | [d] => { results := [.lit (.bool true)], args := [d] }
  | _ => none }
def handsReadsRow : OpenClaim := { program := "ytncmcnpjmdpnaaagreatdoor", sum := "0375adbd348ad9253ae0cce6648fccbaca2130bec730b7564d43edd993a9a55b", func := "ephemerist/ephemeristlaw02.HandsReads", spec := "handsReads", inPlace := ["internal/bytealg.CountString", "internal/bytealg.IndexByteString", "internal/bytealg.IndexString"], unfollowed := true, recurses := true, named := ["unicode/utf8.first", "unicode/utf8.acceptRanges", "internal/bytealg.MaxLen", "internal/strconv.uint64pow10", "math/bits.deBruijn32tab", "math/bits.deBruijn64tab"], plainKeys := false, apart := false, laid := [("math/bits.deBruijn32tab", laid_math_bits_deBruijn32tab), ("math/bits.deBruijn64tab", laid_math_bits_deBruijn64tab), ("internal/strconv.uint64pow10", laid_internal_strconv_uint64pow10), ("unicode/utf8.acceptRanges", laid_unicode_utf8_acceptRanges), ("unicode/utf8.first", laid_unicode_utf8_first)] }
def HandsReadsSaid : Prop := handsReadsRow.holds Tryz.pinned (OpenSpec.ofChange handsReadsSpec)

/-- ITS FALSE NEIGHBOUR: 'it returns false'. Refute it at one input. -/
def handsReadsWrong : ChangeSpec := { name := "handsReads", fn := fun _ => fun
  | [d] => { results := [.lit (.bool false)], args := [d] }
  | _ => none }
def HandsReadsWrongFalsely : Prop := handsReadsRow.holds Tryz.pinned (OpenSpec.ofChange handsReadsWrong)

/-- 'ephemeristlaw02.HandsSpoilt': WHATEVER THE INPUT: true; the input reads as it did. -/
def handsSpoiltSpec : ChangeSpec := { name := "handsSpoilt", fn := fun _ => fun
  | [d1, d2, d3] => { results := [.lit (.bool true)], args := [d1, d2, d3] }
  | _ => none }
def handsSpoiltRow : OpenClaim := { program := "ytncmcnpjmdpnaaagreatdoor", sum := "0375adbd348ad9253ae0cce6648fccbaca2130bec730b7564d43edd993a9a55b", func := "ephemerist/ephemeristlaw02.HandsSpoilt", spec := "handsSpoilt", inPlace := ["internal/bytealg.CountString", "internal/bytealg.IndexByteString", "internal/bytealg.IndexString"], unfollowed := true, recurses := true, named := ["unicode/utf8.first", "unicode/utf8.acceptRanges", "internal/bytealg.MaxLen", "internal/strconv.uint64pow10", "math/bits.deBruijn32tab", "math/bits.deBruijn64tab"], plainKeys := false, apart := false, laid := [("math/bits.deBruijn32tab", laid_math_bits_deBruijn32tab), ("math/bits.deBruijn64tab", laid_math_bits_deBruijn64tab), ("internal/strconv.uint64pow10", laid_internal_strconv_uint64pow10), ("unicode/utf8.acceptRanges", laid_unicode_utf8_acceptRanges), ("unicode/utf8.first", laid_unicode_utf8_first)] }
def HandsSpoiltSaid : Prop := handsSpoiltRow.holds Tryz.pinned (OpenSpec.ofChange handsSpoiltSpec)

/-- ITS FALSE NEIGHBOUR: 'it returns false'. Refute it at one input. -/
def handsSpoiltWrong : ChangeSpec := { name := "handsSpoilt", fn := fun _ => fun
  | [d1, d2, d3] => { results := [.lit (.bool false)], args := [d1, d2, d3] }
  | _ => none }
def HandsSpoiltWrongFalsely : Prop := handsSpoiltRow.holds Tryz.pinned (OpenSpec.ofChange handsSpoiltWrong)

/- THE SECOND FORM. 'bulk': how many values and letters a reading holds, each counted each time it is reached (what is shared counts as often as it is met; a slice's spare places count too). A statement '..UptoSaid' is the law's where the arguments, and the package variables that the reading takes, are together of bulk at most 1048576: NARROWER than '..Said'. Prove '..Said' where nothing that the law and all that it calls make is longer than what came in: it says more and counts as full. Else prove '..UptoSaid'. A law counts once. -/
mutual
def uptoBulk {H : Type} : DataW H → Nat
  | .lit (.string bytes) => bytes.length + 1
  | .lit _ => 1
  | .nil => 1
  | .ptr d => uptoBulk d + 1
  | .slice elems spare => uptoBulkAll elems + uptoBulkAll spare + 1
  | .agg parts => uptoBulkAll parts + 1
  | .iface _ d => uptoBulk d + 1
  | .map entries => uptoBulkEntries entries + 1
  | .held _ => 1
def uptoBulkAll {H : Type} : List (DataW H) → Nat
  | [] => 0
  | d :: r => uptoBulk d + uptoBulkAll r
def uptoBulkEntries {H : Type} : List (Lit × DataW H) → Nat
  | [] => 0
  | x :: r => uptoBulkEntry x + uptoBulkEntries r
def uptoBulkEntry {H : Type} : Lit × DataW H → Nat
  | (.string bytes, d) => bytes.length + uptoBulk d + 1
  | (_, d) => uptoBulk d + 1
 end
def uptoSmall : (H : Type) → List (DataW H) → Bool := fun _ ds => decide (uptoBulkAll ds ≤ 1048576)
def OpenSpec.upto (s : _root_.Go.ChangeSpec) : _root_.Go.OpenSpec := { _root_.Go.OpenSpec.ofChange s with cond := some uptoSmall }

/-- 'ephemeristlaw02.HandsErrors', WHERE WHAT IT READS IS OF BULK AT MOST 1048576: true; the input reads as it did. -/
def handsErrorsUptoRow : OpenClaim := { program := "ytncmcnpjmdpnaaagreatdoor", sum := "0375adbd348ad9253ae0cce6648fccbaca2130bec730b7564d43edd993a9a55b", func := "ephemerist/ephemeristlaw02.HandsErrors", spec := "handsErrors", inPlace := ["internal/bytealg.CountString", "internal/bytealg.IndexByteString", "internal/bytealg.IndexString"], unfollowed := true, recurses := true, named := ["unicode/utf8.first", "unicode/utf8.acceptRanges", "internal/bytealg.MaxLen", "internal/strconv.uint64pow10", "math/bits.deBruijn32tab", "math/bits.deBruijn64tab"], plainKeys := false, apart := false, laid := [("math/bits.deBruijn32tab", laid_math_bits_deBruijn32tab), ("math/bits.deBruijn64tab", laid_math_bits_deBruijn64tab), ("internal/strconv.uint64pow10", laid_internal_strconv_uint64pow10), ("unicode/utf8.acceptRanges", laid_unicode_utf8_acceptRanges), ("unicode/utf8.first", laid_unicode_utf8_first)], narrowed := true }
def HandsErrorsUptoSaid : Prop := handsErrorsUptoRow.holds Tryz.pinned (OpenSpec.upto handsErrorsSpec)

/-- 'ephemeristlaw02.HandsMade', WHERE WHAT IT READS IS OF BULK AT MOST 1048576: true; the input reads as it did. -/
def handsMadeUptoRow : OpenClaim := { program := "ytncmcnpjmdpnaaagreatdoor", sum := "0375adbd348ad9253ae0cce6648fccbaca2130bec730b7564d43edd993a9a55b", func := "ephemerist/ephemeristlaw02.HandsMade", spec := "handsMade", inPlace := ["internal/bytealg.CountString", "internal/bytealg.IndexByteString", "internal/bytealg.IndexString"], unfollowed := true, recurses := true, named := ["unicode/utf8.first", "unicode/utf8.acceptRanges", "internal/bytealg.MaxLen", "internal/strconv.uint64pow10", "math/bits.deBruijn32tab", "math/bits.deBruijn64tab"], plainKeys := false, apart := false, laid := [("math/bits.deBruijn32tab", laid_math_bits_deBruijn32tab), ("math/bits.deBruijn64tab", laid_math_bits_deBruijn64tab), ("internal/strconv.uint64pow10", laid_internal_strconv_uint64pow10), ("unicode/utf8.acceptRanges", laid_unicode_utf8_acceptRanges), ("unicode/utf8.first", laid_unicode_utf8_first)], narrowed := true }
def HandsMadeUptoSaid : Prop := handsMadeUptoRow.holds Tryz.pinned (OpenSpec.upto handsMadeSpec)

/-- 'ephemeristlaw02.HandsFirsts', WHERE WHAT IT READS IS OF BULK AT MOST 1048576: true; the input reads as it did. -/
def handsFirstsUptoRow : OpenClaim := { program := "ytncmcnpjmdpnaaagreatdoor", sum := "0375adbd348ad9253ae0cce6648fccbaca2130bec730b7564d43edd993a9a55b", func := "ephemerist/ephemeristlaw02.HandsFirsts", spec := "handsFirsts", inPlace := ["internal/bytealg.CountString", "internal/bytealg.IndexByteString", "internal/bytealg.IndexString"], unfollowed := true, recurses := true, named := ["unicode/utf8.first", "unicode/utf8.acceptRanges", "internal/bytealg.MaxLen", "internal/strconv.uint64pow10", "math/bits.deBruijn32tab", "math/bits.deBruijn64tab"], plainKeys := false, apart := false, laid := [("math/bits.deBruijn32tab", laid_math_bits_deBruijn32tab), ("math/bits.deBruijn64tab", laid_math_bits_deBruijn64tab), ("internal/strconv.uint64pow10", laid_internal_strconv_uint64pow10), ("unicode/utf8.acceptRanges", laid_unicode_utf8_acceptRanges), ("unicode/utf8.first", laid_unicode_utf8_first)], narrowed := true }
def HandsFirstsUptoSaid : Prop := handsFirstsUptoRow.holds Tryz.pinned (OpenSpec.upto handsFirstsSpec)

/-- 'ephemeristlaw02.HandsValues', WHERE WHAT IT READS IS OF BULK AT MOST 1048576: true; the input reads as it did. -/
def handsValuesUptoRow : OpenClaim := { program := "ytncmcnpjmdpnaaagreatdoor", sum := "0375adbd348ad9253ae0cce6648fccbaca2130bec730b7564d43edd993a9a55b", func := "ephemerist/ephemeristlaw02.HandsValues", spec := "handsValues", inPlace := ["internal/bytealg.CountString", "internal/bytealg.IndexByteString", "internal/bytealg.IndexString"], unfollowed := true, recurses := true, named := ["unicode/utf8.first", "unicode/utf8.acceptRanges", "internal/bytealg.MaxLen", "internal/strconv.uint64pow10", "math/bits.deBruijn32tab", "math/bits.deBruijn64tab"], plainKeys := false, apart := false, laid := [("math/bits.deBruijn32tab", laid_math_bits_deBruijn32tab), ("math/bits.deBruijn64tab", laid_math_bits_deBruijn64tab), ("internal/strconv.uint64pow10", laid_internal_strconv_uint64pow10), ("unicode/utf8.acceptRanges", laid_unicode_utf8_acceptRanges), ("unicode/utf8.first", laid_unicode_utf8_first)], narrowed := true }
def HandsValuesUptoSaid : Prop := handsValuesUptoRow.holds Tryz.pinned (OpenSpec.upto handsValuesSpec)

/-- 'ephemeristlaw02.HandsTrue', WHERE WHAT IT READS IS OF BULK AT MOST 1048576: true; the input reads as it did. -/
def handsTrueUptoRow : OpenClaim := { program := "ytncmcnpjmdpnaaagreatdoor", sum := "0375adbd348ad9253ae0cce6648fccbaca2130bec730b7564d43edd993a9a55b", func := "ephemerist/ephemeristlaw02.HandsTrue", spec := "handsTrue", inPlace := ["internal/bytealg.CountString", "internal/bytealg.IndexByteString", "internal/bytealg.IndexString"], unfollowed := true, recurses := true, named := ["unicode/utf8.first", "unicode/utf8.acceptRanges", "internal/bytealg.MaxLen", "internal/strconv.uint64pow10", "math/bits.deBruijn32tab", "math/bits.deBruijn64tab"], plainKeys := false, apart := false, laid := [("math/bits.deBruijn32tab", laid_math_bits_deBruijn32tab), ("math/bits.deBruijn64tab", laid_math_bits_deBruijn64tab), ("internal/strconv.uint64pow10", laid_internal_strconv_uint64pow10), ("unicode/utf8.acceptRanges", laid_unicode_utf8_acceptRanges), ("unicode/utf8.first", laid_unicode_utf8_first)], narrowed := true }
def HandsTrueUptoSaid : Prop := handsTrueUptoRow.holds Tryz.pinned (OpenSpec.upto handsTrueSpec)

/-- 'ephemeristlaw02.HandsLeast', WHERE WHAT IT READS IS OF BULK AT MOST 1048576: true; the input reads as it did. -/
def handsLeastUptoRow : OpenClaim := { program := "ytncmcnpjmdpnaaagreatdoor", sum := "0375adbd348ad9253ae0cce6648fccbaca2130bec730b7564d43edd993a9a55b", func := "ephemerist/ephemeristlaw02.HandsLeast", spec := "handsLeast", inPlace := ["internal/bytealg.CountString", "internal/bytealg.IndexByteString", "internal/bytealg.IndexString"], unfollowed := true, recurses := true, named := ["unicode/utf8.first", "unicode/utf8.acceptRanges", "internal/bytealg.MaxLen", "internal/strconv.uint64pow10", "math/bits.deBruijn32tab", "math/bits.deBruijn64tab"], plainKeys := false, apart := false, laid := [("math/bits.deBruijn32tab", laid_math_bits_deBruijn32tab), ("math/bits.deBruijn64tab", laid_math_bits_deBruijn64tab), ("internal/strconv.uint64pow10", laid_internal_strconv_uint64pow10), ("unicode/utf8.acceptRanges", laid_unicode_utf8_acceptRanges), ("unicode/utf8.first", laid_unicode_utf8_first)], narrowed := true }
def HandsLeastUptoSaid : Prop := handsLeastUptoRow.holds Tryz.pinned (OpenSpec.upto handsLeastSpec)

/-- 'ephemeristlaw02.HandsNexts', WHERE WHAT IT READS IS OF BULK AT MOST 1048576: true; the input reads as it did. -/
def handsNextsUptoRow : OpenClaim := { program := "ytncmcnpjmdpnaaagreatdoor", sum := "0375adbd348ad9253ae0cce6648fccbaca2130bec730b7564d43edd993a9a55b", func := "ephemerist/ephemeristlaw02.HandsNexts", spec := "handsNexts", inPlace := ["internal/bytealg.CountString", "internal/bytealg.IndexByteString", "internal/bytealg.IndexString"], unfollowed := true, recurses := true, named := ["unicode/utf8.first", "unicode/utf8.acceptRanges", "internal/bytealg.MaxLen", "internal/strconv.uint64pow10", "math/bits.deBruijn32tab", "math/bits.deBruijn64tab"], plainKeys := false, apart := false, laid := [("math/bits.deBruijn32tab", laid_math_bits_deBruijn32tab), ("math/bits.deBruijn64tab", laid_math_bits_deBruijn64tab), ("internal/strconv.uint64pow10", laid_internal_strconv_uint64pow10), ("unicode/utf8.acceptRanges", laid_unicode_utf8_acceptRanges), ("unicode/utf8.first", laid_unicode_utf8_first)], narrowed := true }
def HandsNextsUptoSaid : Prop := handsNextsUptoRow.holds Tryz.pinned (OpenSpec.upto handsNextsSpec)

/-- 'ephemeristlaw02.HandsWrongs', WHERE WHAT IT READS IS OF BULK AT MOST 1048576: true; the input reads as it did. -/
def handsWrongsUptoRow : OpenClaim := { program := "ytncmcnpjmdpnaaagreatdoor", sum := "0375adbd348ad9253ae0cce6648fccbaca2130bec730b7564d43edd993a9a55b", func := "ephemerist/ephemeristlaw02.HandsWrongs", spec := "handsWrongs", inPlace := ["internal/bytealg.CountString", "internal/bytealg.IndexByteString", "internal/bytealg.IndexString"], unfollowed := true, recurses := true, named := ["unicode/utf8.first", "unicode/utf8.acceptRanges", "internal/bytealg.MaxLen", "internal/strconv.uint64pow10", "math/bits.deBruijn32tab", "math/bits.deBruijn64tab"], plainKeys := false, apart := false, laid := [("math/bits.deBruijn32tab", laid_math_bits_deBruijn32tab), ("math/bits.deBruijn64tab", laid_math_bits_deBruijn64tab), ("internal/strconv.uint64pow10", laid_internal_strconv_uint64pow10), ("unicode/utf8.acceptRanges", laid_unicode_utf8_acceptRanges), ("unicode/utf8.first", laid_unicode_utf8_first)], narrowed := true }
def HandsWrongsUptoSaid : Prop := handsWrongsUptoRow.holds Tryz.pinned (OpenSpec.upto handsWrongsSpec)

/-- 'ephemeristlaw02.HandsBoth', WHERE WHAT IT READS IS OF BULK AT MOST 1048576: true; the input reads as it did. -/
def handsBothUptoRow : OpenClaim := { program := "ytncmcnpjmdpnaaagreatdoor", sum := "0375adbd348ad9253ae0cce6648fccbaca2130bec730b7564d43edd993a9a55b", func := "ephemerist/ephemeristlaw02.HandsBoth", spec := "handsBoth", inPlace := ["internal/bytealg.CountString", "internal/bytealg.IndexByteString", "internal/bytealg.IndexString"], unfollowed := true, recurses := true, named := ["unicode/utf8.first", "unicode/utf8.acceptRanges", "internal/bytealg.MaxLen", "internal/strconv.uint64pow10", "math/bits.deBruijn32tab", "math/bits.deBruijn64tab"], plainKeys := false, apart := false, laid := [("math/bits.deBruijn32tab", laid_math_bits_deBruijn32tab), ("math/bits.deBruijn64tab", laid_math_bits_deBruijn64tab), ("internal/strconv.uint64pow10", laid_internal_strconv_uint64pow10), ("unicode/utf8.acceptRanges", laid_unicode_utf8_acceptRanges), ("unicode/utf8.first", laid_unicode_utf8_first)], narrowed := true }
def HandsBothUptoSaid : Prop := handsBothUptoRow.holds Tryz.pinned (OpenSpec.upto handsBothSpec)

/-- 'ephemeristlaw02.HandsAlike', WHERE WHAT IT READS IS OF BULK AT MOST 1048576: true; the input reads as it did. -/
def handsAlikeUptoRow : OpenClaim := { program := "ytncmcnpjmdpnaaagreatdoor", sum := "0375adbd348ad9253ae0cce6648fccbaca2130bec730b7564d43edd993a9a55b", func := "ephemerist/ephemeristlaw02.HandsAlike", spec := "handsAlike", inPlace := ["internal/bytealg.CountString", "internal/bytealg.IndexByteString", "internal/bytealg.IndexString"], unfollowed := true, recurses := true, named := ["unicode/utf8.first", "unicode/utf8.acceptRanges", "internal/bytealg.MaxLen", "internal/strconv.uint64pow10", "math/bits.deBruijn32tab", "math/bits.deBruijn64tab"], plainKeys := false, apart := false, laid := [("math/bits.deBruijn32tab", laid_math_bits_deBruijn32tab), ("math/bits.deBruijn64tab", laid_math_bits_deBruijn64tab), ("internal/strconv.uint64pow10", laid_internal_strconv_uint64pow10), ("unicode/utf8.acceptRanges", laid_unicode_utf8_acceptRanges), ("unicode/utf8.first", laid_unicode_utf8_first)], narrowed := true }
def HandsAlikeUptoSaid : Prop := handsAlikeUptoRow.holds Tryz.pinned (OpenSpec.upto handsAlikeSpec)

/-- 'ephemeristlaw02.HandsMore', WHERE WHAT IT READS IS OF BULK AT MOST 1048576: true; the input reads as it did. -/
def handsMoreUptoRow : OpenClaim := { program := "ytncmcnpjmdpnaaagreatdoor", sum := "0375adbd348ad9253ae0cce6648fccbaca2130bec730b7564d43edd993a9a55b", func := "ephemerist/ephemeristlaw02.HandsMore", spec := "handsMore", inPlace := ["internal/bytealg.CountString", "internal/bytealg.IndexByteString", "internal/bytealg.IndexString"], unfollowed := true, recurses := true, named := ["unicode/utf8.first", "unicode/utf8.acceptRanges", "internal/bytealg.MaxLen", "internal/strconv.uint64pow10", "math/bits.deBruijn32tab", "math/bits.deBruijn64tab"], plainKeys := false, apart := false, laid := [("math/bits.deBruijn32tab", laid_math_bits_deBruijn32tab), ("math/bits.deBruijn64tab", laid_math_bits_deBruijn64tab), ("internal/strconv.uint64pow10", laid_internal_strconv_uint64pow10), ("unicode/utf8.acceptRanges", laid_unicode_utf8_acceptRanges), ("unicode/utf8.first", laid_unicode_utf8_first)], narrowed := true }
def HandsMoreUptoSaid : Prop := handsMoreUptoRow.holds Tryz.pinned (OpenSpec.upto handsMoreSpec)

/-- 'ephemeristlaw02.HandsOrder', WHERE WHAT IT READS IS OF BULK AT MOST 1048576: true; the input reads as it did. -/
def handsOrderUptoRow : OpenClaim := { program := "ytncmcnpjmdpnaaagreatdoor", sum := "0375adbd348ad9253ae0cce6648fccbaca2130bec730b7564d43edd993a9a55b", func := "ephemerist/ephemeristlaw02.HandsOrder", spec := "handsOrder", inPlace := ["internal/bytealg.CountString", "internal/bytealg.IndexByteString", "internal/bytealg.IndexString"], unfollowed := true, recurses := true, named := ["unicode/utf8.first", "unicode/utf8.acceptRanges", "internal/bytealg.MaxLen", "internal/strconv.uint64pow10", "math/bits.deBruijn32tab", "math/bits.deBruijn64tab"], plainKeys := false, apart := false, laid := [("math/bits.deBruijn32tab", laid_math_bits_deBruijn32tab), ("math/bits.deBruijn64tab", laid_math_bits_deBruijn64tab), ("internal/strconv.uint64pow10", laid_internal_strconv_uint64pow10), ("unicode/utf8.acceptRanges", laid_unicode_utf8_acceptRanges), ("unicode/utf8.first", laid_unicode_utf8_first)], narrowed := true }
def HandsOrderUptoSaid : Prop := handsOrderUptoRow.holds Tryz.pinned (OpenSpec.upto handsOrderSpec)

/-- 'ephemeristlaw02.HandsSigns', WHERE WHAT IT READS IS OF BULK AT MOST 1048576: true; the input reads as it did. -/
def handsSignsUptoRow : OpenClaim := { program := "ytncmcnpjmdpnaaagreatdoor", sum := "0375adbd348ad9253ae0cce6648fccbaca2130bec730b7564d43edd993a9a55b", func := "ephemerist/ephemeristlaw02.HandsSigns", spec := "handsSigns", inPlace := ["internal/bytealg.CountString", "internal/bytealg.IndexByteString", "internal/bytealg.IndexString"], unfollowed := true, recurses := true, named := ["unicode/utf8.first", "unicode/utf8.acceptRanges", "internal/bytealg.MaxLen", "internal/strconv.uint64pow10", "math/bits.deBruijn32tab", "math/bits.deBruijn64tab"], plainKeys := false, apart := false, laid := [("math/bits.deBruijn32tab", laid_math_bits_deBruijn32tab), ("math/bits.deBruijn64tab", laid_math_bits_deBruijn64tab), ("internal/strconv.uint64pow10", laid_internal_strconv_uint64pow10), ("unicode/utf8.acceptRanges", laid_unicode_utf8_acceptRanges), ("unicode/utf8.first", laid_unicode_utf8_first)], narrowed := true }
def HandsSignsUptoSaid : Prop := handsSignsUptoRow.holds Tryz.pinned (OpenSpec.upto handsSignsSpec)

/-- 'ephemeristlaw02.HandsAgrees', WHERE WHAT IT READS IS OF BULK AT MOST 1048576: true; the input reads as it did. -/
def handsAgreesUptoRow : OpenClaim := { program := "ytncmcnpjmdpnaaagreatdoor", sum := "0375adbd348ad9253ae0cce6648fccbaca2130bec730b7564d43edd993a9a55b", func := "ephemerist/ephemeristlaw02.HandsAgrees", spec := "handsAgrees", inPlace := ["internal/bytealg.CountString", "internal/bytealg.IndexByteString", "internal/bytealg.IndexString"], unfollowed := true, recurses := true, named := ["unicode/utf8.first", "unicode/utf8.acceptRanges", "internal/bytealg.MaxLen", "internal/strconv.uint64pow10", "math/bits.deBruijn32tab", "math/bits.deBruijn64tab"], plainKeys := false, apart := false, laid := [("math/bits.deBruijn32tab", laid_math_bits_deBruijn32tab), ("math/bits.deBruijn64tab", laid_math_bits_deBruijn64tab), ("internal/strconv.uint64pow10", laid_internal_strconv_uint64pow10), ("unicode/utf8.acceptRanges", laid_unicode_utf8_acceptRanges), ("unicode/utf8.first", laid_unicode_utf8_first)], narrowed := true }
def HandsAgreesUptoSaid : Prop := handsAgreesUptoRow.holds Tryz.pinned (OpenSpec.upto handsAgreesSpec)

/-- 'ephemeristlaw02.HandsPrints', WHERE WHAT IT READS IS OF BULK AT MOST 1048576: true; the input reads as it did. -/
def handsPrintsUptoRow : OpenClaim := { program := "ytncmcnpjmdpnaaagreatdoor", sum := "0375adbd348ad9253ae0cce6648fccbaca2130bec730b7564d43edd993a9a55b", func := "ephemerist/ephemeristlaw02.HandsPrints", spec := "handsPrints", inPlace := ["internal/bytealg.CountString", "internal/bytealg.IndexByteString", "internal/bytealg.IndexString"], unfollowed := true, recurses := true, named := ["unicode/utf8.first", "unicode/utf8.acceptRanges", "internal/bytealg.MaxLen", "internal/strconv.uint64pow10", "math/bits.deBruijn32tab", "math/bits.deBruijn64tab"], plainKeys := false, apart := false, laid := [("math/bits.deBruijn32tab", laid_math_bits_deBruijn32tab), ("math/bits.deBruijn64tab", laid_math_bits_deBruijn64tab), ("internal/strconv.uint64pow10", laid_internal_strconv_uint64pow10), ("unicode/utf8.acceptRanges", laid_unicode_utf8_acceptRanges), ("unicode/utf8.first", laid_unicode_utf8_first)], narrowed := true }
def HandsPrintsUptoSaid : Prop := handsPrintsUptoRow.holds Tryz.pinned (OpenSpec.upto handsPrintsSpec)

/-- 'ephemeristlaw02.HandsReads', WHERE WHAT IT READS IS OF BULK AT MOST 1048576: true; the input reads as it did. -/
def handsReadsUptoRow : OpenClaim := { program := "ytncmcnpjmdpnaaagreatdoor", sum := "0375adbd348ad9253ae0cce6648fccbaca2130bec730b7564d43edd993a9a55b", func := "ephemerist/ephemeristlaw02.HandsReads", spec := "handsReads", inPlace := ["internal/bytealg.CountString", "internal/bytealg.IndexByteString", "internal/bytealg.IndexString"], unfollowed := true, recurses := true, named := ["unicode/utf8.first", "unicode/utf8.acceptRanges", "internal/bytealg.MaxLen", "internal/strconv.uint64pow10", "math/bits.deBruijn32tab", "math/bits.deBruijn64tab"], plainKeys := false, apart := false, laid := [("math/bits.deBruijn32tab", laid_math_bits_deBruijn32tab), ("math/bits.deBruijn64tab", laid_math_bits_deBruijn64tab), ("internal/strconv.uint64pow10", laid_internal_strconv_uint64pow10), ("unicode/utf8.acceptRanges", laid_unicode_utf8_acceptRanges), ("unicode/utf8.first", laid_unicode_utf8_first)], narrowed := true }
def HandsReadsUptoSaid : Prop := handsReadsUptoRow.holds Tryz.pinned (OpenSpec.upto handsReadsSpec)

/-- 'ephemeristlaw02.HandsSpoilt', WHERE WHAT IT READS IS OF BULK AT MOST 1048576: true; the input reads as it did. -/
def handsSpoiltUptoRow : OpenClaim := { program := "ytncmcnpjmdpnaaagreatdoor", sum := "0375adbd348ad9253ae0cce6648fccbaca2130bec730b7564d43edd993a9a55b", func := "ephemerist/ephemeristlaw02.HandsSpoilt", spec := "handsSpoilt", inPlace := ["internal/bytealg.CountString", "internal/bytealg.IndexByteString", "internal/bytealg.IndexString"], unfollowed := true, recurses := true, named := ["unicode/utf8.first", "unicode/utf8.acceptRanges", "internal/bytealg.MaxLen", "internal/strconv.uint64pow10", "math/bits.deBruijn32tab", "math/bits.deBruijn64tab"], plainKeys := false, apart := false, laid := [("math/bits.deBruijn32tab", laid_math_bits_deBruijn32tab), ("math/bits.deBruijn64tab", laid_math_bits_deBruijn64tab), ("internal/strconv.uint64pow10", laid_internal_strconv_uint64pow10), ("unicode/utf8.acceptRanges", laid_unicode_utf8_acceptRanges), ("unicode/utf8.first", laid_unicode_utf8_first)], narrowed := true }
def HandsSpoiltUptoSaid : Prop := handsSpoiltUptoRow.holds Tryz.pinned (OpenSpec.upto handsSpoiltSpec)

end Rows
end Go.Proofs.YtncmcnpjmdpnaaaGreatDoor
