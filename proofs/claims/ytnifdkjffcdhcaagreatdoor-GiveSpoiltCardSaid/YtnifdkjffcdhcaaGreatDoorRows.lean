/-
  NARROWER THAN 'FOR EVERY INPUT', by the rows' own cells (each row's printed sentence says how): GiveParts: laid · GiveBacks: laid · GiveTrue: laid · GiveTables: laid · GiveProved: laid · GiveIdles: laid · GiveLate: laid · GiveFirsts: laid · GiveRival: laid · GiveWhos: laid · GiveSooner: laid · GiveMores: laid · GiveHelp: laid · GiveMore: laid · GiveWhys: laid · GivePrints: laid · GiveReads: laid · GiveSpoilt: laid.
  DERIVED. THE GIVEN ROWS OF THIS SEAT. 18 by the template 'for every input the law returns true; each argument reads behind the call as it read before'; 0 by the template 'total and deterministic' (their statements: YtnifdkjffcdhcaaGreatDoorTotals.lean).
  GIVEN WITH THE SEED: the statements are not yours to turn. If you find one false, say at which input.
  Laid BY PROGRAM, IN A SANDBOX (cutbox-rows.mjs): the forced cells as the released guide's own fill.sh prints them over the translation 9f6f90d071d34ba8… (all of the seat's roots in one cut). By AI agents, Wed Nov 11 2026. No macro, syntax, notation, axiom, sorry.
-/
import Derived.Test.YtnifdkjffcdhcaaGreatDoorChecked
import GoSem.PinnedTables
import GoSem.Claim
import GoSem.ClaimJoined
import GoSem.ClaimMapViews
import Derived.JoinedTies
import Derived.KernelRfl
namespace Go.Proofs.YtnifdkjffcdhcaaGreatDoor
/- THE CELL 'sum', in the pinned program and in every row, IS THE sha256 OF THE DUMP (.gsa) THAT YtnifdkjffcdhcaaGreatDoorProg.lean LOADS. Nothing in Lean hashes anything: it is a label: what it is worth is what the hold of that sum in a sandbox is worth. -/
noncomputable def Tryz.pinned : Pinned := { name := "ytnifdkjffcdhcaagreatdoor", sum := "9f6f90d071d34ba89eb95095e39d549289a83740d5bf76a7f0729f76075fee39", checked := Tryz.checked }
namespace Rows
def none {H : Type} : Left H := { results := [], args := [] }

/- WHAT THE LISTED PACKAGE-LEVEL VARIABLES READ AS WHEN THE CALL BEGINS. Each datum BY PROGRAM (the guide's laid-datum.mjs) off the statement by which the dump's own 'gosem.cut.vars' lays the variable. In a bare row this is a premise. The card (YtnifdkjffcdhcaaGreatDoorCards.lean) ties it to the program's text. -/
def laid_math_bits_deBruijn32tab {H : Type} : DataW H := .agg [.lit (.int .u8 0), .lit (.int .u8 1), .lit (.int .u8 28), .lit (.int .u8 2), .lit (.int .u8 29), .lit (.int .u8 14), .lit (.int .u8 24), .lit (.int .u8 3), .lit (.int .u8 30), .lit (.int .u8 22), .lit (.int .u8 20), .lit (.int .u8 15), .lit (.int .u8 25), .lit (.int .u8 17), .lit (.int .u8 4), .lit (.int .u8 8), .lit (.int .u8 31), .lit (.int .u8 27), .lit (.int .u8 13), .lit (.int .u8 23), .lit (.int .u8 21), .lit (.int .u8 19), .lit (.int .u8 16), .lit (.int .u8 7), .lit (.int .u8 26), .lit (.int .u8 12), .lit (.int .u8 18), .lit (.int .u8 6), .lit (.int .u8 11), .lit (.int .u8 5), .lit (.int .u8 10), .lit (.int .u8 9)]
def laid_math_bits_deBruijn64tab {H : Type} : DataW H := .agg [.lit (.int .u8 0), .lit (.int .u8 1), .lit (.int .u8 56), .lit (.int .u8 2), .lit (.int .u8 57), .lit (.int .u8 49), .lit (.int .u8 28), .lit (.int .u8 3), .lit (.int .u8 61), .lit (.int .u8 58), .lit (.int .u8 42), .lit (.int .u8 50), .lit (.int .u8 38), .lit (.int .u8 29), .lit (.int .u8 17), .lit (.int .u8 4), .lit (.int .u8 62), .lit (.int .u8 47), .lit (.int .u8 59), .lit (.int .u8 36), .lit (.int .u8 45), .lit (.int .u8 43), .lit (.int .u8 51), .lit (.int .u8 22), .lit (.int .u8 53), .lit (.int .u8 39), .lit (.int .u8 33), .lit (.int .u8 30), .lit (.int .u8 24), .lit (.int .u8 18), .lit (.int .u8 12), .lit (.int .u8 5), .lit (.int .u8 63), .lit (.int .u8 55), .lit (.int .u8 48), .lit (.int .u8 27), .lit (.int .u8 60), .lit (.int .u8 41), .lit (.int .u8 37), .lit (.int .u8 16), .lit (.int .u8 46), .lit (.int .u8 35), .lit (.int .u8 44), .lit (.int .u8 21), .lit (.int .u8 52), .lit (.int .u8 32), .lit (.int .u8 23), .lit (.int .u8 11), .lit (.int .u8 54), .lit (.int .u8 26), .lit (.int .u8 40), .lit (.int .u8 15), .lit (.int .u8 34), .lit (.int .u8 20), .lit (.int .u8 31), .lit (.int .u8 10), .lit (.int .u8 25), .lit (.int .u8 14), .lit (.int .u8 19), .lit (.int .u8 9), .lit (.int .u8 13), .lit (.int .u8 8), .lit (.int .u8 7), .lit (.int .u8 6)]
def laid_internal_strconv_uint64pow10 {H : Type} : DataW H := .agg [.lit (.int .u64 1), .lit (.int .u64 10), .lit (.int .u64 100), .lit (.int .u64 1000), .lit (.int .u64 10000), .lit (.int .u64 100000), .lit (.int .u64 1000000), .lit (.int .u64 10000000), .lit (.int .u64 100000000), .lit (.int .u64 1000000000), .lit (.int .u64 10000000000), .lit (.int .u64 100000000000), .lit (.int .u64 1000000000000), .lit (.int .u64 10000000000000), .lit (.int .u64 100000000000000), .lit (.int .u64 1000000000000000), .lit (.int .u64 10000000000000000), .lit (.int .u64 100000000000000000), .lit (.int .u64 1000000000000000000), .lit (.int .u64 10000000000000000000)]
def laid_unicode_utf8_acceptRanges {H : Type} : DataW H := .agg [.agg [.lit (.int .u8 128), .lit (.int .u8 191)], .agg [.lit (.int .u8 160), .lit (.int .u8 191)], .agg [.lit (.int .u8 128), .lit (.int .u8 159)], .agg [.lit (.int .u8 144), .lit (.int .u8 191)], .agg [.lit (.int .u8 128), .lit (.int .u8 143)], .agg [.lit (.int .u8 0), .lit (.int .u8 0)], .agg [.lit (.int .u8 0), .lit (.int .u8 0)], .agg [.lit (.int .u8 0), .lit (.int .u8 0)], .agg [.lit (.int .u8 0), .lit (.int .u8 0)], .agg [.lit (.int .u8 0), .lit (.int .u8 0)], .agg [.lit (.int .u8 0), .lit (.int .u8 0)], .agg [.lit (.int .u8 0), .lit (.int .u8 0)], .agg [.lit (.int .u8 0), .lit (.int .u8 0)], .agg [.lit (.int .u8 0), .lit (.int .u8 0)], .agg [.lit (.int .u8 0), .lit (.int .u8 0)], .agg [.lit (.int .u8 0), .lit (.int .u8 0)]]
/-- One of Go's own tables, pinned by name: the form's constant. -/
def laid_unicode_utf8_first : DataW Unit := Go.Pinned.utf8First

/-- 'ephemeristlaw06.GiveParts': WHATEVER THE INPUT: true; the input reads as it did. -/
def givePartsSpec : ChangeSpec := { name := "giveParts", fn := fun _ => fun
  | [d1, d2] => { results := [.lit (.bool true)], args := [d1, d2] }
  | _ => none }
def givePartsRow : OpenClaim := { program := "ytnifdkjffcdhcaagreatdoor", sum := "9f6f90d071d34ba89eb95095e39d549289a83740d5bf76a7f0729f76075fee39", func := "ephemerist/ephemeristlaw06.GiveParts", spec := "giveParts", inPlace := ["internal/bytealg.CountString", "internal/bytealg.IndexByteString", "internal/bytealg.IndexString"], unfollowed := true, recurses := true, named := ["unicode/utf8.first", "unicode/utf8.acceptRanges", "internal/bytealg.MaxLen", "internal/strconv.uint64pow10", "math/bits.deBruijn32tab", "math/bits.deBruijn64tab"], apart := false, laid := [("math/bits.deBruijn32tab", laid_math_bits_deBruijn32tab), ("math/bits.deBruijn64tab", laid_math_bits_deBruijn64tab), ("internal/strconv.uint64pow10", laid_internal_strconv_uint64pow10), ("unicode/utf8.acceptRanges", laid_unicode_utf8_acceptRanges), ("unicode/utf8.first", laid_unicode_utf8_first)] }
def GivePartsSaid : Prop := givePartsRow.holds Tryz.pinned (OpenSpec.ofChange givePartsSpec)

/-- ITS FALSE NEIGHBOUR: 'it returns false'. Refute it at one input. -/
def givePartsWrong : ChangeSpec := { name := "giveParts", fn := fun _ => fun
  | [d1, d2] => { results := [.lit (.bool false)], args := [d1, d2] }
  | _ => none }
def GivePartsWrongFalsely : Prop := givePartsRow.holds Tryz.pinned (OpenSpec.ofChange givePartsWrong)

/-- 'ephemeristlaw06.GiveBacks': WHATEVER THE INPUT: true; the input reads as it did. -/
def giveBacksSpec : ChangeSpec := { name := "giveBacks", fn := fun _ => fun
  | [d1, d2, d3] => { results := [.lit (.bool true)], args := [d1, d2, d3] }
  | _ => none }
def giveBacksRow : OpenClaim := { program := "ytnifdkjffcdhcaagreatdoor", sum := "9f6f90d071d34ba89eb95095e39d549289a83740d5bf76a7f0729f76075fee39", func := "ephemerist/ephemeristlaw06.GiveBacks", spec := "giveBacks", inPlace := ["internal/bytealg.CountString", "internal/bytealg.IndexByteString", "internal/bytealg.IndexString"], unfollowed := true, recurses := true, named := ["unicode/utf8.first", "unicode/utf8.acceptRanges", "internal/bytealg.MaxLen", "internal/strconv.uint64pow10", "math/bits.deBruijn32tab", "math/bits.deBruijn64tab"], apart := false, laid := [("math/bits.deBruijn32tab", laid_math_bits_deBruijn32tab), ("math/bits.deBruijn64tab", laid_math_bits_deBruijn64tab), ("internal/strconv.uint64pow10", laid_internal_strconv_uint64pow10), ("unicode/utf8.acceptRanges", laid_unicode_utf8_acceptRanges), ("unicode/utf8.first", laid_unicode_utf8_first)] }
def GiveBacksSaid : Prop := giveBacksRow.holds Tryz.pinned (OpenSpec.ofChange giveBacksSpec)

/-- ITS FALSE NEIGHBOUR: 'it returns false'. Refute it at one input. -/
def giveBacksWrong : ChangeSpec := { name := "giveBacks", fn := fun _ => fun
  | [d1, d2, d3] => { results := [.lit (.bool false)], args := [d1, d2, d3] }
  | _ => none }
def GiveBacksWrongFalsely : Prop := giveBacksRow.holds Tryz.pinned (OpenSpec.ofChange giveBacksWrong)

/-- 'ephemeristlaw06.GiveTrue': WHATEVER THE INPUT: true; the input reads as it did. -/
def giveTrueSpec : ChangeSpec := { name := "giveTrue", fn := fun _ => fun
  | [d1, d2, d3, d4] => { results := [.lit (.bool true)], args := [d1, d2, d3, d4] }
  | _ => none }
def giveTrueRow : OpenClaim := { program := "ytnifdkjffcdhcaagreatdoor", sum := "9f6f90d071d34ba89eb95095e39d549289a83740d5bf76a7f0729f76075fee39", func := "ephemerist/ephemeristlaw06.GiveTrue", spec := "giveTrue", inPlace := ["internal/bytealg.CountString", "internal/bytealg.IndexByteString", "internal/bytealg.IndexString"], unfollowed := true, recurses := true, named := ["unicode/utf8.first", "unicode/utf8.acceptRanges", "internal/bytealg.MaxLen", "internal/strconv.uint64pow10", "math/bits.deBruijn32tab", "math/bits.deBruijn64tab"], apart := false, laid := [("math/bits.deBruijn32tab", laid_math_bits_deBruijn32tab), ("math/bits.deBruijn64tab", laid_math_bits_deBruijn64tab), ("internal/strconv.uint64pow10", laid_internal_strconv_uint64pow10), ("unicode/utf8.acceptRanges", laid_unicode_utf8_acceptRanges), ("unicode/utf8.first", laid_unicode_utf8_first)] }
def GiveTrueSaid : Prop := giveTrueRow.holds Tryz.pinned (OpenSpec.ofChange giveTrueSpec)

/-- ITS FALSE NEIGHBOUR: 'it returns false'. Refute it at one input. -/
def giveTrueWrong : ChangeSpec := { name := "giveTrue", fn := fun _ => fun
  | [d1, d2, d3, d4] => { results := [.lit (.bool false)], args := [d1, d2, d3, d4] }
  | _ => none }
def GiveTrueWrongFalsely : Prop := giveTrueRow.holds Tryz.pinned (OpenSpec.ofChange giveTrueWrong)

/-- 'ephemeristlaw06.GiveTables': WHATEVER THE INPUT: true; the input reads as it did. -/
def giveTablesSpec : ChangeSpec := { name := "giveTables", fn := fun _ => fun
  | [d1, d2] => { results := [.lit (.bool true)], args := [d1, d2] }
  | _ => none }
def giveTablesRow : OpenClaim := { program := "ytnifdkjffcdhcaagreatdoor", sum := "9f6f90d071d34ba89eb95095e39d549289a83740d5bf76a7f0729f76075fee39", func := "ephemerist/ephemeristlaw06.GiveTables", spec := "giveTables", inPlace := ["internal/bytealg.CountString", "internal/bytealg.IndexByteString", "internal/bytealg.IndexString"], unfollowed := true, recurses := true, named := ["unicode/utf8.first", "unicode/utf8.acceptRanges", "internal/bytealg.MaxLen", "internal/strconv.uint64pow10", "math/bits.deBruijn32tab", "math/bits.deBruijn64tab"], apart := false, laid := [("math/bits.deBruijn32tab", laid_math_bits_deBruijn32tab), ("math/bits.deBruijn64tab", laid_math_bits_deBruijn64tab), ("internal/strconv.uint64pow10", laid_internal_strconv_uint64pow10), ("unicode/utf8.acceptRanges", laid_unicode_utf8_acceptRanges), ("unicode/utf8.first", laid_unicode_utf8_first)] }
def GiveTablesSaid : Prop := giveTablesRow.holds Tryz.pinned (OpenSpec.ofChange giveTablesSpec)

/-- ITS FALSE NEIGHBOUR: 'it returns false'. Refute it at one input. -/
def giveTablesWrong : ChangeSpec := { name := "giveTables", fn := fun _ => fun
  | [d1, d2] => { results := [.lit (.bool false)], args := [d1, d2] }
  | _ => none }
def GiveTablesWrongFalsely : Prop := giveTablesRow.holds Tryz.pinned (OpenSpec.ofChange giveTablesWrong)

/-- 'ephemeristlaw06.GiveProved': WHATEVER THE INPUT: true; the input reads as it did. -/
def giveProvedSpec : ChangeSpec := { name := "giveProved", fn := fun _ => fun
  | [d1, d2, d3, d4] => { results := [.lit (.bool true)], args := [d1, d2, d3, d4] }
  | _ => none }
def giveProvedRow : OpenClaim := { program := "ytnifdkjffcdhcaagreatdoor", sum := "9f6f90d071d34ba89eb95095e39d549289a83740d5bf76a7f0729f76075fee39", func := "ephemerist/ephemeristlaw06.GiveProved", spec := "giveProved", inPlace := ["internal/bytealg.CountString", "internal/bytealg.IndexByteString", "internal/bytealg.IndexString"], unfollowed := true, recurses := true, named := ["unicode/utf8.first", "unicode/utf8.acceptRanges", "internal/bytealg.MaxLen", "internal/strconv.uint64pow10", "math/bits.deBruijn32tab", "math/bits.deBruijn64tab"], apart := false, laid := [("math/bits.deBruijn32tab", laid_math_bits_deBruijn32tab), ("math/bits.deBruijn64tab", laid_math_bits_deBruijn64tab), ("internal/strconv.uint64pow10", laid_internal_strconv_uint64pow10), ("unicode/utf8.acceptRanges", laid_unicode_utf8_acceptRanges), ("unicode/utf8.first", laid_unicode_utf8_first)] }
def GiveProvedSaid : Prop := giveProvedRow.holds Tryz.pinned (OpenSpec.ofChange giveProvedSpec)

/-- ITS FALSE NEIGHBOUR: 'it returns false'. Refute it at one input. -/
def giveProvedWrong : ChangeSpec := { name := "giveProved", fn := fun _ => fun
  | [d1, d2, d3, d4] => { results := [.lit (.bool false)], args := [d1, d2, d3, d4] }
  | _ => none }
def GiveProvedWrongFalsely : Prop := giveProvedRow.holds Tryz.pinned (OpenSpec.ofChange giveProvedWrong)

/-- 'ephemeristlaw06.GiveIdles': WHATEVER THE INPUT: true; the input reads as it did. -/
def giveIdlesSpec : ChangeSpec := { name := "giveIdles", fn := fun _ => fun
  | [d1, d2, d3, d4] => { results := [.lit (.bool true)], args := [d1, d2, d3, d4] }
  | _ => none }
def giveIdlesRow : OpenClaim := { program := "ytnifdkjffcdhcaagreatdoor", sum := "9f6f90d071d34ba89eb95095e39d549289a83740d5bf76a7f0729f76075fee39", func := "ephemerist/ephemeristlaw06.GiveIdles", spec := "giveIdles", inPlace := ["internal/bytealg.CountString", "internal/bytealg.IndexByteString", "internal/bytealg.IndexString"], unfollowed := true, recurses := true, named := ["unicode/utf8.first", "unicode/utf8.acceptRanges", "internal/bytealg.MaxLen", "internal/strconv.uint64pow10", "math/bits.deBruijn32tab", "math/bits.deBruijn64tab"], apart := false, laid := [("math/bits.deBruijn32tab", laid_math_bits_deBruijn32tab), ("math/bits.deBruijn64tab", laid_math_bits_deBruijn64tab), ("internal/strconv.uint64pow10", laid_internal_strconv_uint64pow10), ("unicode/utf8.acceptRanges", laid_unicode_utf8_acceptRanges), ("unicode/utf8.first", laid_unicode_utf8_first)] }
def GiveIdlesSaid : Prop := giveIdlesRow.holds Tryz.pinned (OpenSpec.ofChange giveIdlesSpec)

/-- ITS FALSE NEIGHBOUR: 'it returns false'. Refute it at one input. -/
def giveIdlesWrong : ChangeSpec := { name := "giveIdles", fn := fun _ => fun
  | [d1, d2, d3, d4] => { results := [.lit (.bool false)], args := [d1, d2, d3, d4] }
  | _ => none }
def GiveIdlesWrongFalsely : Prop := giveIdlesRow.holds Tryz.pinned (OpenSpec.ofChange giveIdlesWrong)

/-- 'ephemeristlaw06.GiveLate': WHATEVER THE INPUT: true; the input reads as it did. -/
def giveLateSpec : ChangeSpec := { name := "giveLate", fn := fun _ => fun
  | [d1, d2, d3, d4, d5] => { results := [.lit (.bool true)], args := [d1, d2, d3, d4, d5] }
  | _ => none }
def giveLateRow : OpenClaim := { program := "ytnifdkjffcdhcaagreatdoor", sum := "9f6f90d071d34ba89eb95095e39d549289a83740d5bf76a7f0729f76075fee39", func := "ephemerist/ephemeristlaw06.GiveLate", spec := "giveLate", inPlace := ["internal/bytealg.CountString", "internal/bytealg.IndexByteString", "internal/bytealg.IndexString"], unfollowed := true, recurses := true, named := ["unicode/utf8.first", "unicode/utf8.acceptRanges", "internal/bytealg.MaxLen", "internal/strconv.uint64pow10", "math/bits.deBruijn32tab", "math/bits.deBruijn64tab"], apart := false, laid := [("math/bits.deBruijn32tab", laid_math_bits_deBruijn32tab), ("math/bits.deBruijn64tab", laid_math_bits_deBruijn64tab), ("internal/strconv.uint64pow10", laid_internal_strconv_uint64pow10), ("unicode/utf8.acceptRanges", laid_unicode_utf8_acceptRanges), ("unicode/utf8.first", laid_unicode_utf8_first)] }
def GiveLateSaid : Prop := giveLateRow.holds Tryz.pinned (OpenSpec.ofChange giveLateSpec)

/-- ITS FALSE NEIGHBOUR: 'it returns false'. Refute it at one input. -/
def giveLateWrong : ChangeSpec := { name := "giveLate", fn := fun _ => fun
  | [d1, d2, d3, d4, d5] => { results := [.lit (.bool false)], args := [d1, d2, d3, d4, d5] }
  | _ => none }
def GiveLateWrongFalsely : Prop := giveLateRow.holds Tryz.pinned (OpenSpec.ofChange giveLateWrong)

/-- 'ephemeristlaw06.GiveFirsts': WHATEVER THE INPUT: true; the input reads as it did. -/
def giveFirstsSpec : ChangeSpec := { name := "giveFirsts", fn := fun _ => fun
  | [d] => { results := [.lit (.bool true)], args := [d] }
  | _ => none }
def giveFirstsRow : OpenClaim := { program := "ytnifdkjffcdhcaagreatdoor", sum := "9f6f90d071d34ba89eb95095e39d549289a83740d5bf76a7f0729f76075fee39", func := "ephemerist/ephemeristlaw06.GiveFirsts", spec := "giveFirsts", inPlace := ["internal/bytealg.CountString", "internal/bytealg.IndexByteString", "internal/bytealg.IndexString"], unfollowed := true, recurses := true, named := ["unicode/utf8.first", "unicode/utf8.acceptRanges", "internal/bytealg.MaxLen", "internal/strconv.uint64pow10", "math/bits.deBruijn32tab", "math/bits.deBruijn64tab"], apart := false, laid := [("math/bits.deBruijn32tab", laid_math_bits_deBruijn32tab), ("math/bits.deBruijn64tab", laid_math_bits_deBruijn64tab), ("internal/strconv.uint64pow10", laid_internal_strconv_uint64pow10), ("unicode/utf8.acceptRanges", laid_unicode_utf8_acceptRanges), ("unicode/utf8.first", laid_unicode_utf8_first)] }
def GiveFirstsSaid : Prop := giveFirstsRow.holds Tryz.pinned (OpenSpec.ofChange giveFirstsSpec)

/-- ITS FALSE NEIGHBOUR: 'it returns false'. Refute it at one input. -/
def giveFirstsWrong : ChangeSpec := { name := "giveFirsts", fn := fun _ => fun
  | [d] => { results := [.lit (.bool false)], args := [d] }
  | _ => none }
def GiveFirstsWrongFalsely : Prop := giveFirstsRow.holds Tryz.pinned (OpenSpec.ofChange giveFirstsWrong)

/-- 'ephemeristlaw06.GiveRival': WHATEVER THE INPUT: true; the input reads as it did. -/
def giveRivalSpec : ChangeSpec := { name := "giveRival", fn := fun _ => fun
  | [d1, d2, d3] => { results := [.lit (.bool true)], args := [d1, d2, d3] }
  | _ => none }
def giveRivalRow : OpenClaim := { program := "ytnifdkjffcdhcaagreatdoor", sum := "9f6f90d071d34ba89eb95095e39d549289a83740d5bf76a7f0729f76075fee39", func := "ephemerist/ephemeristlaw06.GiveRival", spec := "giveRival", inPlace := ["internal/bytealg.CountString", "internal/bytealg.IndexByteString", "internal/bytealg.IndexString"], unfollowed := true, recurses := true, named := ["unicode/utf8.first", "unicode/utf8.acceptRanges", "internal/bytealg.MaxLen", "internal/strconv.uint64pow10", "math/bits.deBruijn32tab", "math/bits.deBruijn64tab"], apart := false, laid := [("math/bits.deBruijn32tab", laid_math_bits_deBruijn32tab), ("math/bits.deBruijn64tab", laid_math_bits_deBruijn64tab), ("internal/strconv.uint64pow10", laid_internal_strconv_uint64pow10), ("unicode/utf8.acceptRanges", laid_unicode_utf8_acceptRanges), ("unicode/utf8.first", laid_unicode_utf8_first)] }
def GiveRivalSaid : Prop := giveRivalRow.holds Tryz.pinned (OpenSpec.ofChange giveRivalSpec)

/-- ITS FALSE NEIGHBOUR: 'it returns false'. Refute it at one input. -/
def giveRivalWrong : ChangeSpec := { name := "giveRival", fn := fun _ => fun
  | [d1, d2, d3] => { results := [.lit (.bool false)], args := [d1, d2, d3] }
  | _ => none }
def GiveRivalWrongFalsely : Prop := giveRivalRow.holds Tryz.pinned (OpenSpec.ofChange giveRivalWrong)

/-- 'ephemeristlaw06.GiveWhos': WHATEVER THE INPUT: true; the input reads as it did. -/
def giveWhosSpec : ChangeSpec := { name := "giveWhos", fn := fun _ => fun
  | [d1, d2] => { results := [.lit (.bool true)], args := [d1, d2] }
  | _ => none }
def giveWhosRow : OpenClaim := { program := "ytnifdkjffcdhcaagreatdoor", sum := "9f6f90d071d34ba89eb95095e39d549289a83740d5bf76a7f0729f76075fee39", func := "ephemerist/ephemeristlaw06.GiveWhos", spec := "giveWhos", inPlace := ["internal/bytealg.CountString", "internal/bytealg.IndexByteString", "internal/bytealg.IndexString"], unfollowed := true, recurses := true, named := ["unicode/utf8.first", "unicode/utf8.acceptRanges", "internal/bytealg.MaxLen", "internal/strconv.uint64pow10", "math/bits.deBruijn32tab", "math/bits.deBruijn64tab"], apart := false, laid := [("math/bits.deBruijn32tab", laid_math_bits_deBruijn32tab), ("math/bits.deBruijn64tab", laid_math_bits_deBruijn64tab), ("internal/strconv.uint64pow10", laid_internal_strconv_uint64pow10), ("unicode/utf8.acceptRanges", laid_unicode_utf8_acceptRanges), ("unicode/utf8.first", laid_unicode_utf8_first)] }
def GiveWhosSaid : Prop := giveWhosRow.holds Tryz.pinned (OpenSpec.ofChange giveWhosSpec)

/-- ITS FALSE NEIGHBOUR: 'it returns false'. Refute it at one input. -/
def giveWhosWrong : ChangeSpec := { name := "giveWhos", fn := fun _ => fun
  | [d1, d2] => { results := [.lit (.bool false)], args := [d1, d2] }
  | _ => none }
def GiveWhosWrongFalsely : Prop := giveWhosRow.holds Tryz.pinned (OpenSpec.ofChange giveWhosWrong)

/-- 'ephemeristlaw06.GiveSooner': WHATEVER THE INPUT: true; the input reads as it did. -/
def giveSoonerSpec : ChangeSpec := { name := "giveSooner", fn := fun _ => fun
  | [d1, d2] => { results := [.lit (.bool true)], args := [d1, d2] }
  | _ => none }
def giveSoonerRow : OpenClaim := { program := "ytnifdkjffcdhcaagreatdoor", sum := "9f6f90d071d34ba89eb95095e39d549289a83740d5bf76a7f0729f76075fee39", func := "ephemerist/ephemeristlaw06.GiveSooner", spec := "giveSooner", inPlace := ["internal/bytealg.CountString", "internal/bytealg.IndexByteString", "internal/bytealg.IndexString"], unfollowed := true, recurses := true, named := ["unicode/utf8.first", "unicode/utf8.acceptRanges", "internal/bytealg.MaxLen", "internal/strconv.uint64pow10", "math/bits.deBruijn32tab", "math/bits.deBruijn64tab"], apart := false, laid := [("math/bits.deBruijn32tab", laid_math_bits_deBruijn32tab), ("math/bits.deBruijn64tab", laid_math_bits_deBruijn64tab), ("internal/strconv.uint64pow10", laid_internal_strconv_uint64pow10), ("unicode/utf8.acceptRanges", laid_unicode_utf8_acceptRanges), ("unicode/utf8.first", laid_unicode_utf8_first)] }
def GiveSoonerSaid : Prop := giveSoonerRow.holds Tryz.pinned (OpenSpec.ofChange giveSoonerSpec)

/-- ITS FALSE NEIGHBOUR: 'it returns false'. Refute it at one input. -/
def giveSoonerWrong : ChangeSpec := { name := "giveSooner", fn := fun _ => fun
  | [d1, d2] => { results := [.lit (.bool false)], args := [d1, d2] }
  | _ => none }
def GiveSoonerWrongFalsely : Prop := giveSoonerRow.holds Tryz.pinned (OpenSpec.ofChange giveSoonerWrong)

/-- 'ephemeristlaw06.GiveMores': WHATEVER THE INPUT: true; the input reads as it did. -/
def giveMoresSpec : ChangeSpec := { name := "giveMores", fn := fun _ => fun
  | [d1, d2] => { results := [.lit (.bool true)], args := [d1, d2] }
  | _ => none }
def giveMoresRow : OpenClaim := { program := "ytnifdkjffcdhcaagreatdoor", sum := "9f6f90d071d34ba89eb95095e39d549289a83740d5bf76a7f0729f76075fee39", func := "ephemerist/ephemeristlaw06.GiveMores", spec := "giveMores", inPlace := ["internal/bytealg.CountString", "internal/bytealg.IndexByteString", "internal/bytealg.IndexString"], unfollowed := true, recurses := true, named := ["unicode/utf8.first", "unicode/utf8.acceptRanges", "internal/bytealg.MaxLen", "internal/strconv.uint64pow10", "math/bits.deBruijn32tab", "math/bits.deBruijn64tab"], apart := false, laid := [("math/bits.deBruijn32tab", laid_math_bits_deBruijn32tab), ("math/bits.deBruijn64tab", laid_math_bits_deBruijn64tab), ("internal/strconv.uint64pow10", laid_internal_strconv_uint64pow10), ("unicode/utf8.acceptRanges", laid_unicode_utf8_acceptRanges), ("unicode/utf8.first", laid_unicode_utf8_first)] }
def GiveMoresSaid : Prop := giveMoresRow.holds Tryz.pinned (OpenSpec.ofChange giveMoresSpec)

/-- ITS FALSE NEIGHBOUR: 'it returns false'. Refute it at one input. -/
def giveMoresWrong : ChangeSpec := { name := "giveMores", fn := fun _ => fun
  | [d1, d2] => { results := [.lit (.bool false)], args := [d1, d2] }
  | _ => none }
def GiveMoresWrongFalsely : Prop := giveMoresRow.holds Tryz.pinned (OpenSpec.ofChange giveMoresWrong)

/-- 'ephemeristlaw06.GiveHelp': WHATEVER THE INPUT: true; the input reads as it did. -/
def giveHelpSpec : ChangeSpec := { name := "giveHelp", fn := fun _ => fun
  | [d1, d2, d3] => { results := [.lit (.bool true)], args := [d1, d2, d3] }
  | _ => none }
def giveHelpRow : OpenClaim := { program := "ytnifdkjffcdhcaagreatdoor", sum := "9f6f90d071d34ba89eb95095e39d549289a83740d5bf76a7f0729f76075fee39", func := "ephemerist/ephemeristlaw06.GiveHelp", spec := "giveHelp", inPlace := ["internal/bytealg.CountString", "internal/bytealg.IndexByteString", "internal/bytealg.IndexString"], unfollowed := true, recurses := true, named := ["unicode/utf8.first", "unicode/utf8.acceptRanges", "internal/bytealg.MaxLen", "internal/strconv.uint64pow10", "math/bits.deBruijn32tab", "math/bits.deBruijn64tab"], apart := false, laid := [("math/bits.deBruijn32tab", laid_math_bits_deBruijn32tab), ("math/bits.deBruijn64tab", laid_math_bits_deBruijn64tab), ("internal/strconv.uint64pow10", laid_internal_strconv_uint64pow10), ("unicode/utf8.acceptRanges", laid_unicode_utf8_acceptRanges), ("unicode/utf8.first", laid_unicode_utf8_first)] }
def GiveHelpSaid : Prop := giveHelpRow.holds Tryz.pinned (OpenSpec.ofChange giveHelpSpec)

/-- ITS FALSE NEIGHBOUR: 'it returns false'. Refute it at one input. -/
def giveHelpWrong : ChangeSpec := { name := "giveHelp", fn := fun _ => fun
  | [d1, d2, d3] => { results := [.lit (.bool false)], args := [d1, d2, d3] }
  | _ => none }
def GiveHelpWrongFalsely : Prop := giveHelpRow.holds Tryz.pinned (OpenSpec.ofChange giveHelpWrong)

/-- 'ephemeristlaw06.GiveMore': WHATEVER THE INPUT: true; the input reads as it did. -/
def giveMoreSpec : ChangeSpec := { name := "giveMore", fn := fun _ => fun
  | [d1, d2, d3, d4, d5, d6, d7] => { results := [.lit (.bool true)], args := [d1, d2, d3, d4, d5, d6, d7] }
  | _ => none }
def giveMoreRow : OpenClaim := { program := "ytnifdkjffcdhcaagreatdoor", sum := "9f6f90d071d34ba89eb95095e39d549289a83740d5bf76a7f0729f76075fee39", func := "ephemerist/ephemeristlaw06.GiveMore", spec := "giveMore", inPlace := ["internal/bytealg.CountString", "internal/bytealg.IndexByteString", "internal/bytealg.IndexString"], unfollowed := true, recurses := true, named := ["unicode/utf8.first", "unicode/utf8.acceptRanges", "internal/bytealg.MaxLen", "internal/strconv.uint64pow10", "math/bits.deBruijn32tab", "math/bits.deBruijn64tab"], apart := false, laid := [("math/bits.deBruijn32tab", laid_math_bits_deBruijn32tab), ("math/bits.deBruijn64tab", laid_math_bits_deBruijn64tab), ("internal/strconv.uint64pow10", laid_internal_strconv_uint64pow10), ("unicode/utf8.acceptRanges", laid_unicode_utf8_acceptRanges), ("unicode/utf8.first", laid_unicode_utf8_first)] }
def GiveMoreSaid : Prop := giveMoreRow.holds Tryz.pinned (OpenSpec.ofChange giveMoreSpec)

/-- ITS FALSE NEIGHBOUR: 'it returns false'. Refute it at one input. -/
def giveMoreWrong : ChangeSpec := { name := "giveMore", fn := fun _ => fun
  | [d1, d2, d3, d4, d5, d6, d7] => { results := [.lit (.bool false)], args := [d1, d2, d3, d4, d5, d6, d7] }
  | _ => none }
def GiveMoreWrongFalsely : Prop := giveMoreRow.holds Tryz.pinned (OpenSpec.ofChange giveMoreWrong)

/-- 'ephemeristlaw06.GiveWhys': WHATEVER THE INPUT: true; the input reads as it did. -/
def giveWhysSpec : ChangeSpec := { name := "giveWhys", fn := fun _ => fun
  | [d1, d2] => { results := [.lit (.bool true)], args := [d1, d2] }
  | _ => none }
def giveWhysRow : OpenClaim := { program := "ytnifdkjffcdhcaagreatdoor", sum := "9f6f90d071d34ba89eb95095e39d549289a83740d5bf76a7f0729f76075fee39", func := "ephemerist/ephemeristlaw06.GiveWhys", spec := "giveWhys", inPlace := ["internal/bytealg.CountString", "internal/bytealg.IndexByteString", "internal/bytealg.IndexString"], unfollowed := true, recurses := true, named := ["unicode/utf8.first", "unicode/utf8.acceptRanges", "internal/bytealg.MaxLen", "internal/strconv.uint64pow10", "math/bits.deBruijn32tab", "math/bits.deBruijn64tab"], apart := false, laid := [("math/bits.deBruijn32tab", laid_math_bits_deBruijn32tab), ("math/bits.deBruijn64tab", laid_math_bits_deBruijn64tab), ("internal/strconv.uint64pow10", laid_internal_strconv_uint64pow10), ("unicode/utf8.acceptRanges", laid_unicode_utf8_acceptRanges), ("unicode/utf8.first", laid_unicode_utf8_first)] }
def GiveWhysSaid : Prop := giveWhysRow.holds Tryz.pinned (OpenSpec.ofChange giveWhysSpec)

/-- ITS FALSE NEIGHBOUR: 'it returns false'. Refute it at one input. -/
def giveWhysWrong : ChangeSpec := { name := "giveWhys", fn := fun _ => fun
  | [d1, d2] => { results := [.lit (.bool false)], args := [d1, d2] }
  | _ => none }
def GiveWhysWrongFalsely : Prop := giveWhysRow.holds Tryz.pinned (OpenSpec.ofChange giveWhysWrong)

/-- 'ephemeristlaw06.GivePrints': WHATEVER THE INPUT: true; the input reads as it did. -/
def givePrintsSpec : ChangeSpec := { name := "givePrints", fn := fun _ => fun
  | [d] => { results := [.lit (.bool true)], args := [d] }
  | _ => none }
def givePrintsRow : OpenClaim := { program := "ytnifdkjffcdhcaagreatdoor", sum := "9f6f90d071d34ba89eb95095e39d549289a83740d5bf76a7f0729f76075fee39", func := "ephemerist/ephemeristlaw06.GivePrints", spec := "givePrints", inPlace := ["internal/bytealg.CountString", "internal/bytealg.IndexByteString", "internal/bytealg.IndexString"], unfollowed := true, recurses := true, named := ["unicode/utf8.first", "unicode/utf8.acceptRanges", "internal/bytealg.MaxLen", "internal/strconv.uint64pow10", "math/bits.deBruijn32tab", "math/bits.deBruijn64tab"], apart := false, laid := [("math/bits.deBruijn32tab", laid_math_bits_deBruijn32tab), ("math/bits.deBruijn64tab", laid_math_bits_deBruijn64tab), ("internal/strconv.uint64pow10", laid_internal_strconv_uint64pow10), ("unicode/utf8.acceptRanges", laid_unicode_utf8_acceptRanges), ("unicode/utf8.first", laid_unicode_utf8_first)] }
def GivePrintsSaid : Prop := givePrintsRow.holds Tryz.pinned (OpenSpec.ofChange givePrintsSpec)

/-- ITS FALSE NEIGHBOUR: 'it returns false'. Refute it at one input. -/
def givePrintsWrong : ChangeSpec := { name := "givePrints", fn := fun _ => fun
  | [d] => { results := [.lit (.bool false)], args := [d] }
  | _ => none }
def GivePrintsWrongFalsely : Prop := givePrintsRow.holds Tryz.pinned (OpenSpec.ofChange givePrintsWrong)

/-- 'ephemeristlaw06.GiveReads': WHATEVER THE INPUT: true; the input reads as it did. -/
def giveReadsSpec : ChangeSpec := { name := "giveReads", fn := fun _ => fun
  | [d] => { results := [.lit (.bool true)], args := [d] }
  | _ => none }
def giveReadsRow : OpenClaim := { program := "ytnifdkjffcdhcaagreatdoor", sum := "9f6f90d071d34ba89eb95095e39d549289a83740d5bf76a7f0729f76075fee39", func := "ephemerist/ephemeristlaw06.GiveReads", spec := "giveReads", inPlace := ["internal/bytealg.CountString", "internal/bytealg.IndexByteString", "internal/bytealg.IndexString"], unfollowed := true, recurses := true, named := ["unicode/utf8.first", "unicode/utf8.acceptRanges", "internal/bytealg.MaxLen", "internal/strconv.uint64pow10", "math/bits.deBruijn32tab", "math/bits.deBruijn64tab"], apart := false, laid := [("math/bits.deBruijn32tab", laid_math_bits_deBruijn32tab), ("math/bits.deBruijn64tab", laid_math_bits_deBruijn64tab), ("internal/strconv.uint64pow10", laid_internal_strconv_uint64pow10), ("unicode/utf8.acceptRanges", laid_unicode_utf8_acceptRanges), ("unicode/utf8.first", laid_unicode_utf8_first)] }
def GiveReadsSaid : Prop := giveReadsRow.holds Tryz.pinned (OpenSpec.ofChange giveReadsSpec)

/-- ITS FALSE NEIGHBOUR: 'it returns false'. Refute it at one input. -/
def giveReadsWrong : ChangeSpec := { name := "giveReads", fn := fun _ => fun
  | [d] => { results := [.lit (.bool false)], args := [d] }
  | _ => none }
def GiveReadsWrongFalsely : Prop := giveReadsRow.holds Tryz.pinned (OpenSpec.ofChange giveReadsWrong)

/-- 'ephemeristlaw06.GiveSpoilt': WHATEVER THE INPUT: true; the input reads as it did. -/
def giveSpoiltSpec : ChangeSpec := { name := "giveSpoilt", fn := fun _ => fun
  | [d1, d2, d3] => { results := [.lit (.bool true)], args := [d1, d2, d3] }
  | _ => none }
def giveSpoiltRow : OpenClaim := { program := "ytnifdkjffcdhcaagreatdoor", sum := "9f6f90d071d34ba89eb95095e39d549289a83740d5bf76a7f0729f76075fee39", func := "ephemerist/ephemeristlaw06.GiveSpoilt", spec := "giveSpoilt", inPlace := ["internal/bytealg.CountString", "internal/bytealg.IndexByteString", "internal/bytealg.IndexString"], unfollowed := true, recurses := true, named := ["unicode/utf8.first", "unicode/utf8.acceptRanges", "internal/bytealg.MaxLen", "internal/strconv.uint64pow10", "math/bits.deBruijn32tab", "math/bits.deBruijn64tab"], apart := false, laid := [("math/bits.deBruijn32tab", laid_math_bits_deBruijn32tab), ("math/bits.deBruijn64tab", laid_math_bits_deBruijn64tab), ("internal/strconv.uint64pow10", laid_internal_strconv_uint64pow10), ("unicode/utf8.acceptRanges", laid_unicode_utf8_acceptRanges), ("unicode/utf8.first", laid_unicode_utf8_first)] }
def GiveSpoiltSaid : Prop := giveSpoiltRow.holds Tryz.pinned (OpenSpec.ofChange giveSpoiltSpec)

/-- ITS FALSE NEIGHBOUR: 'it returns false'. Refute it at one input. -/
def giveSpoiltWrong : ChangeSpec := { name := "giveSpoilt", fn := fun _ => fun
  | [d1, d2, d3] => { results := [.lit (.bool false)], args := [d1, d2, d3] }
  | _ => none }
def GiveSpoiltWrongFalsely : Prop := giveSpoiltRow.holds Tryz.pinned (OpenSpec.ofChange giveSpoiltWrong)

/- THE SECOND FORM. 'bulk': how many values and letters a reading holds, each counted each time it is reached (what is shared counts as often as it is met; a slice's spare places count too). A statement '..UptoSaid' is the law's where the arguments, and the package variables that the reading takes, are together of bulk at most 1048576: NARROWER than '..Said'. Prove '..Said' where nothing that the law and all that it calls make is longer than what came in: it says more and counts as full. Else prove '..UptoSaid'. A law counts once. -/
mutual
def uptoBulk {H : Type} : DataW H → Nat
  | .lit (.string bytes) => bytes.length + 1
  | .lit _ => 1
  | .nil => 1
  | .ptr d => uptoBulk d + 1
  | .slice elems spare => uptoBulkAll elems + uptoBulkAll spare + 1
  | .agg parts => uptoBulkAll parts + 1
  | .iface _ d => uptoBulk d + 1
  | .map entries => uptoBulkEntries entries + 1
  | .held _ => 1
def uptoBulkAll {H : Type} : List (DataW H) → Nat
  | [] => 0
  | d :: r => uptoBulk d + uptoBulkAll r
def uptoBulkEntries {H : Type} : List (Lit × DataW H) → Nat
  | [] => 0
  | x :: r => uptoBulkEntry x + uptoBulkEntries r
def uptoBulkEntry {H : Type} : Lit × DataW H → Nat
  | (.string bytes, d) => bytes.length + uptoBulk d + 1
  | (_, d) => uptoBulk d + 1
 end
def uptoSmall : (H : Type) → List (DataW H) → Bool := fun _ ds => decide (uptoBulkAll ds ≤ 1048576)
def OpenSpec.upto (s : _root_.Go.ChangeSpec) : _root_.Go.OpenSpec := { _root_.Go.OpenSpec.ofChange s with cond := some uptoSmall }

/-- 'ephemeristlaw06.GiveParts', WHERE WHAT IT READS IS OF BULK AT MOST 1048576: true; the input reads as it did. -/
def givePartsUptoRow : OpenClaim := { program := "ytnifdkjffcdhcaagreatdoor", sum := "9f6f90d071d34ba89eb95095e39d549289a83740d5bf76a7f0729f76075fee39", func := "ephemerist/ephemeristlaw06.GiveParts", spec := "giveParts", inPlace := ["internal/bytealg.CountString", "internal/bytealg.IndexByteString", "internal/bytealg.IndexString"], unfollowed := true, recurses := true, named := ["unicode/utf8.first", "unicode/utf8.acceptRanges", "internal/bytealg.MaxLen", "internal/strconv.uint64pow10", "math/bits.deBruijn32tab", "math/bits.deBruijn64tab"], apart := false, laid := [("math/bits.deBruijn32tab", laid_math_bits_deBruijn32tab), ("math/bits.deBruijn64tab", laid_math_bits_deBruijn64tab), ("internal/strconv.uint64pow10", laid_internal_strconv_uint64pow10), ("unicode/utf8.acceptRanges", laid_unicode_utf8_acceptRanges), ("unicode/utf8.first", laid_unicode_utf8_first)], narrowed := true }
def GivePartsUptoSaid : Prop := givePartsUptoRow.holds Tryz.pinned (OpenSpec.upto givePartsSpec)

/-- 'ephemeristlaw06.GiveBacks', WHERE WHAT IT READS IS OF BULK AT MOST 1048576: true; the input reads as it did. -/
def giveBacksUptoRow : OpenClaim := { program := "ytnifdkjffcdhcaagreatdoor", sum := "9f6f90d071d34ba89eb95095e39d549289a83740d5bf76a7f0729f76075fee39", func := "ephemerist/ephemeristlaw06.GiveBacks", spec := "giveBacks", inPlace := ["internal/bytealg.CountString", "internal/bytealg.IndexByteString", "internal/bytealg.IndexString"], unfollowed := true, recurses := true, named := ["unicode/utf8.first", "unicode/utf8.acceptRanges", "internal/bytealg.MaxLen", "internal/strconv.uint64pow10", "math/bits.deBruijn32tab", "math/bits.deBruijn64tab"], apart := false, laid := [("math/bits.deBruijn32tab", laid_math_bits_deBruijn32tab), ("math/bits.deBruijn64tab", laid_math_bits_deBruijn64tab), ("internal/strconv.uint64pow10", laid_internal_strconv_uint64pow10), ("unicode/utf8.acceptRanges", laid_unicode_utf8_acceptRanges), ("unicode/utf8.first", laid_unicode_utf8_first)], narrowed := true }
def GiveBacksUptoSaid : Prop := giveBacksUptoRow.holds Tryz.pinned (OpenSpec.upto giveBacksSpec)

/-- 'ephemeristlaw06.GiveTrue', WHERE WHAT IT READS IS OF BULK AT MOST 1048576: true; the input reads as it did. -/
def giveTrueUptoRow : OpenClaim := { program := "ytnifdkjffcdhcaagreatdoor", sum := "9f6f90d071d34ba89eb95095e39d549289a83740d5bf76a7f0729f76075fee39", func := "ephemerist/ephemeristlaw06.GiveTrue", spec := "giveTrue", inPlace := ["internal/bytealg.CountString", "internal/bytealg.IndexByteString", "internal/bytealg.IndexString"], unfollowed := true, recurses := true, named := ["unicode/utf8.first", "unicode/utf8.acceptRanges", "internal/bytealg.MaxLen", "internal/strconv.uint64pow10", "math/bits.deBruijn32tab", "math/bits.deBruijn64tab"], apart := false, laid := [("math/bits.deBruijn32tab", laid_math_bits_deBruijn32tab), ("math/bits.deBruijn64tab", laid_math_bits_deBruijn64tab), ("internal/strconv.uint64pow10", laid_internal_strconv_uint64pow10), ("unicode/utf8.acceptRanges", laid_unicode_utf8_acceptRanges), ("unicode/utf8.first", laid_unicode_utf8_first)], narrowed := true }
def GiveTrueUptoSaid : Prop := giveTrueUptoRow.holds Tryz.pinned (OpenSpec.upto giveTrueSpec)

/-- 'ephemeristlaw06.GiveTables', WHERE WHAT IT READS IS OF BULK AT MOST 1048576: true; the input reads as it did. -/
def giveTablesUptoRow : OpenClaim := { program := "ytnifdkjffcdhcaagreatdoor", sum := "9f6f90d071d34ba89eb95095e39d549289a83740d5bf76a7f0729f76075fee39", func := "ephemerist/ephemeristlaw06.GiveTables", spec := "giveTables", inPlace := ["internal/bytealg.CountString", "internal/bytealg.IndexByteString", "internal/bytealg.IndexString"], unfollowed := true, recurses := true, named := ["unicode/utf8.first", "unicode/utf8.acceptRanges", "internal/bytealg.MaxLen", "internal/strconv.uint64pow10", "math/bits.deBruijn32tab", "math/bits.deBruijn64tab"], apart := false, laid := [("math/bits.deBruijn32tab", laid_math_bits_deBruijn32tab), ("math/bits.deBruijn64tab", laid_math_bits_deBruijn64tab), ("internal/strconv.uint64pow10", laid_internal_strconv_uint64pow10), ("unicode/utf8.acceptRanges", laid_unicode_utf8_acceptRanges), ("unicode/utf8.first", laid_unicode_utf8_first)], narrowed := true }
def GiveTablesUptoSaid : Prop := giveTablesUptoRow.holds Tryz.pinned (OpenSpec.upto giveTablesSpec)

/-- 'ephemeristlaw06.GiveProved', WHERE WHAT IT READS IS OF BULK AT MOST 1048576: true; the input reads as it did. -/
def giveProvedUptoRow : OpenClaim := { program := "ytnifdkjffcdhcaagreatdoor", sum := "9f6f90d071d34ba89eb95095e39d549289a83740d5bf76a7f0729f76075fee39", func := "ephemerist/ephemeristlaw06.GiveProved", spec := "giveProved", inPlace := ["internal/bytealg.CountString", "internal/bytealg.IndexByteString", "internal/bytealg.IndexString"], unfollowed := true, recurses := true, named := ["unicode/utf8.first", "unicode/utf8.acceptRanges", "internal/bytealg.MaxLen", "internal/strconv.uint64pow10", "math/bits.deBruijn32tab", "math/bits.deBruijn64tab"], apart := false, laid := [("math/bits.deBruijn32tab", laid_math_bits_deBruijn32tab), ("math/bits.deBruijn64tab", laid_math_bits_deBruijn64tab), ("internal/strconv.uint64pow10", laid_internal_strconv_uint64pow10), ("unicode/utf8.acceptRanges", laid_unicode_utf8_acceptRanges), ("unicode/utf8.first", laid_unicode_utf8_first)], narrowed := true }
def GiveProvedUptoSaid : Prop := giveProvedUptoRow.holds Tryz.pinned (OpenSpec.upto giveProvedSpec)

/-- 'ephemeristlaw06.GiveIdles', WHERE WHAT IT READS IS OF BULK AT MOST 1048576: true; the input reads as it did. -/
def giveIdlesUptoRow : OpenClaim := { program := "ytnifdkjffcdhcaagreatdoor", sum := "9f6f90d071d34ba89eb95095e39d549289a83740d5bf76a7f0729f76075fee39", func := "ephemerist/ephemeristlaw06.GiveIdles", spec := "giveIdles", inPlace := ["internal/bytealg.CountString", "internal/bytealg.IndexByteString", "internal/bytealg.IndexString"], unfollowed := true, recurses := true, named := ["unicode/utf8.first", "unicode/utf8.acceptRanges", "internal/bytealg.MaxLen", "internal/strconv.uint64pow10", "math/bits.deBruijn32tab", "math/bits.deBruijn64tab"], apart := false, laid := [("math/bits.deBruijn32tab", laid_math_bits_deBruijn32tab), ("math/bits.deBruijn64tab", laid_math_bits_deBruijn64tab), ("internal/strconv.uint64pow10", laid_internal_strconv_uint64pow10), ("unicode/utf8.acceptRanges", laid_unicode_utf8_acceptRanges), ("unicode/utf8.first", laid_unicode_utf8_first)], narrowed := true }
def GiveIdlesUptoSaid : Prop := giveIdlesUptoRow.holds Tryz.pinned (OpenSpec.upto giveIdlesSpec)

/-- 'ephemeristlaw06.GiveLate', WHERE WHAT IT READS IS OF BULK AT MOST 1048576: true; the input reads as it did. -/
def giveLateUptoRow : OpenClaim := { program := "ytnifdkjffcdhcaagreatdoor", sum := "9f6f90d071d34ba89eb95095e39d549289a83740d5bf76a7f0729f76075fee39", func := "ephemerist/ephemeristlaw06.GiveLate", spec := "giveLate", inPlace := ["internal/bytealg.CountString", "internal/bytealg.IndexByteString", "internal/bytealg.IndexString"], unfollowed := true, recurses := true, named := ["unicode/utf8.first", "unicode/utf8.acceptRanges", "internal/bytealg.MaxLen", "internal/strconv.uint64pow10", "math/bits.deBruijn32tab", "math/bits.deBruijn64tab"], apart := false, laid := [("math/bits.deBruijn32tab", laid_math_bits_deBruijn32tab), ("math/bits.deBruijn64tab", laid_math_bits_deBruijn64tab), ("internal/strconv.uint64pow10", laid_internal_strconv_uint64pow10), ("unicode/utf8.acceptRanges", laid_unicode_utf8_acceptRanges), ("unicode/utf8.first", laid_unicode_utf8_first)], narrowed := true }
def GiveLateUptoSaid : Prop := giveLateUptoRow.holds Tryz.pinned (OpenSpec.upto giveLateSpec)

/-- 'ephemeristlaw06.GiveFirsts', WHERE WHAT IT READS IS OF BULK AT MOST 1048576: true; the input reads as it did. -/
def giveFirstsUptoRow : OpenClaim := { program := "ytnifdkjffcdhcaagreatdoor", sum := "9f6f90d071d34ba89eb95095e39d549289a83740d5bf76a7f0729f76075fee39", func := "ephemerist/ephemeristlaw06.GiveFirsts", spec := "giveFirsts", inPlace := ["internal/bytealg.CountString", "internal/bytealg.IndexByteString", "internal/bytealg.IndexString"], unfollowed := true, recurses := true, named := ["unicode/utf8.first", "unicode/utf8.acceptRanges", "internal/bytealg.MaxLen", "internal/strconv.uint64pow10", "math/bits.deBruijn32tab", "math/bits.deBruijn64tab"], apart := false, laid := [("math/bits.deBruijn32tab", laid_math_bits_deBruijn32tab), ("math/bits.deBruijn64tab", laid_math_bits_deBruijn64tab), ("internal/strconv.uint64pow10", laid_internal_strconv_uint64pow10), ("unicode/utf8.acceptRanges", laid_unicode_utf8_acceptRanges), ("unicode/utf8.first", laid_unicode_utf8_first)], narrowed := true }
def GiveFirstsUptoSaid : Prop := giveFirstsUptoRow.holds Tryz.pinned (OpenSpec.upto giveFirstsSpec)

/-- 'ephemeristlaw06.GiveRival', WHERE WHAT IT READS IS OF BULK AT MOST 1048576: true; the input reads as it did. -/
def giveRivalUptoRow : OpenClaim := { program := "ytnifdkjffcdhcaagreatdoor", sum := "9f6f90d071d34ba89eb95095e39d549289a83740d5bf76a7f0729f76075fee39", func := "ephemerist/ephemeristlaw06.GiveRival", spec := "giveRival", inPlace := ["internal/bytealg.CountString", "internal/bytealg.IndexByteString", "internal/bytealg.IndexString"], unfollowed := true, recurses := true, named := ["unicode/utf8.first", "unicode/utf8.acceptRanges", "internal/bytealg.MaxLen", "internal/strconv.uint64pow10", "math/bits.deBruijn32tab", "math/bits.deBruijn64tab"], apart := false, laid := [("math/bits.deBruijn32tab", laid_math_bits_deBruijn32tab), ("math/bits.deBruijn64tab", laid_math_bits_deBruijn64tab), ("internal/strconv.uint64pow10", laid_internal_strconv_uint64pow10), ("unicode/utf8.acceptRanges", laid_unicode_utf8_acceptRanges), ("unicode/utf8.first", laid_unicode_utf8_first)], narrowed := true }
def GiveRivalUptoSaid : Prop := giveRivalUptoRow.holds Tryz.pinned (OpenSpec.upto giveRivalSpec)

/-- 'ephemeristlaw06.GiveWhos', WHERE WHAT IT READS IS OF BULK AT MOST 1048576: true; the input reads as it did. -/
def giveWhosUptoRow : OpenClaim := { program := "ytnifdkjffcdhcaagreatdoor", sum := "9f6f90d071d34ba89eb95095e39d549289a83740d5bf76a7f0729f76075fee39", func := "ephemerist/ephemeristlaw06.GiveWhos", spec := "giveWhos", inPlace := ["internal/bytealg.CountString", "internal/bytealg.IndexByteString", "internal/bytealg.IndexString"], unfollowed := true, recurses := true, named := ["unicode/utf8.first", "unicode/utf8.acceptRanges", "internal/bytealg.MaxLen", "internal/strconv.uint64pow10", "math/bits.deBruijn32tab", "math/bits.deBruijn64tab"], apart := false, laid := [("math/bits.deBruijn32tab", laid_math_bits_deBruijn32tab), ("math/bits.deBruijn64tab", laid_math_bits_deBruijn64tab), ("internal/strconv.uint64pow10", laid_internal_strconv_uint64pow10), ("unicode/utf8.acceptRanges", laid_unicode_utf8_acceptRanges), ("unicode/utf8.first", laid_unicode_utf8_first)], narrowed := true }
def GiveWhosUptoSaid : Prop := giveWhosUptoRow.holds Tryz.pinned (OpenSpec.upto giveWhosSpec)

/-- 'ephemeristlaw06.GiveSooner', WHERE WHAT IT READS IS OF BULK AT MOST 1048576: true; the input reads as it did. -/
def giveSoonerUptoRow : OpenClaim := { program := "ytnifdkjffcdhcaagreatdoor", sum := "9f6f90d071d34ba89eb95095e39d549289a83740d5bf76a7f0729f76075fee39", func := "ephemerist/ephemeristlaw06.GiveSooner", spec := "giveSooner", inPlace := ["internal/bytealg.CountString", "internal/bytealg.IndexByteString", "internal/bytealg.IndexString"], unfollowed := true, recurses := true, named := ["unicode/utf8.first", "unicode/utf8.acceptRanges", "internal/bytealg.MaxLen", "internal/strconv.uint64pow10", "math/bits.deBruijn32tab", "math/bits.deBruijn64tab"], apart := false, laid := [("math/bits.deBruijn32tab", laid_math_bits_deBruijn32tab), ("math/bits.deBruijn64tab", laid_math_bits_deBruijn64tab), ("internal/strconv.uint64pow10", laid_internal_strconv_uint64pow10), ("unicode/utf8.acceptRanges", laid_unicode_utf8_acceptRanges), ("unicode/utf8.first", laid_unicode_utf8_first)], narrowed := true }
def GiveSoonerUptoSaid : Prop := giveSoonerUptoRow.holds Tryz.pinned (OpenSpec.upto giveSoonerSpec)

/-- 'ephemeristlaw06.GiveMores', WHERE WHAT IT READS IS OF BULK AT MOST 1048576: true; the input reads as it did. -/
def giveMoresUptoRow : OpenClaim := { program := "ytnifdkjffcdhcaagreatdoor", sum := "9f6f90d071d34ba89eb95095e39d549289a83740d5bf76a7f0729f76075fee39", func := "ephemerist/ephemeristlaw06.GiveMores", spec := "giveMores", inPlace := ["internal/bytealg.CountString", "internal/bytealg.IndexByteString", "internal/bytealg.IndexString"], unfollowed := true, recurses := true, named := ["unicode/utf8.first", "unicode/utf8.acceptRanges", "internal/bytealg.MaxLen", "internal/strconv.uint64pow10", "math/bits.deBruijn32tab", "math/bits.deBruijn64tab"], apart := false, laid := [("math/bits.deBruijn32tab", laid_math_bits_deBruijn32tab), ("math/bits.deBruijn64tab", laid_math_bits_deBruijn64tab), ("internal/strconv.uint64pow10", laid_internal_strconv_uint64pow10), ("unicode/utf8.acceptRanges", laid_unicode_utf8_acceptRanges), ("unicode/utf8.first", laid_unicode_utf8_first)], narrowed := true }
def GiveMoresUptoSaid : Prop := giveMoresUptoRow.holds Tryz.pinned (OpenSpec.upto giveMoresSpec)

/-- 'ephemeristlaw06.GiveHelp', WHERE WHAT IT READS IS OF BULK AT MOST 1048576: true; the input reads as it did. -/
def giveHelpUptoRow : OpenClaim := { program := "ytnifdkjffcdhcaagreatdoor", sum := "9f6f90d071d34ba89eb95095e39d549289a83740d5bf76a7f0729f76075fee39", func := "ephemerist/ephemeristlaw06.GiveHelp", spec := "giveHelp", inPlace := ["internal/bytealg.CountString", "internal/bytealg.IndexByteString", "internal/bytealg.IndexString"], unfollowed := true, recurses := true, named := ["unicode/utf8.first", "unicode/utf8.acceptRanges", "internal/bytealg.MaxLen", "internal/strconv.uint64pow10", "math/bits.deBruijn32tab", "math/bits.deBruijn64tab"], apart := false, laid := [("math/bits.deBruijn32tab", laid_math_bits_deBruijn32tab), ("math/bits.deBruijn64tab", laid_math_bits_deBruijn64tab), ("internal/strconv.uint64pow10", laid_internal_strconv_uint64pow10), ("unicode/utf8.acceptRanges", laid_unicode_utf8_acceptRanges), ("unicode/utf8.first", laid_unicode_utf8_first)], narrowed := true }
def GiveHelpUptoSaid : Prop := giveHelpUptoRow.holds Tryz.pinned (OpenSpec.upto giveHelpSpec)

/-- 'ephemeristlaw06.GiveMore', WHERE WHAT IT READS IS OF BULK AT MOST 1048576: true; the input reads as it did. -/
def giveMoreUptoRow : OpenClaim := { program := "ytnifdkjffcdhcaagreatdoor", sum := "9f6f90d071d34ba89eb95095e39d549289a83740d5bf76a7f0729f76075fee39", func := "ephemerist/ephemeristlaw06.GiveMore", spec := "giveMore", inPlace := ["internal/bytealg.CountString", "internal/bytealg.IndexByteString", "internal/bytealg.IndexString"], unfollowed := true, recurses := true, named := ["unicode/utf8.first", "unicode/utf8.acceptRanges", "internal/bytealg.MaxLen", "internal/strconv.uint64pow10", "math/bits.deBruijn32tab", "math/bits.deBruijn64tab"], apart := false, laid := [("math/bits.deBruijn32tab", laid_math_bits_deBruijn32tab), ("math/bits.deBruijn64tab", laid_math_bits_deBruijn64tab), ("internal/strconv.uint64pow10", laid_internal_strconv_uint64pow10), ("unicode/utf8.acceptRanges", laid_unicode_utf8_acceptRanges), ("unicode/utf8.first", laid_unicode_utf8_first)], narrowed := true }
def GiveMoreUptoSaid : Prop := giveMoreUptoRow.holds Tryz.pinned (OpenSpec.upto giveMoreSpec)

/-- 'ephemeristlaw06.GiveWhys', WHERE WHAT IT READS IS OF BULK AT MOST 1048576: true; the input reads as it did. -/
def giveWhysUptoRow : OpenClaim := { program := "ytnifdkjffcdhcaagreatdoor", sum := "9f6f90d071d34ba89eb95095e39d549289a83740d5bf76a7f0729f76075fee39", func := "ephemerist/ephemeristlaw06.GiveWhys", spec := "giveWhys", inPlace := ["internal/bytealg.CountString", "internal/bytealg.IndexByteString", "internal/bytealg.IndexString"], unfollowed := true, recurses := true, named := ["unicode/utf8.first", "unicode/utf8.acceptRanges", "internal/bytealg.MaxLen", "internal/strconv.uint64pow10", "math/bits.deBruijn32tab", "math/bits.deBruijn64tab"], apart := false, laid := [("math/bits.deBruijn32tab", laid_math_bits_deBruijn32tab), ("math/bits.deBruijn64tab", laid_math_bits_deBruijn64tab), ("internal/strconv.uint64pow10", laid_internal_strconv_uint64pow10), ("unicode/utf8.acceptRanges", laid_unicode_utf8_acceptRanges), ("unicode/utf8.first", laid_unicode_utf8_first)], narrowed := true }
def GiveWhysUptoSaid : Prop := giveWhysUptoRow.holds Tryz.pinned (OpenSpec.upto giveWhysSpec)

/-- 'ephemeristlaw06.GivePrints', WHERE WHAT IT READS IS OF BULK AT MOST 1048576: true; the input reads as it did. -/
def givePrintsUptoRow : OpenClaim := { program := "ytnifdkjffcdhcaagreatdoor", sum := "9f6f90d071d34ba89eb95095e39d549289a83740d5bf76a7f0729f76075fee39", func := "ephemerist/ephemeristlaw06.GivePrints", spec := "givePrints", inPlace := ["internal/bytealg.CountString", "internal/bytealg.IndexByteString", "internal/bytealg.IndexString"], unfollowed := true, recurses := true, named := ["unicode/utf8.first", "unicode/utf8.acceptRanges", "internal/bytealg.MaxLen", "internal/strconv.uint64pow10", "math/bits.deBruijn32tab", "math/bits.deBruijn64tab"], apart := false, laid := [("math/bits.deBruijn32tab", laid_math_bits_deBruijn32tab), ("math/bits.deBruijn64tab", laid_math_bits_deBruijn64tab), ("internal/strconv.uint64pow10", laid_internal_strconv_uint64pow10), ("unicode/utf8.acceptRanges", laid_unicode_utf8_acceptRanges), ("unicode/utf8.first", laid_unicode_utf8_first)], narrowed := true }
def GivePrintsUptoSaid : Prop := givePrintsUptoRow.holds Tryz.pinned (OpenSpec.upto givePrintsSpec)

/-- 'ephemeristlaw06.GiveReads', WHERE WHAT IT READS IS OF BULK AT MOST 1048576: true; the input reads as it did. -/
def giveReadsUptoRow : OpenClaim := { program := "ytnifdkjffcdhcaagreatdoor", sum := "9f6f90d071d34ba89eb95095e39d549289a83740d5bf76a7f0729f76075fee39", func := "ephemerist/ephemeristlaw06.GiveReads", spec := "giveReads", inPlace := ["internal/bytealg.CountString", "internal/bytealg.IndexByteString", "internal/bytealg.IndexString"], unfollowed := true, recurses := true, named := ["unicode/utf8.first", "unicode/utf8.acceptRanges", "internal/bytealg.MaxLen", "internal/strconv.uint64pow10", "math/bits.deBruijn32tab", "math/bits.deBruijn64tab"], apart := false, laid := [("math/bits.deBruijn32tab", laid_math_bits_deBruijn32tab), ("math/bits.deBruijn64tab", laid_math_bits_deBruijn64tab), ("internal/strconv.uint64pow10", laid_internal_strconv_uint64pow10), ("unicode/utf8.acceptRanges", laid_unicode_utf8_acceptRanges), ("unicode/utf8.first", laid_unicode_utf8_first)], narrowed := true }
def GiveReadsUptoSaid : Prop := giveReadsUptoRow.holds Tryz.pinned (OpenSpec.upto giveReadsSpec)

/-- 'ephemeristlaw06.GiveSpoilt', WHERE WHAT IT READS IS OF BULK AT MOST 1048576: true; the input reads as it did. -/
def giveSpoiltUptoRow : OpenClaim := { program := "ytnifdkjffcdhcaagreatdoor", sum := "9f6f90d071d34ba89eb95095e39d549289a83740d5bf76a7f0729f76075fee39", func := "ephemerist/ephemeristlaw06.GiveSpoilt", spec := "giveSpoilt", inPlace := ["internal/bytealg.CountString", "internal/bytealg.IndexByteString", "internal/bytealg.IndexString"], unfollowed := true, recurses := true, named := ["unicode/utf8.first", "unicode/utf8.acceptRanges", "internal/bytealg.MaxLen", "internal/strconv.uint64pow10", "math/bits.deBruijn32tab", "math/bits.deBruijn64tab"], apart := false, laid := [("math/bits.deBruijn32tab", laid_math_bits_deBruijn32tab), ("math/bits.deBruijn64tab", laid_math_bits_deBruijn64tab), ("internal/strconv.uint64pow10", laid_internal_strconv_uint64pow10), ("unicode/utf8.acceptRanges", laid_unicode_utf8_acceptRanges), ("unicode/utf8.first", laid_unicode_utf8_first)], narrowed := true }
def GiveSpoiltUptoSaid : Prop := giveSpoiltUptoRow.holds Tryz.pinned (OpenSpec.upto giveSpoiltSpec)

end Rows
end Go.Proofs.YtnifdkjffcdhcaaGreatDoor
