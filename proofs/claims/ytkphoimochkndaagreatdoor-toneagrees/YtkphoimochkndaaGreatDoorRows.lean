/-
  NARROWER THAN 'FOR EVERY INPUT', by the rows' own cells (each row's printed sentence says how): ToneDepths: laid · ToneChanges: laid · ToneReceivers: laid · ToneCaptures: laid · ToneIntervals: laid · ToneSpans: laid · ToneStrings: laid · ToneFactors: laid · ToneHeard: laid · ToneWithin: laid · ToneAgrees: laid.
  DERIVED. THE GIVEN ROWS OF THIS SEAT. 11 by the template 'for every input the law returns true; each argument reads behind the call as it read before'; 0 by the template 'total and deterministic' (their statements: YtkphoimochkndaaGreatDoorTotals.lean).
  GIVEN WITH THE SEED: the statements are not yours to turn. If you find one false, say at which input.
  Laid BY PROGRAM, IN A SANDBOX (cutbox-rows.mjs): the forced cells as the released guide's own fill.sh prints them over the translation 748b5fb78bd5364f… (all of the seat's roots in one cut). By AI agents, Wed Nov 11 2026. No macro, syntax, notation, axiom, sorry.
-/
import Derived.Test.YtkphoimochkndaaGreatDoorChecked
import GoSem.PinnedTables
import GoSem.Claim
import GoSem.ClaimJoined
import GoSem.ClaimMapViews
import Derived.JoinedTies
import Derived.KernelRfl
namespace Go.Proofs.YtkphoimochkndaaGreatDoor
/- THE CELL 'sum', in the pinned program and in every row, IS THE sha256 OF THE DUMP (.gsa) THAT YtkphoimochkndaaGreatDoorProg.lean LOADS. Nothing in Lean hashes anything: it is a label: what it is worth is what the hold of that sum in a sandbox is worth. -/
noncomputable def Tryz.pinned : Pinned := { name := "ytkphoimochkndaagreatdoor", sum := "748b5fb78bd5364face5c8a394a2b4cfc31aa834dc185a139f233500dcacc3d2", checked := Tryz.checked }
namespace Rows
def none {H : Type} : Left H := { results := [], args := [] }

/- WHAT THE LISTED PACKAGE-LEVEL VARIABLES READ AS WHEN THE CALL BEGINS. Each datum BY PROGRAM (the guide's laid-datum.mjs) off the statement by which the dump's own 'gosem.cut.vars' lays the variable. In a bare row this is a premise. The card (YtkphoimochkndaaGreatDoorCards.lean) ties it to the program's text. -/
def laid_math_bits_deBruijn32tab {H : Type} : DataW H := .agg [.lit (.int .u8 0), .lit (.int .u8 1), .lit (.int .u8 28), .lit (.int .u8 2), .lit (.int .u8 29), .lit (.int .u8 14), .lit (.int .u8 24), .lit (.int .u8 3), .lit (.int .u8 30), .lit (.int .u8 22), .lit (.int .u8 20), .lit (.int .u8 15), .lit (.int .u8 25), .lit (.int .u8 17), .lit (.int .u8 4), .lit (.int .u8 8), .lit (.int .u8 31), .lit (.int .u8 27), .lit (.int .u8 13), .lit (.int .u8 23), .lit (.int .u8 21), .lit (.int .u8 19), .lit (.int .u8 16), .lit (.int .u8 7), .lit (.int .u8 26), .lit (.int .u8 12), .lit (.int .u8 18), .lit (.int .u8 6), .lit (.int .u8 11), .lit (.int .u8 5), .lit (.int .u8 10), .lit (.int .u8 9)]
def laid_math_bits_deBruijn64tab {H : Type} : DataW H := .agg [.lit (.int .u8 0), .lit (.int .u8 1), .lit (.int .u8 56), .lit (.int .u8 2), .lit (.int .u8 57), .lit (.int .u8 49), .lit (.int .u8 28), .lit (.int .u8 3), .lit (.int .u8 61), .lit (.int .u8 58), .lit (.int .u8 42), .lit (.int .u8 50), .lit (.int .u8 38), .lit (.int .u8 29), .lit (.int .u8 17), .lit (.int .u8 4), .lit (.int .u8 62), .lit (.int .u8 47), .lit (.int .u8 59), .lit (.int .u8 36), .lit (.int .u8 45), .lit (.int .u8 43), .lit (.int .u8 51), .lit (.int .u8 22), .lit (.int .u8 53), .lit (.int .u8 39), .lit (.int .u8 33), .lit (.int .u8 30), .lit (.int .u8 24), .lit (.int .u8 18), .lit (.int .u8 12), .lit (.int .u8 5), .lit (.int .u8 63), .lit (.int .u8 55), .lit (.int .u8 48), .lit (.int .u8 27), .lit (.int .u8 60), .lit (.int .u8 41), .lit (.int .u8 37), .lit (.int .u8 16), .lit (.int .u8 46), .lit (.int .u8 35), .lit (.int .u8 44), .lit (.int .u8 21), .lit (.int .u8 52), .lit (.int .u8 32), .lit (.int .u8 23), .lit (.int .u8 11), .lit (.int .u8 54), .lit (.int .u8 26), .lit (.int .u8 40), .lit (.int .u8 15), .lit (.int .u8 34), .lit (.int .u8 20), .lit (.int .u8 31), .lit (.int .u8 10), .lit (.int .u8 25), .lit (.int .u8 14), .lit (.int .u8 19), .lit (.int .u8 9), .lit (.int .u8 13), .lit (.int .u8 8), .lit (.int .u8 7), .lit (.int .u8 6)]
def laid_internal_strconv_uint64pow10 {H : Type} : DataW H := .agg [.lit (.int .u64 1), .lit (.int .u64 10), .lit (.int .u64 100), .lit (.int .u64 1000), .lit (.int .u64 10000), .lit (.int .u64 100000), .lit (.int .u64 1000000), .lit (.int .u64 10000000), .lit (.int .u64 100000000), .lit (.int .u64 1000000000), .lit (.int .u64 10000000000), .lit (.int .u64 100000000000), .lit (.int .u64 1000000000000), .lit (.int .u64 10000000000000), .lit (.int .u64 100000000000000), .lit (.int .u64 1000000000000000), .lit (.int .u64 10000000000000000), .lit (.int .u64 100000000000000000), .lit (.int .u64 1000000000000000000), .lit (.int .u64 10000000000000000000)]
def laid_unicode_utf8_acceptRanges {H : Type} : DataW H := .agg [.agg [.lit (.int .u8 128), .lit (.int .u8 191)], .agg [.lit (.int .u8 160), .lit (.int .u8 191)], .agg [.lit (.int .u8 128), .lit (.int .u8 159)], .agg [.lit (.int .u8 144), .lit (.int .u8 191)], .agg [.lit (.int .u8 128), .lit (.int .u8 143)], .agg [.lit (.int .u8 0), .lit (.int .u8 0)], .agg [.lit (.int .u8 0), .lit (.int .u8 0)], .agg [.lit (.int .u8 0), .lit (.int .u8 0)], .agg [.lit (.int .u8 0), .lit (.int .u8 0)], .agg [.lit (.int .u8 0), .lit (.int .u8 0)], .agg [.lit (.int .u8 0), .lit (.int .u8 0)], .agg [.lit (.int .u8 0), .lit (.int .u8 0)], .agg [.lit (.int .u8 0), .lit (.int .u8 0)], .agg [.lit (.int .u8 0), .lit (.int .u8 0)], .agg [.lit (.int .u8 0), .lit (.int .u8 0)], .agg [.lit (.int .u8 0), .lit (.int .u8 0)]]
def laid_glideslope_tone_silent {H : Type} : DataW H := .agg [.lit (.int .i64 0), .lit (.int .i64 0)]
/-- One of Go's own tables, pinned by name: the form's constant. -/
def laid_unicode_utf8_first : DataW Unit := Go.Pinned.utf8First

/-- 'glideslopelaw02.ToneDepths': WHATEVER THE INPUT: true; the input reads as it did. -/
def toneDepthsSpec : ChangeSpec := { name := "toneDepths", fn := fun _ => fun
  | [d] => { results := [.lit (.bool true)], args := [d] }
  | _ => none }
def toneDepthsRow : OpenClaim := { program := "ytkphoimochkndaagreatdoor", sum := "748b5fb78bd5364face5c8a394a2b4cfc31aa834dc185a139f233500dcacc3d2", func := "glideslope/glideslopelaw02.ToneDepths", spec := "toneDepths", inPlace := ["internal/abi.NoEscape", "internal/bytealg.MakeNoZero", "internal/bytealg.IndexByteString", "internal/bytealg.CountString", "internal/bytealg.IndexString"], unfollowed := true, recurses := true, named := ["glideslope/tone.silent", "internal/strconv.uint64pow10", "math/bits.deBruijn32tab", "math/bits.deBruijn64tab", "unicode/utf8.first", "unicode/utf8.acceptRanges", "internal/bytealg.MaxLen"], apart := false, laid := [("math/bits.deBruijn32tab", laid_math_bits_deBruijn32tab), ("math/bits.deBruijn64tab", laid_math_bits_deBruijn64tab), ("internal/strconv.uint64pow10", laid_internal_strconv_uint64pow10), ("unicode/utf8.acceptRanges", laid_unicode_utf8_acceptRanges), ("glideslope/tone.silent", laid_glideslope_tone_silent), ("unicode/utf8.first", laid_unicode_utf8_first)] }
def ToneDepthsSaid : Prop := toneDepthsRow.holds Tryz.pinned (OpenSpec.ofChange toneDepthsSpec)

/-- ITS FALSE NEIGHBOUR: 'it returns false'. Refute it at one input. -/
def toneDepthsWrong : ChangeSpec := { name := "toneDepths", fn := fun _ => fun
  | [d] => { results := [.lit (.bool false)], args := [d] }
  | _ => none }
def ToneDepthsWrongFalsely : Prop := toneDepthsRow.holds Tryz.pinned (OpenSpec.ofChange toneDepthsWrong)

/-- 'glideslopelaw02.ToneChanges': WHATEVER THE INPUT: true; the input reads as it did. -/
def toneChangesSpec : ChangeSpec := { name := "toneChanges", fn := fun _ => fun
  | [d1, d2, d3] => { results := [.lit (.bool true)], args := [d1, d2, d3] }
  | _ => none }
def toneChangesRow : OpenClaim := { program := "ytkphoimochkndaagreatdoor", sum := "748b5fb78bd5364face5c8a394a2b4cfc31aa834dc185a139f233500dcacc3d2", func := "glideslope/glideslopelaw02.ToneChanges", spec := "toneChanges", inPlace := ["internal/abi.NoEscape", "internal/bytealg.MakeNoZero", "internal/bytealg.IndexByteString", "internal/bytealg.CountString", "internal/bytealg.IndexString"], unfollowed := true, recurses := true, named := ["glideslope/tone.silent", "internal/strconv.uint64pow10", "math/bits.deBruijn32tab", "math/bits.deBruijn64tab", "unicode/utf8.first", "unicode/utf8.acceptRanges", "internal/bytealg.MaxLen"], apart := false, laid := [("math/bits.deBruijn32tab", laid_math_bits_deBruijn32tab), ("math/bits.deBruijn64tab", laid_math_bits_deBruijn64tab), ("internal/strconv.uint64pow10", laid_internal_strconv_uint64pow10), ("unicode/utf8.acceptRanges", laid_unicode_utf8_acceptRanges), ("glideslope/tone.silent", laid_glideslope_tone_silent), ("unicode/utf8.first", laid_unicode_utf8_first)] }
def ToneChangesSaid : Prop := toneChangesRow.holds Tryz.pinned (OpenSpec.ofChange toneChangesSpec)

/-- ITS FALSE NEIGHBOUR: 'it returns false'. Refute it at one input. -/
def toneChangesWrong : ChangeSpec := { name := "toneChanges", fn := fun _ => fun
  | [d1, d2, d3] => { results := [.lit (.bool false)], args := [d1, d2, d3] }
  | _ => none }
def ToneChangesWrongFalsely : Prop := toneChangesRow.holds Tryz.pinned (OpenSpec.ofChange toneChangesWrong)

/-- 'glideslopelaw02.ToneReceivers': WHATEVER THE INPUT: true; the input reads as it did. -/
def toneReceiversSpec : ChangeSpec := { name := "toneReceivers", fn := fun _ => fun
  | [d1, d2, d3] => { results := [.lit (.bool true)], args := [d1, d2, d3] }
  | _ => none }
def toneReceiversRow : OpenClaim := { program := "ytkphoimochkndaagreatdoor", sum := "748b5fb78bd5364face5c8a394a2b4cfc31aa834dc185a139f233500dcacc3d2", func := "glideslope/glideslopelaw02.ToneReceivers", spec := "toneReceivers", inPlace := ["internal/abi.NoEscape", "internal/bytealg.MakeNoZero", "internal/bytealg.IndexByteString", "internal/bytealg.CountString", "internal/bytealg.IndexString"], unfollowed := true, recurses := true, named := ["glideslope/tone.silent", "internal/strconv.uint64pow10", "math/bits.deBruijn32tab", "math/bits.deBruijn64tab", "unicode/utf8.first", "unicode/utf8.acceptRanges", "internal/bytealg.MaxLen"], apart := false, laid := [("math/bits.deBruijn32tab", laid_math_bits_deBruijn32tab), ("math/bits.deBruijn64tab", laid_math_bits_deBruijn64tab), ("internal/strconv.uint64pow10", laid_internal_strconv_uint64pow10), ("unicode/utf8.acceptRanges", laid_unicode_utf8_acceptRanges), ("glideslope/tone.silent", laid_glideslope_tone_silent), ("unicode/utf8.first", laid_unicode_utf8_first)] }
def ToneReceiversSaid : Prop := toneReceiversRow.holds Tryz.pinned (OpenSpec.ofChange toneReceiversSpec)

/-- ITS FALSE NEIGHBOUR: 'it returns false'. Refute it at one input. -/
def toneReceiversWrong : ChangeSpec := { name := "toneReceivers", fn := fun _ => fun
  | [d1, d2, d3] => { results := [.lit (.bool false)], args := [d1, d2, d3] }
  | _ => none }
def ToneReceiversWrongFalsely : Prop := toneReceiversRow.holds Tryz.pinned (OpenSpec.ofChange toneReceiversWrong)

/-- 'glideslopelaw02.ToneCaptures': WHATEVER THE INPUT: true; the input reads as it did. -/
def toneCapturesSpec : ChangeSpec := { name := "toneCaptures", fn := fun _ => fun
  | [d1, d2, d3] => { results := [.lit (.bool true)], args := [d1, d2, d3] }
  | _ => none }
def toneCapturesRow : OpenClaim := { program := "ytkphoimochkndaagreatdoor", sum := "748b5fb78bd5364face5c8a394a2b4cfc31aa834dc185a139f233500dcacc3d2", func := "glideslope/glideslopelaw02.ToneCaptures", spec := "toneCaptures", inPlace := ["internal/abi.NoEscape", "internal/bytealg.MakeNoZero", "internal/bytealg.IndexByteString", "internal/bytealg.CountString", "internal/bytealg.IndexString"], unfollowed := true, recurses := true, named := ["glideslope/tone.silent", "internal/strconv.uint64pow10", "math/bits.deBruijn32tab", "math/bits.deBruijn64tab", "unicode/utf8.first", "unicode/utf8.acceptRanges", "internal/bytealg.MaxLen"], apart := false, laid := [("math/bits.deBruijn32tab", laid_math_bits_deBruijn32tab), ("math/bits.deBruijn64tab", laid_math_bits_deBruijn64tab), ("internal/strconv.uint64pow10", laid_internal_strconv_uint64pow10), ("unicode/utf8.acceptRanges", laid_unicode_utf8_acceptRanges), ("glideslope/tone.silent", laid_glideslope_tone_silent), ("unicode/utf8.first", laid_unicode_utf8_first)] }
def ToneCapturesSaid : Prop := toneCapturesRow.holds Tryz.pinned (OpenSpec.ofChange toneCapturesSpec)

/-- ITS FALSE NEIGHBOUR: 'it returns false'. Refute it at one input. -/
def toneCapturesWrong : ChangeSpec := { name := "toneCaptures", fn := fun _ => fun
  | [d1, d2, d3] => { results := [.lit (.bool false)], args := [d1, d2, d3] }
  | _ => none }
def ToneCapturesWrongFalsely : Prop := toneCapturesRow.holds Tryz.pinned (OpenSpec.ofChange toneCapturesWrong)

/-- 'glideslopelaw02.ToneIntervals': WHATEVER THE INPUT: true; the input reads as it did. -/
def toneIntervalsSpec : ChangeSpec := { name := "toneIntervals", fn := fun _ => fun
  | [d1, d2, d3] => { results := [.lit (.bool true)], args := [d1, d2, d3] }
  | _ => none }
def toneIntervalsRow : OpenClaim := { program := "ytkphoimochkndaagreatdoor", sum := "748b5fb78bd5364face5c8a394a2b4cfc31aa834dc185a139f233500dcacc3d2", func := "glideslope/glideslopelaw02.ToneIntervals", spec := "toneIntervals", inPlace := ["internal/abi.NoEscape", "internal/bytealg.MakeNoZero", "internal/bytealg.IndexByteString", "internal/bytealg.CountString", "internal/bytealg.IndexString"], unfollowed := true, recurses := true, named := ["glideslope/tone.silent", "internal/strconv.uint64pow10", "math/bits.deBruijn32tab", "math/bits.deBruijn64tab", "unicode/utf8.first", "unicode/utf8.acceptRanges", "internal/bytealg.MaxLen"], apart := false, laid := [("math/bits.deBruijn32tab", laid_math_bits_deBruijn32tab), ("math/bits.deBruijn64tab", laid_math_bits_deBruijn64tab), ("internal/strconv.uint64pow10", laid_internal_strconv_uint64pow10), ("unicode/utf8.acceptRanges", laid_unicode_utf8_acceptRanges), ("glideslope/tone.silent", laid_glideslope_tone_silent), ("unicode/utf8.first", laid_unicode_utf8_first)] }
def ToneIntervalsSaid : Prop := toneIntervalsRow.holds Tryz.pinned (OpenSpec.ofChange toneIntervalsSpec)

/-- ITS FALSE NEIGHBOUR: 'it returns false'. Refute it at one input. -/
def toneIntervalsWrong : ChangeSpec := { name := "toneIntervals", fn := fun _ => fun
  | [d1, d2, d3] => { results := [.lit (.bool false)], args := [d1, d2, d3] }
  | _ => none }
def ToneIntervalsWrongFalsely : Prop := toneIntervalsRow.holds Tryz.pinned (OpenSpec.ofChange toneIntervalsWrong)

/-- 'glideslopelaw02.ToneSpans': WHATEVER THE INPUT: true; the input reads as it did. -/
def toneSpansSpec : ChangeSpec := { name := "toneSpans", fn := fun _ => fun
  | [d1, d2] => { results := [.lit (.bool true)], args := [d1, d2] }
  | _ => none }
def toneSpansRow : OpenClaim := { program := "ytkphoimochkndaagreatdoor", sum := "748b5fb78bd5364face5c8a394a2b4cfc31aa834dc185a139f233500dcacc3d2", func := "glideslope/glideslopelaw02.ToneSpans", spec := "toneSpans", inPlace := ["internal/abi.NoEscape", "internal/bytealg.MakeNoZero", "internal/bytealg.IndexByteString", "internal/bytealg.CountString", "internal/bytealg.IndexString"], unfollowed := true, recurses := true, named := ["glideslope/tone.silent", "internal/strconv.uint64pow10", "math/bits.deBruijn32tab", "math/bits.deBruijn64tab", "unicode/utf8.first", "unicode/utf8.acceptRanges", "internal/bytealg.MaxLen"], apart := false, laid := [("math/bits.deBruijn32tab", laid_math_bits_deBruijn32tab), ("math/bits.deBruijn64tab", laid_math_bits_deBruijn64tab), ("internal/strconv.uint64pow10", laid_internal_strconv_uint64pow10), ("unicode/utf8.acceptRanges", laid_unicode_utf8_acceptRanges), ("glideslope/tone.silent", laid_glideslope_tone_silent), ("unicode/utf8.first", laid_unicode_utf8_first)] }
def ToneSpansSaid : Prop := toneSpansRow.holds Tryz.pinned (OpenSpec.ofChange toneSpansSpec)

/-- ITS FALSE NEIGHBOUR: 'it returns false'. Refute it at one input. -/
def toneSpansWrong : ChangeSpec := { name := "toneSpans", fn := fun _ => fun
  | [d1, d2] => { results := [.lit (.bool false)], args := [d1, d2] }
  | _ => none }
def ToneSpansWrongFalsely : Prop := toneSpansRow.holds Tryz.pinned (OpenSpec.ofChange toneSpansWrong)

/-- 'glideslopelaw02.ToneStrings': WHATEVER THE INPUT: true; the input reads as it did. -/
def toneStringsSpec : ChangeSpec := { name := "toneStrings", fn := fun _ => fun
  | [d1, d2] => { results := [.lit (.bool true)], args := [d1, d2] }
  | _ => none }
def toneStringsRow : OpenClaim := { program := "ytkphoimochkndaagreatdoor", sum := "748b5fb78bd5364face5c8a394a2b4cfc31aa834dc185a139f233500dcacc3d2", func := "glideslope/glideslopelaw02.ToneStrings", spec := "toneStrings", inPlace := ["internal/abi.NoEscape", "internal/bytealg.MakeNoZero", "internal/bytealg.IndexByteString", "internal/bytealg.CountString", "internal/bytealg.IndexString"], unfollowed := true, recurses := true, named := ["glideslope/tone.silent", "internal/strconv.uint64pow10", "math/bits.deBruijn32tab", "math/bits.deBruijn64tab", "unicode/utf8.first", "unicode/utf8.acceptRanges", "internal/bytealg.MaxLen"], apart := false, laid := [("math/bits.deBruijn32tab", laid_math_bits_deBruijn32tab), ("math/bits.deBruijn64tab", laid_math_bits_deBruijn64tab), ("internal/strconv.uint64pow10", laid_internal_strconv_uint64pow10), ("unicode/utf8.acceptRanges", laid_unicode_utf8_acceptRanges), ("glideslope/tone.silent", laid_glideslope_tone_silent), ("unicode/utf8.first", laid_unicode_utf8_first)] }
def ToneStringsSaid : Prop := toneStringsRow.holds Tryz.pinned (OpenSpec.ofChange toneStringsSpec)

/-- ITS FALSE NEIGHBOUR: 'it returns false'. Refute it at one input. -/
def toneStringsWrong : ChangeSpec := { name := "toneStrings", fn := fun _ => fun
  | [d1, d2] => { results := [.lit (.bool false)], args := [d1, d2] }
  | _ => none }
def ToneStringsWrongFalsely : Prop := toneStringsRow.holds Tryz.pinned (OpenSpec.ofChange toneStringsWrong)

/-- 'glideslopelaw02.ToneFactors': WHATEVER THE INPUT: true; the input reads as it did. -/
def toneFactorsSpec : ChangeSpec := { name := "toneFactors", fn := fun _ => fun
  | [d1, d2, d3] => { results := [.lit (.bool true)], args := [d1, d2, d3] }
  | _ => none }
def toneFactorsRow : OpenClaim := { program := "ytkphoimochkndaagreatdoor", sum := "748b5fb78bd5364face5c8a394a2b4cfc31aa834dc185a139f233500dcacc3d2", func := "glideslope/glideslopelaw02.ToneFactors", spec := "toneFactors", inPlace := ["internal/abi.NoEscape", "internal/bytealg.MakeNoZero", "internal/bytealg.IndexByteString", "internal/bytealg.CountString", "internal/bytealg.IndexString"], unfollowed := true, recurses := true, named := ["glideslope/tone.silent", "internal/strconv.uint64pow10", "math/bits.deBruijn32tab", "math/bits.deBruijn64tab", "unicode/utf8.first", "unicode/utf8.acceptRanges", "internal/bytealg.MaxLen"], apart := false, laid := [("math/bits.deBruijn32tab", laid_math_bits_deBruijn32tab), ("math/bits.deBruijn64tab", laid_math_bits_deBruijn64tab), ("internal/strconv.uint64pow10", laid_internal_strconv_uint64pow10), ("unicode/utf8.acceptRanges", laid_unicode_utf8_acceptRanges), ("glideslope/tone.silent", laid_glideslope_tone_silent), ("unicode/utf8.first", laid_unicode_utf8_first)] }
def ToneFactorsSaid : Prop := toneFactorsRow.holds Tryz.pinned (OpenSpec.ofChange toneFactorsSpec)

/-- ITS FALSE NEIGHBOUR: 'it returns false'. Refute it at one input. -/
def toneFactorsWrong : ChangeSpec := { name := "toneFactors", fn := fun _ => fun
  | [d1, d2, d3] => { results := [.lit (.bool false)], args := [d1, d2, d3] }
  | _ => none }
def ToneFactorsWrongFalsely : Prop := toneFactorsRow.holds Tryz.pinned (OpenSpec.ofChange toneFactorsWrong)

/-- 'glideslopelaw02.ToneHeard': WHATEVER THE INPUT: true; the input reads as it did. -/
def toneHeardSpec : ChangeSpec := { name := "toneHeard", fn := fun _ => fun
  | [d1, d2, d3] => { results := [.lit (.bool true)], args := [d1, d2, d3] }
  | _ => none }
def toneHeardRow : OpenClaim := { program := "ytkphoimochkndaagreatdoor", sum := "748b5fb78bd5364face5c8a394a2b4cfc31aa834dc185a139f233500dcacc3d2", func := "glideslope/glideslopelaw02.ToneHeard", spec := "toneHeard", inPlace := ["internal/abi.NoEscape", "internal/bytealg.MakeNoZero", "internal/bytealg.IndexByteString", "internal/bytealg.CountString", "internal/bytealg.IndexString"], unfollowed := true, recurses := true, named := ["glideslope/tone.silent", "internal/strconv.uint64pow10", "math/bits.deBruijn32tab", "math/bits.deBruijn64tab", "unicode/utf8.first", "unicode/utf8.acceptRanges", "internal/bytealg.MaxLen"], apart := false, laid := [("math/bits.deBruijn32tab", laid_math_bits_deBruijn32tab), ("math/bits.deBruijn64tab", laid_math_bits_deBruijn64tab), ("internal/strconv.uint64pow10", laid_internal_strconv_uint64pow10), ("unicode/utf8.acceptRanges", laid_unicode_utf8_acceptRanges), ("glideslope/tone.silent", laid_glideslope_tone_silent), ("unicode/utf8.first", laid_unicode_utf8_first)] }
def ToneHeardSaid : Prop := toneHeardRow.holds Tryz.pinned (OpenSpec.ofChange toneHeardSpec)

/-- ITS FALSE NEIGHBOUR: 'it returns false'. Refute it at one input. -/
def toneHeardWrong : ChangeSpec := { name := "toneHeard", fn := fun _ => fun
  | [d1, d2, d3] => { results := [.lit (.bool false)], args := [d1, d2, d3] }
  | _ => none }
def ToneHeardWrongFalsely : Prop := toneHeardRow.holds Tryz.pinned (OpenSpec.ofChange toneHeardWrong)

/-- 'glideslopelaw02.ToneWithin': WHATEVER THE INPUT: true; the input reads as it did. -/
def toneWithinSpec : ChangeSpec := { name := "toneWithin", fn := fun _ => fun
  | [d1, d2, d3] => { results := [.lit (.bool true)], args := [d1, d2, d3] }
  | _ => none }
def toneWithinRow : OpenClaim := { program := "ytkphoimochkndaagreatdoor", sum := "748b5fb78bd5364face5c8a394a2b4cfc31aa834dc185a139f233500dcacc3d2", func := "glideslope/glideslopelaw02.ToneWithin", spec := "toneWithin", inPlace := ["internal/abi.NoEscape", "internal/bytealg.MakeNoZero", "internal/bytealg.IndexByteString", "internal/bytealg.CountString", "internal/bytealg.IndexString"], unfollowed := true, recurses := true, named := ["glideslope/tone.silent", "internal/strconv.uint64pow10", "math/bits.deBruijn32tab", "math/bits.deBruijn64tab", "unicode/utf8.first", "unicode/utf8.acceptRanges", "internal/bytealg.MaxLen"], apart := false, laid := [("math/bits.deBruijn32tab", laid_math_bits_deBruijn32tab), ("math/bits.deBruijn64tab", laid_math_bits_deBruijn64tab), ("internal/strconv.uint64pow10", laid_internal_strconv_uint64pow10), ("unicode/utf8.acceptRanges", laid_unicode_utf8_acceptRanges), ("glideslope/tone.silent", laid_glideslope_tone_silent), ("unicode/utf8.first", laid_unicode_utf8_first)] }
def ToneWithinSaid : Prop := toneWithinRow.holds Tryz.pinned (OpenSpec.ofChange toneWithinSpec)

/-- ITS FALSE NEIGHBOUR: 'it returns false'. Refute it at one input. -/
def toneWithinWrong : ChangeSpec := { name := "toneWithin", fn := fun _ => fun
  | [d1, d2, d3] => { results := [.lit (.bool false)], args := [d1, d2, d3] }
  | _ => none }
def ToneWithinWrongFalsely : Prop := toneWithinRow.holds Tryz.pinned (OpenSpec.ofChange toneWithinWrong)

/-- 'glideslopelaw02.ToneAgrees': WHATEVER THE INPUT: true; the input reads as it did. -/
def toneAgreesSpec : ChangeSpec := { name := "toneAgrees", fn := fun _ => fun
  | [d1, d2, d3] => { results := [.lit (.bool true)], args := [d1, d2, d3] }
  | _ => none }
def toneAgreesRow : OpenClaim := { program := "ytkphoimochkndaagreatdoor", sum := "748b5fb78bd5364face5c8a394a2b4cfc31aa834dc185a139f233500dcacc3d2", func := "glideslope/glideslopelaw02.ToneAgrees", spec := "toneAgrees", inPlace := ["internal/abi.NoEscape", "internal/bytealg.MakeNoZero", "internal/bytealg.IndexByteString", "internal/bytealg.CountString", "internal/bytealg.IndexString"], unfollowed := true, recurses := true, named := ["glideslope/tone.silent", "internal/strconv.uint64pow10", "math/bits.deBruijn32tab", "math/bits.deBruijn64tab", "unicode/utf8.first", "unicode/utf8.acceptRanges", "internal/bytealg.MaxLen"], apart := false, laid := [("math/bits.deBruijn32tab", laid_math_bits_deBruijn32tab), ("math/bits.deBruijn64tab", laid_math_bits_deBruijn64tab), ("internal/strconv.uint64pow10", laid_internal_strconv_uint64pow10), ("unicode/utf8.acceptRanges", laid_unicode_utf8_acceptRanges), ("glideslope/tone.silent", laid_glideslope_tone_silent), ("unicode/utf8.first", laid_unicode_utf8_first)] }
def ToneAgreesSaid : Prop := toneAgreesRow.holds Tryz.pinned (OpenSpec.ofChange toneAgreesSpec)

/-- ITS FALSE NEIGHBOUR: 'it returns false'. Refute it at one input. -/
def toneAgreesWrong : ChangeSpec := { name := "toneAgrees", fn := fun _ => fun
  | [d1, d2, d3] => { results := [.lit (.bool false)], args := [d1, d2, d3] }
  | _ => none }
def ToneAgreesWrongFalsely : Prop := toneAgreesRow.holds Tryz.pinned (OpenSpec.ofChange toneAgreesWrong)

/- THE SECOND FORM. 'bulk': how many values and letters a reading holds, each counted each time it is reached (what is shared counts as often as it is met; a slice's spare places count too). A statement '..UptoSaid' is the law's where the arguments, and the package variables that the reading takes, are together of bulk at most 1048576: NARROWER than '..Said'. Prove '..Said' where nothing that the law and all that it calls make is longer than what came in: it says more and counts as full. Else prove '..UptoSaid'. A law counts once. -/
mutual
def uptoBulk {H : Type} : DataW H → Nat
  | .lit (.string bytes) => bytes.length + 1
  | .lit _ => 1
  | .nil => 1
  | .ptr d => uptoBulk d + 1
  | .slice elems spare => uptoBulkAll elems + uptoBulkAll spare + 1
  | .agg parts => uptoBulkAll parts + 1
  | .iface _ d => uptoBulk d + 1
  | .map entries => uptoBulkEntries entries + 1
  | .held _ => 1
def uptoBulkAll {H : Type} : List (DataW H) → Nat
  | [] => 0
  | d :: r => uptoBulk d + uptoBulkAll r
def uptoBulkEntries {H : Type} : List (Lit × DataW H) → Nat
  | [] => 0
  | x :: r => uptoBulkEntry x + uptoBulkEntries r
def uptoBulkEntry {H : Type} : Lit × DataW H → Nat
  | (.string bytes, d) => bytes.length + uptoBulk d + 1
  | (_, d) => uptoBulk d + 1
 end
def uptoSmall : (H : Type) → List (DataW H) → Bool := fun _ ds => decide (uptoBulkAll ds ≤ 1048576)
def OpenSpec.upto (s : _root_.Go.ChangeSpec) : _root_.Go.OpenSpec := { _root_.Go.OpenSpec.ofChange s with cond := some uptoSmall }

/-- 'glideslopelaw02.ToneDepths', WHERE WHAT IT READS IS OF BULK AT MOST 1048576: true; the input reads as it did. -/
def toneDepthsUptoRow : OpenClaim := { program := "ytkphoimochkndaagreatdoor", sum := "748b5fb78bd5364face5c8a394a2b4cfc31aa834dc185a139f233500dcacc3d2", func := "glideslope/glideslopelaw02.ToneDepths", spec := "toneDepths", inPlace := ["internal/abi.NoEscape", "internal/bytealg.MakeNoZero", "internal/bytealg.IndexByteString", "internal/bytealg.CountString", "internal/bytealg.IndexString"], unfollowed := true, recurses := true, named := ["glideslope/tone.silent", "internal/strconv.uint64pow10", "math/bits.deBruijn32tab", "math/bits.deBruijn64tab", "unicode/utf8.first", "unicode/utf8.acceptRanges", "internal/bytealg.MaxLen"], apart := false, laid := [("math/bits.deBruijn32tab", laid_math_bits_deBruijn32tab), ("math/bits.deBruijn64tab", laid_math_bits_deBruijn64tab), ("internal/strconv.uint64pow10", laid_internal_strconv_uint64pow10), ("unicode/utf8.acceptRanges", laid_unicode_utf8_acceptRanges), ("glideslope/tone.silent", laid_glideslope_tone_silent), ("unicode/utf8.first", laid_unicode_utf8_first)], narrowed := true }
def ToneDepthsUptoSaid : Prop := toneDepthsUptoRow.holds Tryz.pinned (OpenSpec.upto toneDepthsSpec)

/-- 'glideslopelaw02.ToneChanges', WHERE WHAT IT READS IS OF BULK AT MOST 1048576: true; the input reads as it did. -/
def toneChangesUptoRow : OpenClaim := { program := "ytkphoimochkndaagreatdoor", sum := "748b5fb78bd5364face5c8a394a2b4cfc31aa834dc185a139f233500dcacc3d2", func := "glideslope/glideslopelaw02.ToneChanges", spec := "toneChanges", inPlace := ["internal/abi.NoEscape", "internal/bytealg.MakeNoZero", "internal/bytealg.IndexByteString", "internal/bytealg.CountString", "internal/bytealg.IndexString"], unfollowed := true, recurses := true, named := ["glideslope/tone.silent", "internal/strconv.uint64pow10", "math/bits.deBruijn32tab", "math/bits.deBruijn64tab", "unicode/utf8.first", "unicode/utf8.acceptRanges", "internal/bytealg.MaxLen"], apart := false, laid := [("math/bits.deBruijn32tab", laid_math_bits_deBruijn32tab), ("math/bits.deBruijn64tab", laid_math_bits_deBruijn64tab), ("internal/strconv.uint64pow10", laid_internal_strconv_uint64pow10), ("unicode/utf8.acceptRanges", laid_unicode_utf8_acceptRanges), ("glideslope/tone.silent", laid_glideslope_tone_silent), ("unicode/utf8.first", laid_unicode_utf8_first)], narrowed := true }
def ToneChangesUptoSaid : Prop := toneChangesUptoRow.holds Tryz.pinned (OpenSpec.upto toneChangesSpec)

/-- 'glideslopelaw02.ToneReceivers', WHERE WHAT IT READS IS OF BULK AT MOST 1048576: true; the input reads as it did. -/
def toneReceiversUptoRow : OpenClaim := { program := "ytkphoimochkndaagreatdoor", sum := "748b5fb78bd5364face5c8a394a2b4cfc31aa834dc185a139f233500dcacc3d2", func := "glideslope/glideslopelaw02.ToneReceivers", spec := "toneReceivers", inPlace := ["internal/abi.NoEscape", "internal/bytealg.MakeNoZero", "internal/bytealg.IndexByteString", "internal/bytealg.CountString", "internal/bytealg.IndexString"], unfollowed := true, recurses := true, named := ["glideslope/tone.silent", "internal/strconv.uint64pow10", "math/bits.deBruijn32tab", "math/bits.deBruijn64tab", "unicode/utf8.first", "unicode/utf8.acceptRanges", "internal/bytealg.MaxLen"], apart := false, laid := [("math/bits.deBruijn32tab", laid_math_bits_deBruijn32tab), ("math/bits.deBruijn64tab", laid_math_bits_deBruijn64tab), ("internal/strconv.uint64pow10", laid_internal_strconv_uint64pow10), ("unicode/utf8.acceptRanges", laid_unicode_utf8_acceptRanges), ("glideslope/tone.silent", laid_glideslope_tone_silent), ("unicode/utf8.first", laid_unicode_utf8_first)], narrowed := true }
def ToneReceiversUptoSaid : Prop := toneReceiversUptoRow.holds Tryz.pinned (OpenSpec.upto toneReceiversSpec)

/-- 'glideslopelaw02.ToneCaptures', WHERE WHAT IT READS IS OF BULK AT MOST 1048576: true; the input reads as it did. -/
def toneCapturesUptoRow : OpenClaim := { program := "ytkphoimochkndaagreatdoor", sum := "748b5fb78bd5364face5c8a394a2b4cfc31aa834dc185a139f233500dcacc3d2", func := "glideslope/glideslopelaw02.ToneCaptures", spec := "toneCaptures", inPlace := ["internal/abi.NoEscape", "internal/bytealg.MakeNoZero", "internal/bytealg.IndexByteString", "internal/bytealg.CountString", "internal/bytealg.IndexString"], unfollowed := true, recurses := true, named := ["glideslope/tone.silent", "internal/strconv.uint64pow10", "math/bits.deBruijn32tab", "math/bits.deBruijn64tab", "unicode/utf8.first", "unicode/utf8.acceptRanges", "internal/bytealg.MaxLen"], apart := false, laid := [("math/bits.deBruijn32tab", laid_math_bits_deBruijn32tab), ("math/bits.deBruijn64tab", laid_math_bits_deBruijn64tab), ("internal/strconv.uint64pow10", laid_internal_strconv_uint64pow10), ("unicode/utf8.acceptRanges", laid_unicode_utf8_acceptRanges), ("glideslope/tone.silent", laid_glideslope_tone_silent), ("unicode/utf8.first", laid_unicode_utf8_first)], narrowed := true }
def ToneCapturesUptoSaid : Prop := toneCapturesUptoRow.holds Tryz.pinned (OpenSpec.upto toneCapturesSpec)

/-- 'glideslopelaw02.ToneIntervals', WHERE WHAT IT READS IS OF BULK AT MOST 1048576: true; the input reads as it did. -/
def toneIntervalsUptoRow : OpenClaim := { program := "ytkphoimochkndaagreatdoor", sum := "748b5fb78bd5364face5c8a394a2b4cfc31aa834dc185a139f233500dcacc3d2", func := "glideslope/glideslopelaw02.ToneIntervals", spec := "toneIntervals", inPlace := ["internal/abi.NoEscape", "internal/bytealg.MakeNoZero", "internal/bytealg.IndexByteString", "internal/bytealg.CountString", "internal/bytealg.IndexString"], unfollowed := true, recurses := true, named := ["glideslope/tone.silent", "internal/strconv.uint64pow10", "math/bits.deBruijn32tab", "math/bits.deBruijn64tab", "unicode/utf8.first", "unicode/utf8.acceptRanges", "internal/bytealg.MaxLen"], apart := false, laid := [("math/bits.deBruijn32tab", laid_math_bits_deBruijn32tab), ("math/bits.deBruijn64tab", laid_math_bits_deBruijn64tab), ("internal/strconv.uint64pow10", laid_internal_strconv_uint64pow10), ("unicode/utf8.acceptRanges", laid_unicode_utf8_acceptRanges), ("glideslope/tone.silent", laid_glideslope_tone_silent), ("unicode/utf8.first", laid_unicode_utf8_first)], narrowed := true }
def ToneIntervalsUptoSaid : Prop := toneIntervalsUptoRow.holds Tryz.pinned (OpenSpec.upto toneIntervalsSpec)

/-- 'glideslopelaw02.ToneSpans', WHERE WHAT IT READS IS OF BULK AT MOST 1048576: true; the input reads as it did. -/
def toneSpansUptoRow : OpenClaim := { program := "ytkphoimochkndaagreatdoor", sum := "748b5fb78bd5364face5c8a394a2b4cfc31aa834dc185a139f233500dcacc3d2", func := "glideslope/glideslopelaw02.ToneSpans", spec := "toneSpans", inPlace := ["internal/abi.NoEscape", "internal/bytealg.MakeNoZero", "internal/bytealg.IndexByteString", "internal/bytealg.CountString", "internal/bytealg.IndexString"], unfollowed := true, recurses := true, named := ["glideslope/tone.silent", "internal/strconv.uint64pow10", "math/bits.deBruijn32tab", "math/bits.deBruijn64tab", "unicode/utf8.first", "unicode/utf8.acceptRanges", "internal/bytealg.MaxLen"], apart := false, laid := [("math/bits.deBruijn32tab", laid_math_bits_deBruijn32tab), ("math/bits.deBruijn64tab", laid_math_bits_deBruijn64tab), ("internal/strconv.uint64pow10", laid_internal_strconv_uint64pow10), ("unicode/utf8.acceptRanges", laid_unicode_utf8_acceptRanges), ("glideslope/tone.silent", laid_glideslope_tone_silent), ("unicode/utf8.first", laid_unicode_utf8_first)], narrowed := true }
def ToneSpansUptoSaid : Prop := toneSpansUptoRow.holds Tryz.pinned (OpenSpec.upto toneSpansSpec)

/-- 'glideslopelaw02.ToneStrings', WHERE WHAT IT READS IS OF BULK AT MOST 1048576: true; the input reads as it did. -/
def toneStringsUptoRow : OpenClaim := { program := "ytkphoimochkndaagreatdoor", sum := "748b5fb78bd5364face5c8a394a2b4cfc31aa834dc185a139f233500dcacc3d2", func := "glideslope/glideslopelaw02.ToneStrings", spec := "toneStrings", inPlace := ["internal/abi.NoEscape", "internal/bytealg.MakeNoZero", "internal/bytealg.IndexByteString", "internal/bytealg.CountString", "internal/bytealg.IndexString"], unfollowed := true, recurses := true, named := ["glideslope/tone.silent", "internal/strconv.uint64pow10", "math/bits.deBruijn32tab", "math/bits.deBruijn64tab", "unicode/utf8.first", "unicode/utf8.acceptRanges", "internal/bytealg.MaxLen"], apart := false, laid := [("math/bits.deBruijn32tab", laid_math_bits_deBruijn32tab), ("math/bits.deBruijn64tab", laid_math_bits_deBruijn64tab), ("internal/strconv.uint64pow10", laid_internal_strconv_uint64pow10), ("unicode/utf8.acceptRanges", laid_unicode_utf8_acceptRanges), ("glideslope/tone.silent", laid_glideslope_tone_silent), ("unicode/utf8.first", laid_unicode_utf8_first)], narrowed := true }
def ToneStringsUptoSaid : Prop := toneStringsUptoRow.holds Tryz.pinned (OpenSpec.upto toneStringsSpec)

/-- 'glideslopelaw02.ToneFactors', WHERE WHAT IT READS IS OF BULK AT MOST 1048576: true; the input reads as it did. -/
def toneFactorsUptoRow : OpenClaim := { program := "ytkphoimochkndaagreatdoor", sum := "748b5fb78bd5364face5c8a394a2b4cfc31aa834dc185a139f233500dcacc3d2", func := "glideslope/glideslopelaw02.ToneFactors", spec := "toneFactors", inPlace := ["internal/abi.NoEscape", "internal/bytealg.MakeNoZero", "internal/bytealg.IndexByteString", "internal/bytealg.CountString", "internal/bytealg.IndexString"], unfollowed := true, recurses := true, named := ["glideslope/tone.silent", "internal/strconv.uint64pow10", "math/bits.deBruijn32tab", "math/bits.deBruijn64tab", "unicode/utf8.first", "unicode/utf8.acceptRanges", "internal/bytealg.MaxLen"], apart := false, laid := [("math/bits.deBruijn32tab", laid_math_bits_deBruijn32tab), ("math/bits.deBruijn64tab", laid_math_bits_deBruijn64tab), ("internal/strconv.uint64pow10", laid_internal_strconv_uint64pow10), ("unicode/utf8.acceptRanges", laid_unicode_utf8_acceptRanges), ("glideslope/tone.silent", laid_glideslope_tone_silent), ("unicode/utf8.first", laid_unicode_utf8_first)], narrowed := true }
def ToneFactorsUptoSaid : Prop := toneFactorsUptoRow.holds Tryz.pinned (OpenSpec.upto toneFactorsSpec)

/-- 'glideslopelaw02.ToneHeard', WHERE WHAT IT READS IS OF BULK AT MOST 1048576: true; the input reads as it did. -/
def toneHeardUptoRow : OpenClaim := { program := "ytkphoimochkndaagreatdoor", sum := "748b5fb78bd5364face5c8a394a2b4cfc31aa834dc185a139f233500dcacc3d2", func := "glideslope/glideslopelaw02.ToneHeard", spec := "toneHeard", inPlace := ["internal/abi.NoEscape", "internal/bytealg.MakeNoZero", "internal/bytealg.IndexByteString", "internal/bytealg.CountString", "internal/bytealg.IndexString"], unfollowed := true, recurses := true, named := ["glideslope/tone.silent", "internal/strconv.uint64pow10", "math/bits.deBruijn32tab", "math/bits.deBruijn64tab", "unicode/utf8.first", "unicode/utf8.acceptRanges", "internal/bytealg.MaxLen"], apart := false, laid := [("math/bits.deBruijn32tab", laid_math_bits_deBruijn32tab), ("math/bits.deBruijn64tab", laid_math_bits_deBruijn64tab), ("internal/strconv.uint64pow10", laid_internal_strconv_uint64pow10), ("unicode/utf8.acceptRanges", laid_unicode_utf8_acceptRanges), ("glideslope/tone.silent", laid_glideslope_tone_silent), ("unicode/utf8.first", laid_unicode_utf8_first)], narrowed := true }
def ToneHeardUptoSaid : Prop := toneHeardUptoRow.holds Tryz.pinned (OpenSpec.upto toneHeardSpec)

/-- 'glideslopelaw02.ToneWithin', WHERE WHAT IT READS IS OF BULK AT MOST 1048576: true; the input reads as it did. -/
def toneWithinUptoRow : OpenClaim := { program := "ytkphoimochkndaagreatdoor", sum := "748b5fb78bd5364face5c8a394a2b4cfc31aa834dc185a139f233500dcacc3d2", func := "glideslope/glideslopelaw02.ToneWithin", spec := "toneWithin", inPlace := ["internal/abi.NoEscape", "internal/bytealg.MakeNoZero", "internal/bytealg.IndexByteString", "internal/bytealg.CountString", "internal/bytealg.IndexString"], unfollowed := true, recurses := true, named := ["glideslope/tone.silent", "internal/strconv.uint64pow10", "math/bits.deBruijn32tab", "math/bits.deBruijn64tab", "unicode/utf8.first", "unicode/utf8.acceptRanges", "internal/bytealg.MaxLen"], apart := false, laid := [("math/bits.deBruijn32tab", laid_math_bits_deBruijn32tab), ("math/bits.deBruijn64tab", laid_math_bits_deBruijn64tab), ("internal/strconv.uint64pow10", laid_internal_strconv_uint64pow10), ("unicode/utf8.acceptRanges", laid_unicode_utf8_acceptRanges), ("glideslope/tone.silent", laid_glideslope_tone_silent), ("unicode/utf8.first", laid_unicode_utf8_first)], narrowed := true }
def ToneWithinUptoSaid : Prop := toneWithinUptoRow.holds Tryz.pinned (OpenSpec.upto toneWithinSpec)

/-- 'glideslopelaw02.ToneAgrees', WHERE WHAT IT READS IS OF BULK AT MOST 1048576: true; the input reads as it did. -/
def toneAgreesUptoRow : OpenClaim := { program := "ytkphoimochkndaagreatdoor", sum := "748b5fb78bd5364face5c8a394a2b4cfc31aa834dc185a139f233500dcacc3d2", func := "glideslope/glideslopelaw02.ToneAgrees", spec := "toneAgrees", inPlace := ["internal/abi.NoEscape", "internal/bytealg.MakeNoZero", "internal/bytealg.IndexByteString", "internal/bytealg.CountString", "internal/bytealg.IndexString"], unfollowed := true, recurses := true, named := ["glideslope/tone.silent", "internal/strconv.uint64pow10", "math/bits.deBruijn32tab", "math/bits.deBruijn64tab", "unicode/utf8.first", "unicode/utf8.acceptRanges", "internal/bytealg.MaxLen"], apart := false, laid := [("math/bits.deBruijn32tab", laid_math_bits_deBruijn32tab), ("math/bits.deBruijn64tab", laid_math_bits_deBruijn64tab), ("internal/strconv.uint64pow10", laid_internal_strconv_uint64pow10), ("unicode/utf8.acceptRanges", laid_unicode_utf8_acceptRanges), ("glideslope/tone.silent", laid_glideslope_tone_silent), ("unicode/utf8.first", laid_unicode_utf8_first)], narrowed := true }
def ToneAgreesUptoSaid : Prop := toneAgreesUptoRow.holds Tryz.pinned (OpenSpec.upto toneAgreesSpec)

end Rows
end Go.Proofs.YtkphoimochkndaaGreatDoor
