/-
  NARROWER THAN 'FOR EVERY INPUT', by the rows' own cells (each row's printed sentence says how): FnExactStairOf: laid · FnExactTraceOf: laid · FnStairs: laid · FnEndsAreLeast: laid · FnFourRefuse: laid · FnLevelRanks: laid · FnExactParseAscent: laid · FnRefinements: laid · FnMirroredEnds: laid · FnStretchedIntervals: laid · FnSetsAlong: laid.
  DERIVED. THE GIVEN ROWS OF THIS SEAT. 11 by the template 'for every input the law returns true; each argument reads behind the call as it read before'; 0 by the template 'total and deterministic' (their statements: YtimjblnglhmakaaDoorTotals.lean).
  GIVEN WITH THE SEED: the statements are not yours to turn. If you find one false, say at which input.
  Laid BY PROGRAM, IN A SANDBOX (cutbox-rows.mjs): the forced cells as the released guide's own fill.sh prints them over the translation 0bb1ab7be38544b5… (all of the seat's roots in one cut). By AI agents, Wed Nov 11 2026. No macro, syntax, notation, axiom, sorry.
-/
import Derived.Test.YtimjblnglhmakaaDoorChecked
import GoSem.PinnedTables
import GoSem.Claim
import GoSem.ClaimJoined
import GoSem.ClaimMapViews
import Derived.JoinedTies
import Derived.KernelRfl
namespace Go.Proofs.YtimjblnglhmakaaDoor
/- THE CELL 'sum', in the pinned program and in every row, IS THE sha256 OF THE DUMP (.gsa) THAT YtimjblnglhmakaaDoorProg.lean LOADS. Nothing in Lean hashes anything: it is a label: what it is worth is what the hold of that sum in a sandbox is worth. -/
noncomputable def Tryd.pinned : Pinned := { name := "ytimjblnglhmakaadoor", sum := "0bb1ab7be38544b56efd006816bcddc506236bfebe71313e20951928dc8df638", checked := Tryd.checked }
namespace Rows
def none {H : Type} : Left H := { results := [], args := [] }

/- WHAT THE LISTED PACKAGE-LEVEL VARIABLES READ AS WHEN THE CALL BEGINS. Each datum BY PROGRAM (the guide's laid-datum.mjs) off the statement by which the dump's own 'gosem.cut.vars' lays the variable. In a bare row this is a premise. The card (YtimjblnglhmakaaDoorCards.lean) ties it to the program's text. -/
def laid_math_bits_deBruijn32tab {H : Type} : DataW H := .agg [.lit (.int .u8 0), .lit (.int .u8 1), .lit (.int .u8 28), .lit (.int .u8 2), .lit (.int .u8 29), .lit (.int .u8 14), .lit (.int .u8 24), .lit (.int .u8 3), .lit (.int .u8 30), .lit (.int .u8 22), .lit (.int .u8 20), .lit (.int .u8 15), .lit (.int .u8 25), .lit (.int .u8 17), .lit (.int .u8 4), .lit (.int .u8 8), .lit (.int .u8 31), .lit (.int .u8 27), .lit (.int .u8 13), .lit (.int .u8 23), .lit (.int .u8 21), .lit (.int .u8 19), .lit (.int .u8 16), .lit (.int .u8 7), .lit (.int .u8 26), .lit (.int .u8 12), .lit (.int .u8 18), .lit (.int .u8 6), .lit (.int .u8 11), .lit (.int .u8 5), .lit (.int .u8 10), .lit (.int .u8 9)]
def laid_math_bits_deBruijn64tab {H : Type} : DataW H := .agg [.lit (.int .u8 0), .lit (.int .u8 1), .lit (.int .u8 56), .lit (.int .u8 2), .lit (.int .u8 57), .lit (.int .u8 49), .lit (.int .u8 28), .lit (.int .u8 3), .lit (.int .u8 61), .lit (.int .u8 58), .lit (.int .u8 42), .lit (.int .u8 50), .lit (.int .u8 38), .lit (.int .u8 29), .lit (.int .u8 17), .lit (.int .u8 4), .lit (.int .u8 62), .lit (.int .u8 47), .lit (.int .u8 59), .lit (.int .u8 36), .lit (.int .u8 45), .lit (.int .u8 43), .lit (.int .u8 51), .lit (.int .u8 22), .lit (.int .u8 53), .lit (.int .u8 39), .lit (.int .u8 33), .lit (.int .u8 30), .lit (.int .u8 24), .lit (.int .u8 18), .lit (.int .u8 12), .lit (.int .u8 5), .lit (.int .u8 63), .lit (.int .u8 55), .lit (.int .u8 48), .lit (.int .u8 27), .lit (.int .u8 60), .lit (.int .u8 41), .lit (.int .u8 37), .lit (.int .u8 16), .lit (.int .u8 46), .lit (.int .u8 35), .lit (.int .u8 44), .lit (.int .u8 21), .lit (.int .u8 52), .lit (.int .u8 32), .lit (.int .u8 23), .lit (.int .u8 11), .lit (.int .u8 54), .lit (.int .u8 26), .lit (.int .u8 40), .lit (.int .u8 15), .lit (.int .u8 34), .lit (.int .u8 20), .lit (.int .u8 31), .lit (.int .u8 10), .lit (.int .u8 25), .lit (.int .u8 14), .lit (.int .u8 19), .lit (.int .u8 9), .lit (.int .u8 13), .lit (.int .u8 8), .lit (.int .u8 7), .lit (.int .u8 6)]
def laid_internal_strconv_uint64pow10 {H : Type} : DataW H := .agg [.lit (.int .u64 1), .lit (.int .u64 10), .lit (.int .u64 100), .lit (.int .u64 1000), .lit (.int .u64 10000), .lit (.int .u64 100000), .lit (.int .u64 1000000), .lit (.int .u64 10000000), .lit (.int .u64 100000000), .lit (.int .u64 1000000000), .lit (.int .u64 10000000000), .lit (.int .u64 100000000000), .lit (.int .u64 1000000000000), .lit (.int .u64 10000000000000), .lit (.int .u64 100000000000000), .lit (.int .u64 1000000000000000), .lit (.int .u64 10000000000000000), .lit (.int .u64 100000000000000000), .lit (.int .u64 1000000000000000000), .lit (.int .u64 10000000000000000000)]
def laid_unicode_utf8_acceptRanges {H : Type} : DataW H := .agg [.agg [.lit (.int .u8 128), .lit (.int .u8 191)], .agg [.lit (.int .u8 160), .lit (.int .u8 191)], .agg [.lit (.int .u8 128), .lit (.int .u8 159)], .agg [.lit (.int .u8 144), .lit (.int .u8 191)], .agg [.lit (.int .u8 128), .lit (.int .u8 143)], .agg [.lit (.int .u8 0), .lit (.int .u8 0)], .agg [.lit (.int .u8 0), .lit (.int .u8 0)], .agg [.lit (.int .u8 0), .lit (.int .u8 0)], .agg [.lit (.int .u8 0), .lit (.int .u8 0)], .agg [.lit (.int .u8 0), .lit (.int .u8 0)], .agg [.lit (.int .u8 0), .lit (.int .u8 0)], .agg [.lit (.int .u8 0), .lit (.int .u8 0)], .agg [.lit (.int .u8 0), .lit (.int .u8 0)], .agg [.lit (.int .u8 0), .lit (.int .u8 0)], .agg [.lit (.int .u8 0), .lit (.int .u8 0)], .agg [.lit (.int .u8 0), .lit (.int .u8 0)]]
def laid_strconv_ErrRange {H : Type} : DataW H := .iface "*errors.errorString" (.ptr (.agg [.lit (.string [118, 97, 108, 117, 101, 32, 111, 117, 116, 32, 111, 102, 32, 114, 97, 110, 103, 101])]))
def laid_strconv_ErrSyntax {H : Type} : DataW H := .iface "*errors.errorString" (.ptr (.agg [.lit (.string [105, 110, 118, 97, 108, 105, 100, 32, 115, 121, 110, 116, 97, 120])]))
/-- One of Go's own tables, pinned by name: the form's constant. -/
def laid_unicode_utf8_first : DataW Unit := Go.Pinned.utf8First

/-- 'laws.FnExactStairOf': WHATEVER THE INPUT: true; the input reads as it did. -/
def fnExactStairOfSpec : ChangeSpec := { name := "fnExactStairOf", fn := fun _ => fun
  | [d] => { results := [.lit (.bool true)], args := [d] }
  | _ => none }
def fnExactStairOfRow : OpenClaim := { program := "ytimjblnglhmakaadoor", sum := "0bb1ab7be38544b56efd006816bcddc506236bfebe71313e20951928dc8df638", func := "loop.example/g01106/laws.FnExactStairOf", spec := "fnExactStairOf", unfollowed := true, recurses := true, named := ["math/bits.deBruijn32tab", "math/bits.deBruijn64tab"], apart := false, laid := [("math/bits.deBruijn32tab", laid_math_bits_deBruijn32tab), ("math/bits.deBruijn64tab", laid_math_bits_deBruijn64tab)] }
def FnExactStairOfSaid : Prop := fnExactStairOfRow.holds Tryd.pinned (OpenSpec.ofChange fnExactStairOfSpec)

/-- ITS FALSE NEIGHBOUR: 'it returns false'. Refute it at one input. -/
def fnExactStairOfWrong : ChangeSpec := { name := "fnExactStairOf", fn := fun _ => fun
  | [d] => { results := [.lit (.bool false)], args := [d] }
  | _ => none }
def FnExactStairOfWrongFalsely : Prop := fnExactStairOfRow.holds Tryd.pinned (OpenSpec.ofChange fnExactStairOfWrong)

/-- 'laws.FnExactTraceOf': WHATEVER THE INPUT: true; the input reads as it did. -/
def fnExactTraceOfSpec : ChangeSpec := { name := "fnExactTraceOf", fn := fun _ => fun
  | [d] => { results := [.lit (.bool true)], args := [d] }
  | _ => none }
def fnExactTraceOfRow : OpenClaim := { program := "ytimjblnglhmakaadoor", sum := "0bb1ab7be38544b56efd006816bcddc506236bfebe71313e20951928dc8df638", func := "loop.example/g01106/laws.FnExactTraceOf", spec := "fnExactTraceOf", unfollowed := true, recurses := true, named := ["math/bits.deBruijn32tab", "math/bits.deBruijn64tab"], apart := false, laid := [("math/bits.deBruijn32tab", laid_math_bits_deBruijn32tab), ("math/bits.deBruijn64tab", laid_math_bits_deBruijn64tab)] }
def FnExactTraceOfSaid : Prop := fnExactTraceOfRow.holds Tryd.pinned (OpenSpec.ofChange fnExactTraceOfSpec)

/-- ITS FALSE NEIGHBOUR: 'it returns false'. Refute it at one input. -/
def fnExactTraceOfWrong : ChangeSpec := { name := "fnExactTraceOf", fn := fun _ => fun
  | [d] => { results := [.lit (.bool false)], args := [d] }
  | _ => none }
def FnExactTraceOfWrongFalsely : Prop := fnExactTraceOfRow.holds Tryd.pinned (OpenSpec.ofChange fnExactTraceOfWrong)

/-- 'laws.FnStairs': WHATEVER THE INPUT: true; the input reads as it did. -/
def fnStairsSpec : ChangeSpec := { name := "fnStairs", fn := fun _ => fun
  | [d1, d2] => { results := [.lit (.bool true)], args := [d1, d2] }
  | _ => none }
def fnStairsRow : OpenClaim := { program := "ytimjblnglhmakaadoor", sum := "0bb1ab7be38544b56efd006816bcddc506236bfebe71313e20951928dc8df638", func := "loop.example/g01106/laws.FnStairs", spec := "fnStairs", unfollowed := true, recurses := true, named := ["math/bits.deBruijn32tab", "math/bits.deBruijn64tab"], apart := false, laid := [("math/bits.deBruijn32tab", laid_math_bits_deBruijn32tab), ("math/bits.deBruijn64tab", laid_math_bits_deBruijn64tab)] }
def FnStairsSaid : Prop := fnStairsRow.holds Tryd.pinned (OpenSpec.ofChange fnStairsSpec)

/-- ITS FALSE NEIGHBOUR: 'it returns false'. Refute it at one input. -/
def fnStairsWrong : ChangeSpec := { name := "fnStairs", fn := fun _ => fun
  | [d1, d2] => { results := [.lit (.bool false)], args := [d1, d2] }
  | _ => none }
def FnStairsWrongFalsely : Prop := fnStairsRow.holds Tryd.pinned (OpenSpec.ofChange fnStairsWrong)

/-- 'laws.FnEndsAreLeast': WHATEVER THE INPUT: true; the input reads as it did. -/
def fnEndsAreLeastSpec : ChangeSpec := { name := "fnEndsAreLeast", fn := fun _ => fun
  | [d1, d2] => { results := [.lit (.bool true)], args := [d1, d2] }
  | _ => none }
def fnEndsAreLeastRow : OpenClaim := { program := "ytimjblnglhmakaadoor", sum := "0bb1ab7be38544b56efd006816bcddc506236bfebe71313e20951928dc8df638", func := "loop.example/g01106/laws.FnEndsAreLeast", spec := "fnEndsAreLeast", unfollowed := true, recurses := true, named := ["math/bits.deBruijn32tab", "math/bits.deBruijn64tab"], apart := false, laid := [("math/bits.deBruijn32tab", laid_math_bits_deBruijn32tab), ("math/bits.deBruijn64tab", laid_math_bits_deBruijn64tab)] }
def FnEndsAreLeastSaid : Prop := fnEndsAreLeastRow.holds Tryd.pinned (OpenSpec.ofChange fnEndsAreLeastSpec)

/-- ITS FALSE NEIGHBOUR: 'it returns false'. Refute it at one input. -/
def fnEndsAreLeastWrong : ChangeSpec := { name := "fnEndsAreLeast", fn := fun _ => fun
  | [d1, d2] => { results := [.lit (.bool false)], args := [d1, d2] }
  | _ => none }
def FnEndsAreLeastWrongFalsely : Prop := fnEndsAreLeastRow.holds Tryd.pinned (OpenSpec.ofChange fnEndsAreLeastWrong)

/-- 'laws.FnFourRefuse': WHATEVER THE INPUT: true; the input reads as it did. -/
def fnFourRefuseSpec : ChangeSpec := { name := "fnFourRefuse", fn := fun _ => fun
  | [d1, d2] => { results := [.lit (.bool true)], args := [d1, d2] }
  | _ => none }
def fnFourRefuseRow : OpenClaim := { program := "ytimjblnglhmakaadoor", sum := "0bb1ab7be38544b56efd006816bcddc506236bfebe71313e20951928dc8df638", func := "loop.example/g01106/laws.FnFourRefuse", spec := "fnFourRefuse", unfollowed := true, recurses := true, named := ["math/bits.deBruijn32tab", "math/bits.deBruijn64tab"], apart := false, laid := [("math/bits.deBruijn32tab", laid_math_bits_deBruijn32tab), ("math/bits.deBruijn64tab", laid_math_bits_deBruijn64tab)] }
def FnFourRefuseSaid : Prop := fnFourRefuseRow.holds Tryd.pinned (OpenSpec.ofChange fnFourRefuseSpec)

/-- ITS FALSE NEIGHBOUR: 'it returns false'. Refute it at one input. -/
def fnFourRefuseWrong : ChangeSpec := { name := "fnFourRefuse", fn := fun _ => fun
  | [d1, d2] => { results := [.lit (.bool false)], args := [d1, d2] }
  | _ => none }
def FnFourRefuseWrongFalsely : Prop := fnFourRefuseRow.holds Tryd.pinned (OpenSpec.ofChange fnFourRefuseWrong)

/-- 'laws.FnLevelRanks': WHATEVER THE INPUT: true; the input reads as it did. -/
def fnLevelRanksSpec : ChangeSpec := { name := "fnLevelRanks", fn := fun _ => fun
  | [d1, d2] => { results := [.lit (.bool true)], args := [d1, d2] }
  | _ => none }
def fnLevelRanksRow : OpenClaim := { program := "ytimjblnglhmakaadoor", sum := "0bb1ab7be38544b56efd006816bcddc506236bfebe71313e20951928dc8df638", func := "loop.example/g01106/laws.FnLevelRanks", spec := "fnLevelRanks", unfollowed := true, recurses := true, named := ["math/bits.deBruijn32tab", "math/bits.deBruijn64tab"], apart := false, laid := [("math/bits.deBruijn32tab", laid_math_bits_deBruijn32tab), ("math/bits.deBruijn64tab", laid_math_bits_deBruijn64tab)] }
def FnLevelRanksSaid : Prop := fnLevelRanksRow.holds Tryd.pinned (OpenSpec.ofChange fnLevelRanksSpec)

/-- ITS FALSE NEIGHBOUR: 'it returns false'. Refute it at one input. -/
def fnLevelRanksWrong : ChangeSpec := { name := "fnLevelRanks", fn := fun _ => fun
  | [d1, d2] => { results := [.lit (.bool false)], args := [d1, d2] }
  | _ => none }
def FnLevelRanksWrongFalsely : Prop := fnLevelRanksRow.holds Tryd.pinned (OpenSpec.ofChange fnLevelRanksWrong)

/-- 'laws.FnExactParseAscent': WHATEVER THE INPUT: true; the input reads as it did. -/
def fnExactParseAscentSpec : ChangeSpec := { name := "fnExactParseAscent", fn := fun _ => fun
  | [d] => { results := [.lit (.bool true)], args := [d] }
  | _ => none }
def fnExactParseAscentRow : OpenClaim := { program := "ytimjblnglhmakaadoor", sum := "0bb1ab7be38544b56efd006816bcddc506236bfebe71313e20951928dc8df638", func := "loop.example/g01106/laws.FnExactParseAscent", spec := "fnExactParseAscent", inPlace := ["internal/bytealg.CountString", "internal/bytealg.IndexByteString", "internal/bytealg.IndexString", "internal/abi.NoEscape", "internal/bytealg.MakeNoZero"], named := ["unicode/utf8.first", "unicode/utf8.acceptRanges", "internal/bytealg.MaxLen", "strconv.ErrSyntax", "strconv.ErrRange", "internal/strconv.uint64pow10", "math/bits.deBruijn32tab", "math/bits.deBruijn64tab"], apart := false, laid := [("math/bits.deBruijn32tab", laid_math_bits_deBruijn32tab), ("math/bits.deBruijn64tab", laid_math_bits_deBruijn64tab), ("internal/strconv.uint64pow10", laid_internal_strconv_uint64pow10), ("unicode/utf8.acceptRanges", laid_unicode_utf8_acceptRanges), ("strconv.ErrRange", laid_strconv_ErrRange), ("strconv.ErrSyntax", laid_strconv_ErrSyntax), ("unicode/utf8.first", laid_unicode_utf8_first)] }
def FnExactParseAscentSaid : Prop := fnExactParseAscentRow.holds Tryd.pinned (OpenSpec.ofChange fnExactParseAscentSpec)

/-- ITS FALSE NEIGHBOUR: 'it returns false'. Refute it at one input. -/
def fnExactParseAscentWrong : ChangeSpec := { name := "fnExactParseAscent", fn := fun _ => fun
  | [d] => { results := [.lit (.bool false)], args := [d] }
  | _ => none }
def FnExactParseAscentWrongFalsely : Prop := fnExactParseAscentRow.holds Tryd.pinned (OpenSpec.ofChange fnExactParseAscentWrong)

/-- 'laws.FnRefinements': WHATEVER THE INPUT: true; the input reads as it did. -/
def fnRefinementsSpec : ChangeSpec := { name := "fnRefinements", fn := fun _ => fun
  | [d1, d2] => { results := [.lit (.bool true)], args := [d1, d2] }
  | _ => none }
def fnRefinementsRow : OpenClaim := { program := "ytimjblnglhmakaadoor", sum := "0bb1ab7be38544b56efd006816bcddc506236bfebe71313e20951928dc8df638", func := "loop.example/g01106/laws.FnRefinements", spec := "fnRefinements", unfollowed := true, recurses := true, named := ["math/bits.deBruijn32tab", "math/bits.deBruijn64tab"], apart := false, laid := [("math/bits.deBruijn32tab", laid_math_bits_deBruijn32tab), ("math/bits.deBruijn64tab", laid_math_bits_deBruijn64tab)] }
def FnRefinementsSaid : Prop := fnRefinementsRow.holds Tryd.pinned (OpenSpec.ofChange fnRefinementsSpec)

/-- ITS FALSE NEIGHBOUR: 'it returns false'. Refute it at one input. -/
def fnRefinementsWrong : ChangeSpec := { name := "fnRefinements", fn := fun _ => fun
  | [d1, d2] => { results := [.lit (.bool false)], args := [d1, d2] }
  | _ => none }
def FnRefinementsWrongFalsely : Prop := fnRefinementsRow.holds Tryd.pinned (OpenSpec.ofChange fnRefinementsWrong)

/-- 'laws.FnMirroredEnds': WHATEVER THE INPUT: true; the input reads as it did. -/
def fnMirroredEndsSpec : ChangeSpec := { name := "fnMirroredEnds", fn := fun _ => fun
  | [d1, d2] => { results := [.lit (.bool true)], args := [d1, d2] }
  | _ => none }
def fnMirroredEndsRow : OpenClaim := { program := "ytimjblnglhmakaadoor", sum := "0bb1ab7be38544b56efd006816bcddc506236bfebe71313e20951928dc8df638", func := "loop.example/g01106/laws.FnMirroredEnds", spec := "fnMirroredEnds", unfollowed := true, recurses := true, named := ["math/bits.deBruijn32tab", "math/bits.deBruijn64tab"], apart := false, laid := [("math/bits.deBruijn32tab", laid_math_bits_deBruijn32tab), ("math/bits.deBruijn64tab", laid_math_bits_deBruijn64tab)] }
def FnMirroredEndsSaid : Prop := fnMirroredEndsRow.holds Tryd.pinned (OpenSpec.ofChange fnMirroredEndsSpec)

/-- ITS FALSE NEIGHBOUR: 'it returns false'. Refute it at one input. -/
def fnMirroredEndsWrong : ChangeSpec := { name := "fnMirroredEnds", fn := fun _ => fun
  | [d1, d2] => { results := [.lit (.bool false)], args := [d1, d2] }
  | _ => none }
def FnMirroredEndsWrongFalsely : Prop := fnMirroredEndsRow.holds Tryd.pinned (OpenSpec.ofChange fnMirroredEndsWrong)

/-- 'laws.FnStretchedIntervals': WHATEVER THE INPUT: true; the input reads as it did. -/
def fnStretchedIntervalsSpec : ChangeSpec := { name := "fnStretchedIntervals", fn := fun _ => fun
  | [d1, d2] => { results := [.lit (.bool true)], args := [d1, d2] }
  | _ => none }
def fnStretchedIntervalsRow : OpenClaim := { program := "ytimjblnglhmakaadoor", sum := "0bb1ab7be38544b56efd006816bcddc506236bfebe71313e20951928dc8df638", func := "loop.example/g01106/laws.FnStretchedIntervals", spec := "fnStretchedIntervals", unfollowed := true, recurses := true, named := ["math/bits.deBruijn32tab", "math/bits.deBruijn64tab"], apart := false, laid := [("math/bits.deBruijn32tab", laid_math_bits_deBruijn32tab), ("math/bits.deBruijn64tab", laid_math_bits_deBruijn64tab)] }
def FnStretchedIntervalsSaid : Prop := fnStretchedIntervalsRow.holds Tryd.pinned (OpenSpec.ofChange fnStretchedIntervalsSpec)

/-- ITS FALSE NEIGHBOUR: 'it returns false'. Refute it at one input. -/
def fnStretchedIntervalsWrong : ChangeSpec := { name := "fnStretchedIntervals", fn := fun _ => fun
  | [d1, d2] => { results := [.lit (.bool false)], args := [d1, d2] }
  | _ => none }
def FnStretchedIntervalsWrongFalsely : Prop := fnStretchedIntervalsRow.holds Tryd.pinned (OpenSpec.ofChange fnStretchedIntervalsWrong)

/-- 'laws.FnSetsAlong': WHATEVER THE INPUT: true; the input reads as it did. -/
def fnSetsAlongSpec : ChangeSpec := { name := "fnSetsAlong", fn := fun _ => fun
  | [d1, d2] => { results := [.lit (.bool true)], args := [d1, d2] }
  | _ => none }
def fnSetsAlongRow : OpenClaim := { program := "ytimjblnglhmakaadoor", sum := "0bb1ab7be38544b56efd006816bcddc506236bfebe71313e20951928dc8df638", func := "loop.example/g01106/laws.FnSetsAlong", spec := "fnSetsAlong", unfollowed := true, recurses := true, named := ["math/bits.deBruijn32tab", "math/bits.deBruijn64tab"], apart := false, laid := [("math/bits.deBruijn32tab", laid_math_bits_deBruijn32tab), ("math/bits.deBruijn64tab", laid_math_bits_deBruijn64tab)] }
def FnSetsAlongSaid : Prop := fnSetsAlongRow.holds Tryd.pinned (OpenSpec.ofChange fnSetsAlongSpec)

/-- ITS FALSE NEIGHBOUR: 'it returns false'. Refute it at one input. -/
def fnSetsAlongWrong : ChangeSpec := { name := "fnSetsAlong", fn := fun _ => fun
  | [d1, d2] => { results := [.lit (.bool false)], args := [d1, d2] }
  | _ => none }
def FnSetsAlongWrongFalsely : Prop := fnSetsAlongRow.holds Tryd.pinned (OpenSpec.ofChange fnSetsAlongWrong)

/- THE SECOND FORM. 'bulk': how many values and letters a reading holds, each counted each time it is reached (what is shared counts as often as it is met; a slice's spare places count too). A statement '..UptoSaid' is the law's where the arguments, and the package variables that the reading takes, are together of bulk at most 1048576: NARROWER than '..Said'. Prove '..Said' where nothing that the law and all that it calls make is longer than what came in: it says more and counts as full. Else prove '..UptoSaid'. A law counts once. -/
mutual
def uptoBulk {H : Type} : DataW H → Nat
  | .lit (.string bytes) => bytes.length + 1
  | .lit _ => 1
  | .nil => 1
  | .ptr d => uptoBulk d + 1
  | .slice elems spare => uptoBulkAll elems + uptoBulkAll spare + 1
  | .agg parts => uptoBulkAll parts + 1
  | .iface _ d => uptoBulk d + 1
  | .map entries => uptoBulkEntries entries + 1
  | .held _ => 1
def uptoBulkAll {H : Type} : List (DataW H) → Nat
  | [] => 0
  | d :: r => uptoBulk d + uptoBulkAll r
def uptoBulkEntries {H : Type} : List (Lit × DataW H) → Nat
  | [] => 0
  | x :: r => uptoBulkEntry x + uptoBulkEntries r
def uptoBulkEntry {H : Type} : Lit × DataW H → Nat
  | (.string bytes, d) => bytes.length + uptoBulk d + 1
  | (_, d) => uptoBulk d + 1
 end
def uptoSmall : (H : Type) → List (DataW H) → Bool := fun _ ds => decide (uptoBulkAll ds ≤ 1048576)
def OpenSpec.upto (s : _root_.Go.ChangeSpec) : _root_.Go.OpenSpec := { _root_.Go.OpenSpec.ofChange s with cond := some uptoSmall }

/-- 'laws.FnExactStairOf', WHERE WHAT IT READS IS OF BULK AT MOST 1048576: true; the input reads as it did. -/
def fnExactStairOfUptoRow : OpenClaim := { program := "ytimjblnglhmakaadoor", sum := "0bb1ab7be38544b56efd006816bcddc506236bfebe71313e20951928dc8df638", func := "loop.example/g01106/laws.FnExactStairOf", spec := "fnExactStairOf", unfollowed := true, recurses := true, named := ["math/bits.deBruijn32tab", "math/bits.deBruijn64tab"], apart := false, laid := [("math/bits.deBruijn32tab", laid_math_bits_deBruijn32tab), ("math/bits.deBruijn64tab", laid_math_bits_deBruijn64tab)], narrowed := true }
def FnExactStairOfUptoSaid : Prop := fnExactStairOfUptoRow.holds Tryd.pinned (OpenSpec.upto fnExactStairOfSpec)

/-- 'laws.FnExactTraceOf', WHERE WHAT IT READS IS OF BULK AT MOST 1048576: true; the input reads as it did. -/
def fnExactTraceOfUptoRow : OpenClaim := { program := "ytimjblnglhmakaadoor", sum := "0bb1ab7be38544b56efd006816bcddc506236bfebe71313e20951928dc8df638", func := "loop.example/g01106/laws.FnExactTraceOf", spec := "fnExactTraceOf", unfollowed := true, recurses := true, named := ["math/bits.deBruijn32tab", "math/bits.deBruijn64tab"], apart := false, laid := [("math/bits.deBruijn32tab", laid_math_bits_deBruijn32tab), ("math/bits.deBruijn64tab", laid_math_bits_deBruijn64tab)], narrowed := true }
def FnExactTraceOfUptoSaid : Prop := fnExactTraceOfUptoRow.holds Tryd.pinned (OpenSpec.upto fnExactTraceOfSpec)

/-- 'laws.FnStairs', WHERE WHAT IT READS IS OF BULK AT MOST 1048576: true; the input reads as it did. -/
def fnStairsUptoRow : OpenClaim := { program := "ytimjblnglhmakaadoor", sum := "0bb1ab7be38544b56efd006816bcddc506236bfebe71313e20951928dc8df638", func := "loop.example/g01106/laws.FnStairs", spec := "fnStairs", unfollowed := true, recurses := true, named := ["math/bits.deBruijn32tab", "math/bits.deBruijn64tab"], apart := false, laid := [("math/bits.deBruijn32tab", laid_math_bits_deBruijn32tab), ("math/bits.deBruijn64tab", laid_math_bits_deBruijn64tab)], narrowed := true }
def FnStairsUptoSaid : Prop := fnStairsUptoRow.holds Tryd.pinned (OpenSpec.upto fnStairsSpec)

/-- 'laws.FnEndsAreLeast', WHERE WHAT IT READS IS OF BULK AT MOST 1048576: true; the input reads as it did. -/
def fnEndsAreLeastUptoRow : OpenClaim := { program := "ytimjblnglhmakaadoor", sum := "0bb1ab7be38544b56efd006816bcddc506236bfebe71313e20951928dc8df638", func := "loop.example/g01106/laws.FnEndsAreLeast", spec := "fnEndsAreLeast", unfollowed := true, recurses := true, named := ["math/bits.deBruijn32tab", "math/bits.deBruijn64tab"], apart := false, laid := [("math/bits.deBruijn32tab", laid_math_bits_deBruijn32tab), ("math/bits.deBruijn64tab", laid_math_bits_deBruijn64tab)], narrowed := true }
def FnEndsAreLeastUptoSaid : Prop := fnEndsAreLeastUptoRow.holds Tryd.pinned (OpenSpec.upto fnEndsAreLeastSpec)

/-- 'laws.FnFourRefuse', WHERE WHAT IT READS IS OF BULK AT MOST 1048576: true; the input reads as it did. -/
def fnFourRefuseUptoRow : OpenClaim := { program := "ytimjblnglhmakaadoor", sum := "0bb1ab7be38544b56efd006816bcddc506236bfebe71313e20951928dc8df638", func := "loop.example/g01106/laws.FnFourRefuse", spec := "fnFourRefuse", unfollowed := true, recurses := true, named := ["math/bits.deBruijn32tab", "math/bits.deBruijn64tab"], apart := false, laid := [("math/bits.deBruijn32tab", laid_math_bits_deBruijn32tab), ("math/bits.deBruijn64tab", laid_math_bits_deBruijn64tab)], narrowed := true }
def FnFourRefuseUptoSaid : Prop := fnFourRefuseUptoRow.holds Tryd.pinned (OpenSpec.upto fnFourRefuseSpec)

/-- 'laws.FnLevelRanks', WHERE WHAT IT READS IS OF BULK AT MOST 1048576: true; the input reads as it did. -/
def fnLevelRanksUptoRow : OpenClaim := { program := "ytimjblnglhmakaadoor", sum := "0bb1ab7be38544b56efd006816bcddc506236bfebe71313e20951928dc8df638", func := "loop.example/g01106/laws.FnLevelRanks", spec := "fnLevelRanks", unfollowed := true, recurses := true, named := ["math/bits.deBruijn32tab", "math/bits.deBruijn64tab"], apart := false, laid := [("math/bits.deBruijn32tab", laid_math_bits_deBruijn32tab), ("math/bits.deBruijn64tab", laid_math_bits_deBruijn64tab)], narrowed := true }
def FnLevelRanksUptoSaid : Prop := fnLevelRanksUptoRow.holds Tryd.pinned (OpenSpec.upto fnLevelRanksSpec)

/-- 'laws.FnExactParseAscent', WHERE WHAT IT READS IS OF BULK AT MOST 1048576: true; the input reads as it did. -/
def fnExactParseAscentUptoRow : OpenClaim := { program := "ytimjblnglhmakaadoor", sum := "0bb1ab7be38544b56efd006816bcddc506236bfebe71313e20951928dc8df638", func := "loop.example/g01106/laws.FnExactParseAscent", spec := "fnExactParseAscent", inPlace := ["internal/bytealg.CountString", "internal/bytealg.IndexByteString", "internal/bytealg.IndexString", "internal/abi.NoEscape", "internal/bytealg.MakeNoZero"], named := ["unicode/utf8.first", "unicode/utf8.acceptRanges", "internal/bytealg.MaxLen", "strconv.ErrSyntax", "strconv.ErrRange", "internal/strconv.uint64pow10", "math/bits.deBruijn32tab", "math/bits.deBruijn64tab"], apart := false, laid := [("math/bits.deBruijn32tab", laid_math_bits_deBruijn32tab), ("math/bits.deBruijn64tab", laid_math_bits_deBruijn64tab), ("internal/strconv.uint64pow10", laid_internal_strconv_uint64pow10), ("unicode/utf8.acceptRanges", laid_unicode_utf8_acceptRanges), ("strconv.ErrRange", laid_strconv_ErrRange), ("strconv.ErrSyntax", laid_strconv_ErrSyntax), ("unicode/utf8.first", laid_unicode_utf8_first)], narrowed := true }
def FnExactParseAscentUptoSaid : Prop := fnExactParseAscentUptoRow.holds Tryd.pinned (OpenSpec.upto fnExactParseAscentSpec)

/-- 'laws.FnRefinements', WHERE WHAT IT READS IS OF BULK AT MOST 1048576: true; the input reads as it did. -/
def fnRefinementsUptoRow : OpenClaim := { program := "ytimjblnglhmakaadoor", sum := "0bb1ab7be38544b56efd006816bcddc506236bfebe71313e20951928dc8df638", func := "loop.example/g01106/laws.FnRefinements", spec := "fnRefinements", unfollowed := true, recurses := true, named := ["math/bits.deBruijn32tab", "math/bits.deBruijn64tab"], apart := false, laid := [("math/bits.deBruijn32tab", laid_math_bits_deBruijn32tab), ("math/bits.deBruijn64tab", laid_math_bits_deBruijn64tab)], narrowed := true }
def FnRefinementsUptoSaid : Prop := fnRefinementsUptoRow.holds Tryd.pinned (OpenSpec.upto fnRefinementsSpec)

/-- 'laws.FnMirroredEnds', WHERE WHAT IT READS IS OF BULK AT MOST 1048576: true; the input reads as it did. -/
def fnMirroredEndsUptoRow : OpenClaim := { program := "ytimjblnglhmakaadoor", sum := "0bb1ab7be38544b56efd006816bcddc506236bfebe71313e20951928dc8df638", func := "loop.example/g01106/laws.FnMirroredEnds", spec := "fnMirroredEnds", unfollowed := true, recurses := true, named := ["math/bits.deBruijn32tab", "math/bits.deBruijn64tab"], apart := false, laid := [("math/bits.deBruijn32tab", laid_math_bits_deBruijn32tab), ("math/bits.deBruijn64tab", laid_math_bits_deBruijn64tab)], narrowed := true }
def FnMirroredEndsUptoSaid : Prop := fnMirroredEndsUptoRow.holds Tryd.pinned (OpenSpec.upto fnMirroredEndsSpec)

/-- 'laws.FnStretchedIntervals', WHERE WHAT IT READS IS OF BULK AT MOST 1048576: true; the input reads as it did. -/
def fnStretchedIntervalsUptoRow : OpenClaim := { program := "ytimjblnglhmakaadoor", sum := "0bb1ab7be38544b56efd006816bcddc506236bfebe71313e20951928dc8df638", func := "loop.example/g01106/laws.FnStretchedIntervals", spec := "fnStretchedIntervals", unfollowed := true, recurses := true, named := ["math/bits.deBruijn32tab", "math/bits.deBruijn64tab"], apart := false, laid := [("math/bits.deBruijn32tab", laid_math_bits_deBruijn32tab), ("math/bits.deBruijn64tab", laid_math_bits_deBruijn64tab)], narrowed := true }
def FnStretchedIntervalsUptoSaid : Prop := fnStretchedIntervalsUptoRow.holds Tryd.pinned (OpenSpec.upto fnStretchedIntervalsSpec)

/-- 'laws.FnSetsAlong', WHERE WHAT IT READS IS OF BULK AT MOST 1048576: true; the input reads as it did. -/
def fnSetsAlongUptoRow : OpenClaim := { program := "ytimjblnglhmakaadoor", sum := "0bb1ab7be38544b56efd006816bcddc506236bfebe71313e20951928dc8df638", func := "loop.example/g01106/laws.FnSetsAlong", spec := "fnSetsAlong", unfollowed := true, recurses := true, named := ["math/bits.deBruijn32tab", "math/bits.deBruijn64tab"], apart := false, laid := [("math/bits.deBruijn32tab", laid_math_bits_deBruijn32tab), ("math/bits.deBruijn64tab", laid_math_bits_deBruijn64tab)], narrowed := true }
def FnSetsAlongUptoSaid : Prop := fnSetsAlongUptoRow.holds Tryd.pinned (OpenSpec.upto fnSetsAlongSpec)

end Rows
end Go.Proofs.YtimjblnglhmakaaDoor
