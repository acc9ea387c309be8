/-
  NARROWER THAN 'FOR EVERY INPUT', by the rows' own cells (each row's printed sentence says how): SplineValues: laid · SplineBases: laid · SplineHermites: laid · SplineNaturals: laid · SplineShapes: laid · SplineSquares: laid · SplineLeast: laid · SplineThrough: laid · SplineBest: laid.
  DERIVED. THE GIVEN ROWS OF THIS SEAT. 9 by the template 'for every input the law returns true; each argument reads behind the call as it read before'; 0 by the template 'total and deterministic' (their statements: YtacgmapjhpghkaaGreatDoorTotals.lean).
  GIVEN WITH THE SEED: the statements are not yours to turn. If you find one false, say at which input.
  Laid BY PROGRAM, IN A SANDBOX (cutbox-rows.mjs): the forced cells as the released guide's own fill.sh prints them over the translation 731f8115ccba08c4… (all of the seat's roots in one cut). By AI agents, Wed Nov 11 2026. No macro, syntax, notation, axiom, sorry.
-/
import Derived.Test.YtacgmapjhpghkaaGreatDoorChecked
import GoSem.Claim
import GoSem.ClaimJoined
import GoSem.ClaimMapViews
import Derived.JoinedTies
import Derived.KernelRfl
namespace Go.Proofs.YtacgmapjhpghkaaGreatDoor
/- THE CELL 'sum', in the pinned program and in every row, IS THE sha256 OF THE DUMP (.gsa) THAT YtacgmapjhpghkaaGreatDoorProg.lean LOADS. Nothing in Lean hashes anything: it is a label: what it is worth is what the hold of that sum in a sandbox is worth. -/
noncomputable def Tryz.pinned : Pinned := { name := "ytacgmapjhpghkaagreatdoor", sum := "731f8115ccba08c401c429648dd031c5bb934ab308d2b27f558a30b75d987be9", checked := Tryz.checked }
namespace Rows
def none {H : Type} : Left H := { results := [], args := [] }

/- WHAT THE LISTED PACKAGE-LEVEL VARIABLES READ AS WHEN THE CALL BEGINS. Each datum BY PROGRAM (the guide's laid-datum.mjs) off the statement by which the dump's own 'gosem.cut.vars' lays the variable. In a bare row this is a premise. The card (YtacgmapjhpghkaaGreatDoorCards.lean) ties it to the program's text. -/
def laid_math_bits_deBruijn32tab {H : Type} : DataW H := .agg [.lit (.int .u8 0), .lit (.int .u8 1), .lit (.int .u8 28), .lit (.int .u8 2), .lit (.int .u8 29), .lit (.int .u8 14), .lit (.int .u8 24), .lit (.int .u8 3), .lit (.int .u8 30), .lit (.int .u8 22), .lit (.int .u8 20), .lit (.int .u8 15), .lit (.int .u8 25), .lit (.int .u8 17), .lit (.int .u8 4), .lit (.int .u8 8), .lit (.int .u8 31), .lit (.int .u8 27), .lit (.int .u8 13), .lit (.int .u8 23), .lit (.int .u8 21), .lit (.int .u8 19), .lit (.int .u8 16), .lit (.int .u8 7), .lit (.int .u8 26), .lit (.int .u8 12), .lit (.int .u8 18), .lit (.int .u8 6), .lit (.int .u8 11), .lit (.int .u8 5), .lit (.int .u8 10), .lit (.int .u8 9)]
def laid_math_bits_deBruijn64tab {H : Type} : DataW H := .agg [.lit (.int .u8 0), .lit (.int .u8 1), .lit (.int .u8 56), .lit (.int .u8 2), .lit (.int .u8 57), .lit (.int .u8 49), .lit (.int .u8 28), .lit (.int .u8 3), .lit (.int .u8 61), .lit (.int .u8 58), .lit (.int .u8 42), .lit (.int .u8 50), .lit (.int .u8 38), .lit (.int .u8 29), .lit (.int .u8 17), .lit (.int .u8 4), .lit (.int .u8 62), .lit (.int .u8 47), .lit (.int .u8 59), .lit (.int .u8 36), .lit (.int .u8 45), .lit (.int .u8 43), .lit (.int .u8 51), .lit (.int .u8 22), .lit (.int .u8 53), .lit (.int .u8 39), .lit (.int .u8 33), .lit (.int .u8 30), .lit (.int .u8 24), .lit (.int .u8 18), .lit (.int .u8 12), .lit (.int .u8 5), .lit (.int .u8 63), .lit (.int .u8 55), .lit (.int .u8 48), .lit (.int .u8 27), .lit (.int .u8 60), .lit (.int .u8 41), .lit (.int .u8 37), .lit (.int .u8 16), .lit (.int .u8 46), .lit (.int .u8 35), .lit (.int .u8 44), .lit (.int .u8 21), .lit (.int .u8 52), .lit (.int .u8 32), .lit (.int .u8 23), .lit (.int .u8 11), .lit (.int .u8 54), .lit (.int .u8 26), .lit (.int .u8 40), .lit (.int .u8 15), .lit (.int .u8 34), .lit (.int .u8 20), .lit (.int .u8 31), .lit (.int .u8 10), .lit (.int .u8 25), .lit (.int .u8 14), .lit (.int .u8 19), .lit (.int .u8 9), .lit (.int .u8 13), .lit (.int .u8 8), .lit (.int .u8 7), .lit (.int .u8 6)]
def laid_internal_strconv_uint64pow10 {H : Type} : DataW H := .agg [.lit (.int .u64 1), .lit (.int .u64 10), .lit (.int .u64 100), .lit (.int .u64 1000), .lit (.int .u64 10000), .lit (.int .u64 100000), .lit (.int .u64 1000000), .lit (.int .u64 10000000), .lit (.int .u64 100000000), .lit (.int .u64 1000000000), .lit (.int .u64 10000000000), .lit (.int .u64 100000000000), .lit (.int .u64 1000000000000), .lit (.int .u64 10000000000000), .lit (.int .u64 100000000000000), .lit (.int .u64 1000000000000000), .lit (.int .u64 10000000000000000), .lit (.int .u64 100000000000000000), .lit (.int .u64 1000000000000000000), .lit (.int .u64 10000000000000000000)]

/-- 'ordinatelaw09.SplineValues': WHATEVER THE INPUT: true; the input reads as it did. -/
def splineValuesSpec : ChangeSpec := { name := "splineValues", fn := fun _ => fun
  | [d1, d2] => { results := [.lit (.bool true)], args := [d1, d2] }
  | _ => none }
def splineValuesRow : OpenClaim := { program := "ytacgmapjhpghkaagreatdoor", sum := "731f8115ccba08c401c429648dd031c5bb934ab308d2b27f558a30b75d987be9", func := "ordinate/ordinatelaw09.SplineValues", spec := "splineValues", inPlace := ["internal/abi.NoEscape", "internal/bytealg.MakeNoZero"], unfollowed := true, recurses := true, named := ["internal/strconv.uint64pow10", "math/bits.deBruijn32tab", "math/bits.deBruijn64tab"], apart := false, laid := [("math/bits.deBruijn32tab", laid_math_bits_deBruijn32tab), ("math/bits.deBruijn64tab", laid_math_bits_deBruijn64tab), ("internal/strconv.uint64pow10", laid_internal_strconv_uint64pow10)] }
def SplineValuesSaid : Prop := splineValuesRow.holds Tryz.pinned (OpenSpec.ofChange splineValuesSpec)

/-- ITS FALSE NEIGHBOUR: 'it returns false'. Refute it at one input. -/
def splineValuesWrong : ChangeSpec := { name := "splineValues", fn := fun _ => fun
  | [d1, d2] => { results := [.lit (.bool false)], args := [d1, d2] }
  | _ => none }
def SplineValuesWrongFalsely : Prop := splineValuesRow.holds Tryz.pinned (OpenSpec.ofChange splineValuesWrong)

/-- 'ordinatelaw09.SplineBases': WHATEVER THE INPUT: true; the input reads as it did. -/
def splineBasesSpec : ChangeSpec := { name := "splineBases", fn := fun _ => fun
  | [d1, d2, d3, d4, d5] => { results := [.lit (.bool true)], args := [d1, d2, d3, d4, d5] }
  | _ => none }
def splineBasesRow : OpenClaim := { program := "ytacgmapjhpghkaagreatdoor", sum := "731f8115ccba08c401c429648dd031c5bb934ab308d2b27f558a30b75d987be9", func := "ordinate/ordinatelaw09.SplineBases", spec := "splineBases", inPlace := ["internal/abi.NoEscape", "internal/bytealg.MakeNoZero"], unfollowed := true, recurses := true, named := ["internal/strconv.uint64pow10", "math/bits.deBruijn32tab", "math/bits.deBruijn64tab"], apart := false, laid := [("math/bits.deBruijn32tab", laid_math_bits_deBruijn32tab), ("math/bits.deBruijn64tab", laid_math_bits_deBruijn64tab), ("internal/strconv.uint64pow10", laid_internal_strconv_uint64pow10)] }
def SplineBasesSaid : Prop := splineBasesRow.holds Tryz.pinned (OpenSpec.ofChange splineBasesSpec)

/-- ITS FALSE NEIGHBOUR: 'it returns false'. Refute it at one input. -/
def splineBasesWrong : ChangeSpec := { name := "splineBases", fn := fun _ => fun
  | [d1, d2, d3, d4, d5] => { results := [.lit (.bool false)], args := [d1, d2, d3, d4, d5] }
  | _ => none }
def SplineBasesWrongFalsely : Prop := splineBasesRow.holds Tryz.pinned (OpenSpec.ofChange splineBasesWrong)

/-- 'ordinatelaw09.SplineHermites': WHATEVER THE INPUT: true; the input reads as it did. -/
def splineHermitesSpec : ChangeSpec := { name := "splineHermites", fn := fun _ => fun
  | [d] => { results := [.lit (.bool true)], args := [d] }
  | _ => none }
def splineHermitesRow : OpenClaim := { program := "ytacgmapjhpghkaagreatdoor", sum := "731f8115ccba08c401c429648dd031c5bb934ab308d2b27f558a30b75d987be9", func := "ordinate/ordinatelaw09.SplineHermites", spec := "splineHermites", inPlace := ["internal/abi.NoEscape", "internal/bytealg.MakeNoZero"], unfollowed := true, recurses := true, named := ["internal/strconv.uint64pow10", "math/bits.deBruijn32tab", "math/bits.deBruijn64tab"], apart := false, laid := [("math/bits.deBruijn32tab", laid_math_bits_deBruijn32tab), ("math/bits.deBruijn64tab", laid_math_bits_deBruijn64tab), ("internal/strconv.uint64pow10", laid_internal_strconv_uint64pow10)] }
def SplineHermitesSaid : Prop := splineHermitesRow.holds Tryz.pinned (OpenSpec.ofChange splineHermitesSpec)

/-- ITS FALSE NEIGHBOUR: 'it returns false'. Refute it at one input. -/
def splineHermitesWrong : ChangeSpec := { name := "splineHermites", fn := fun _ => fun
  | [d] => { results := [.lit (.bool false)], args := [d] }
  | _ => none }
def SplineHermitesWrongFalsely : Prop := splineHermitesRow.holds Tryz.pinned (OpenSpec.ofChange splineHermitesWrong)

/-- 'ordinatelaw09.SplineNaturals': WHATEVER THE INPUT: true; the input reads as it did. -/
def splineNaturalsSpec : ChangeSpec := { name := "splineNaturals", fn := fun _ => fun
  | [d1, d2, d3, d4] => { results := [.lit (.bool true)], args := [d1, d2, d3, d4] }
  | _ => none }
def splineNaturalsRow : OpenClaim := { program := "ytacgmapjhpghkaagreatdoor", sum := "731f8115ccba08c401c429648dd031c5bb934ab308d2b27f558a30b75d987be9", func := "ordinate/ordinatelaw09.SplineNaturals", spec := "splineNaturals", inPlace := ["internal/abi.NoEscape", "internal/bytealg.MakeNoZero"], unfollowed := true, recurses := true, named := ["internal/strconv.uint64pow10", "math/bits.deBruijn32tab", "math/bits.deBruijn64tab"], apart := false, laid := [("math/bits.deBruijn32tab", laid_math_bits_deBruijn32tab), ("math/bits.deBruijn64tab", laid_math_bits_deBruijn64tab), ("internal/strconv.uint64pow10", laid_internal_strconv_uint64pow10)] }
def SplineNaturalsSaid : Prop := splineNaturalsRow.holds Tryz.pinned (OpenSpec.ofChange splineNaturalsSpec)

/-- ITS FALSE NEIGHBOUR: 'it returns false'. Refute it at one input. -/
def splineNaturalsWrong : ChangeSpec := { name := "splineNaturals", fn := fun _ => fun
  | [d1, d2, d3, d4] => { results := [.lit (.bool false)], args := [d1, d2, d3, d4] }
  | _ => none }
def SplineNaturalsWrongFalsely : Prop := splineNaturalsRow.holds Tryz.pinned (OpenSpec.ofChange splineNaturalsWrong)

/-- 'ordinatelaw09.SplineShapes': WHATEVER THE INPUT: true; the input reads as it did. -/
def splineShapesSpec : ChangeSpec := { name := "splineShapes", fn := fun _ => fun
  | [d1, d2, d3, d4] => { results := [.lit (.bool true)], args := [d1, d2, d3, d4] }
  | _ => none }
def splineShapesRow : OpenClaim := { program := "ytacgmapjhpghkaagreatdoor", sum := "731f8115ccba08c401c429648dd031c5bb934ab308d2b27f558a30b75d987be9", func := "ordinate/ordinatelaw09.SplineShapes", spec := "splineShapes", inPlace := ["internal/abi.NoEscape", "internal/bytealg.MakeNoZero"], unfollowed := true, recurses := true, named := ["internal/strconv.uint64pow10", "math/bits.deBruijn32tab", "math/bits.deBruijn64tab"], apart := false, laid := [("math/bits.deBruijn32tab", laid_math_bits_deBruijn32tab), ("math/bits.deBruijn64tab", laid_math_bits_deBruijn64tab), ("internal/strconv.uint64pow10", laid_internal_strconv_uint64pow10)] }
def SplineShapesSaid : Prop := splineShapesRow.holds Tryz.pinned (OpenSpec.ofChange splineShapesSpec)

/-- ITS FALSE NEIGHBOUR: 'it returns false'. Refute it at one input. -/
def splineShapesWrong : ChangeSpec := { name := "splineShapes", fn := fun _ => fun
  | [d1, d2, d3, d4] => { results := [.lit (.bool false)], args := [d1, d2, d3, d4] }
  | _ => none }
def SplineShapesWrongFalsely : Prop := splineShapesRow.holds Tryz.pinned (OpenSpec.ofChange splineShapesWrong)

/-- 'ordinatelaw09.SplineSquares': WHATEVER THE INPUT: true; the input reads as it did. -/
def splineSquaresSpec : ChangeSpec := { name := "splineSquares", fn := fun _ => fun
  | [d1, d2, d3, d4, d5] => { results := [.lit (.bool true)], args := [d1, d2, d3, d4, d5] }
  | _ => none }
def splineSquaresRow : OpenClaim := { program := "ytacgmapjhpghkaagreatdoor", sum := "731f8115ccba08c401c429648dd031c5bb934ab308d2b27f558a30b75d987be9", func := "ordinate/ordinatelaw09.SplineSquares", spec := "splineSquares", inPlace := ["internal/abi.NoEscape", "internal/bytealg.MakeNoZero"], unfollowed := true, recurses := true, named := ["internal/strconv.uint64pow10", "math/bits.deBruijn32tab", "math/bits.deBruijn64tab"], apart := false, laid := [("math/bits.deBruijn32tab", laid_math_bits_deBruijn32tab), ("math/bits.deBruijn64tab", laid_math_bits_deBruijn64tab), ("internal/strconv.uint64pow10", laid_internal_strconv_uint64pow10)] }
def SplineSquaresSaid : Prop := splineSquaresRow.holds Tryz.pinned (OpenSpec.ofChange splineSquaresSpec)

/-- ITS FALSE NEIGHBOUR: 'it returns false'. Refute it at one input. -/
def splineSquaresWrong : ChangeSpec := { name := "splineSquares", fn := fun _ => fun
  | [d1, d2, d3, d4, d5] => { results := [.lit (.bool false)], args := [d1, d2, d3, d4, d5] }
  | _ => none }
def SplineSquaresWrongFalsely : Prop := splineSquaresRow.holds Tryz.pinned (OpenSpec.ofChange splineSquaresWrong)

/-- 'ordinatelaw09.SplineLeast': WHATEVER THE INPUT: true; the input reads as it did. -/
def splineLeastSpec : ChangeSpec := { name := "splineLeast", fn := fun _ => fun
  | [d1, d2, d3, d4, d5] => { results := [.lit (.bool true)], args := [d1, d2, d3, d4, d5] }
  | _ => none }
def splineLeastRow : OpenClaim := { program := "ytacgmapjhpghkaagreatdoor", sum := "731f8115ccba08c401c429648dd031c5bb934ab308d2b27f558a30b75d987be9", func := "ordinate/ordinatelaw09.SplineLeast", spec := "splineLeast", inPlace := ["internal/abi.NoEscape", "internal/bytealg.MakeNoZero"], unfollowed := true, recurses := true, named := ["internal/strconv.uint64pow10", "math/bits.deBruijn32tab", "math/bits.deBruijn64tab"], apart := false, laid := [("math/bits.deBruijn32tab", laid_math_bits_deBruijn32tab), ("math/bits.deBruijn64tab", laid_math_bits_deBruijn64tab), ("internal/strconv.uint64pow10", laid_internal_strconv_uint64pow10)] }
def SplineLeastSaid : Prop := splineLeastRow.holds Tryz.pinned (OpenSpec.ofChange splineLeastSpec)

/-- ITS FALSE NEIGHBOUR: 'it returns false'. Refute it at one input. -/
def splineLeastWrong : ChangeSpec := { name := "splineLeast", fn := fun _ => fun
  | [d1, d2, d3, d4, d5] => { results := [.lit (.bool false)], args := [d1, d2, d3, d4, d5] }
  | _ => none }
def SplineLeastWrongFalsely : Prop := splineLeastRow.holds Tryz.pinned (OpenSpec.ofChange splineLeastWrong)

/-- 'ordinatelaw09.SplineThrough': WHATEVER THE INPUT: true; the input reads as it did. -/
def splineThroughSpec : ChangeSpec := { name := "splineThrough", fn := fun _ => fun
  | [d1, d2, d3, d4] => { results := [.lit (.bool true)], args := [d1, d2, d3, d4] }
  | _ => none }
def splineThroughRow : OpenClaim := { program := "ytacgmapjhpghkaagreatdoor", sum := "731f8115ccba08c401c429648dd031c5bb934ab308d2b27f558a30b75d987be9", func := "ordinate/ordinatelaw09.SplineThrough", spec := "splineThrough", inPlace := ["internal/abi.NoEscape", "internal/bytealg.MakeNoZero"], unfollowed := true, recurses := true, named := ["internal/strconv.uint64pow10", "math/bits.deBruijn32tab", "math/bits.deBruijn64tab"], apart := false, laid := [("math/bits.deBruijn32tab", laid_math_bits_deBruijn32tab), ("math/bits.deBruijn64tab", laid_math_bits_deBruijn64tab), ("internal/strconv.uint64pow10", laid_internal_strconv_uint64pow10)] }
def SplineThroughSaid : Prop := splineThroughRow.holds Tryz.pinned (OpenSpec.ofChange splineThroughSpec)

/-- ITS FALSE NEIGHBOUR: 'it returns false'. Refute it at one input. -/
def splineThroughWrong : ChangeSpec := { name := "splineThrough", fn := fun _ => fun
  | [d1, d2, d3, d4] => { results := [.lit (.bool false)], args := [d1, d2, d3, d4] }
  | _ => none }
def SplineThroughWrongFalsely : Prop := splineThroughRow.holds Tryz.pinned (OpenSpec.ofChange splineThroughWrong)

/-- 'ordinatelaw09.SplineBest': WHATEVER THE INPUT: true; the input reads as it did. -/
def splineBestSpec : ChangeSpec := { name := "splineBest", fn := fun _ => fun
  | [d1, d2, d3, d4, d5, d6, d7] => { results := [.lit (.bool true)], args := [d1, d2, d3, d4, d5, d6, d7] }
  | _ => none }
def splineBestRow : OpenClaim := { program := "ytacgmapjhpghkaagreatdoor", sum := "731f8115ccba08c401c429648dd031c5bb934ab308d2b27f558a30b75d987be9", func := "ordinate/ordinatelaw09.SplineBest", spec := "splineBest", inPlace := ["internal/abi.NoEscape", "internal/bytealg.MakeNoZero"], unfollowed := true, recurses := true, named := ["internal/strconv.uint64pow10", "math/bits.deBruijn32tab", "math/bits.deBruijn64tab"], apart := false, laid := [("math/bits.deBruijn32tab", laid_math_bits_deBruijn32tab), ("math/bits.deBruijn64tab", laid_math_bits_deBruijn64tab), ("internal/strconv.uint64pow10", laid_internal_strconv_uint64pow10)] }
def SplineBestSaid : Prop := splineBestRow.holds Tryz.pinned (OpenSpec.ofChange splineBestSpec)

/-- ITS FALSE NEIGHBOUR: 'it returns false'. Refute it at one input. -/
def splineBestWrong : ChangeSpec := { name := "splineBest", fn := fun _ => fun
  | [d1, d2, d3, d4, d5, d6, d7] => { results := [.lit (.bool false)], args := [d1, d2, d3, d4, d5, d6, d7] }
  | _ => none }
def SplineBestWrongFalsely : Prop := splineBestRow.holds Tryz.pinned (OpenSpec.ofChange splineBestWrong)

/- THE SECOND FORM. 'bulk': how many values and letters a reading holds, each counted each time it is reached (what is shared counts as often as it is met; a slice's spare places count too). A statement '..UptoSaid' is the law's where the arguments, and the package variables that the reading takes, are together of bulk at most 1048576: NARROWER than '..Said'. Prove '..Said' where nothing that the law and all that it calls make is longer than what came in: it says more and counts as full. Else prove '..UptoSaid'. A law counts once. -/
mutual
def uptoBulk {H : Type} : DataW H → Nat
  | .lit (.string bytes) => bytes.length + 1
  | .lit _ => 1
  | .nil => 1
  | .ptr d => uptoBulk d + 1
  | .slice elems spare => uptoBulkAll elems + uptoBulkAll spare + 1
  | .agg parts => uptoBulkAll parts + 1
  | .iface _ d => uptoBulk d + 1
  | .map entries => uptoBulkEntries entries + 1
  | .held _ => 1
def uptoBulkAll {H : Type} : List (DataW H) → Nat
  | [] => 0
  | d :: r => uptoBulk d + uptoBulkAll r
def uptoBulkEntries {H : Type} : List (Lit × DataW H) → Nat
  | [] => 0
  | x :: r => uptoBulkEntry x + uptoBulkEntries r
def uptoBulkEntry {H : Type} : Lit × DataW H → Nat
  | (.string bytes, d) => bytes.length + uptoBulk d + 1
  | (_, d) => uptoBulk d + 1
 end
def uptoSmall : (H : Type) → List (DataW H) → Bool := fun _ ds => decide (uptoBulkAll ds ≤ 1048576)
def OpenSpec.upto (s : _root_.Go.ChangeSpec) : _root_.Go.OpenSpec := { _root_.Go.OpenSpec.ofChange s with cond := some uptoSmall }

/-- 'ordinatelaw09.SplineValues', WHERE WHAT IT READS IS OF BULK AT MOST 1048576: true; the input reads as it did. -/
def splineValuesUptoRow : OpenClaim := { program := "ytacgmapjhpghkaagreatdoor", sum := "731f8115ccba08c401c429648dd031c5bb934ab308d2b27f558a30b75d987be9", func := "ordinate/ordinatelaw09.SplineValues", spec := "splineValues", inPlace := ["internal/abi.NoEscape", "internal/bytealg.MakeNoZero"], unfollowed := true, recurses := true, named := ["internal/strconv.uint64pow10", "math/bits.deBruijn32tab", "math/bits.deBruijn64tab"], apart := false, laid := [("math/bits.deBruijn32tab", laid_math_bits_deBruijn32tab), ("math/bits.deBruijn64tab", laid_math_bits_deBruijn64tab), ("internal/strconv.uint64pow10", laid_internal_strconv_uint64pow10)], narrowed := true }
def SplineValuesUptoSaid : Prop := splineValuesUptoRow.holds Tryz.pinned (OpenSpec.upto splineValuesSpec)

/-- 'ordinatelaw09.SplineBases', WHERE WHAT IT READS IS OF BULK AT MOST 1048576: true; the input reads as it did. -/
def splineBasesUptoRow : OpenClaim := { program := "ytacgmapjhpghkaagreatdoor", sum := "731f8115ccba08c401c429648dd031c5bb934ab308d2b27f558a30b75d987be9", func := "ordinate/ordinatelaw09.SplineBases", spec := "splineBases", inPlace := ["internal/abi.NoEscape", "internal/bytealg.MakeNoZero"], unfollowed := true, recurses := true, named := ["internal/strconv.uint64pow10", "math/bits.deBruijn32tab", "math/bits.deBruijn64tab"], apart := false, laid := [("math/bits.deBruijn32tab", laid_math_bits_deBruijn32tab), ("math/bits.deBruijn64tab", laid_math_bits_deBruijn64tab), ("internal/strconv.uint64pow10", laid_internal_strconv_uint64pow10)], narrowed := true }
def SplineBasesUptoSaid : Prop := splineBasesUptoRow.holds Tryz.pinned (OpenSpec.upto splineBasesSpec)

/-- 'ordinatelaw09.SplineHermites', WHERE WHAT IT READS IS OF BULK AT MOST 1048576: true; the input reads as it did. -/
def splineHermitesUptoRow : OpenClaim := { program := "ytacgmapjhpghkaagreatdoor", sum := "731f8115ccba08c401c429648dd031c5bb934ab308d2b27f558a30b75d987be9", func := "ordinate/ordinatelaw09.SplineHermites", spec := "splineHermites", inPlace := ["internal/abi.NoEscape", "internal/bytealg.MakeNoZero"], unfollowed := true, recurses := true, named := ["internal/strconv.uint64pow10", "math/bits.deBruijn32tab", "math/bits.deBruijn64tab"], apart := false, laid := [("math/bits.deBruijn32tab", laid_math_bits_deBruijn32tab), ("math/bits.deBruijn64tab", laid_math_bits_deBruijn64tab), ("internal/strconv.uint64pow10", laid_internal_strconv_uint64pow10)], narrowed := true }
def SplineHermitesUptoSaid : Prop := splineHermitesUptoRow.holds Tryz.pinned (OpenSpec.upto splineHermitesSpec)

/-- 'ordinatelaw09.SplineNaturals', WHERE WHAT IT READS IS OF BULK AT MOST 1048576: true; the input reads as it did. -/
def splineNaturalsUptoRow : OpenClaim := { program := "ytacgmapjhpghkaagreatdoor", sum := "731f8115ccba08c401c429648dd031c5bb934ab308d2b27f558a30b75d987be9", func := "ordinate/ordinatelaw09.SplineNaturals", spec := "splineNaturals", inPlace := ["internal/abi.NoEscape", "internal/bytealg.MakeNoZero"], unfollowed := true, recurses := true, named := ["internal/strconv.uint64pow10", "math/bits.deBruijn32tab", "math/bits.deBruijn64tab"], apart := false, laid := [("math/bits.deBruijn32tab", laid_math_bits_deBruijn32tab), ("math/bits.deBruijn64tab", laid_math_bits_deBruijn64tab), ("internal/strconv.uint64pow10", laid_internal_strconv_uint64pow10)], narrowed := true }
def SplineNaturalsUptoSaid : Prop := splineNaturalsUptoRow.holds Tryz.pinned (OpenSpec.upto splineNaturalsSpec)

/-- 'ordinatelaw09.SplineShapes', WHERE WHAT IT READS IS OF BULK AT MOST 1048576: true; the input reads as it did. -/
def splineShapesUptoRow : OpenClaim := { program := "ytacgmapjhpghkaagreatdoor", sum := "731f8115ccba08c401c429648dd031c5bb934ab308d2b27f558a30b75d987be9", func := "ordinate/ordinatelaw09.SplineShapes", spec := "splineShapes", inPlace := ["internal/abi.NoEscape", "internal/bytealg.MakeNoZero"], unfollowed := true, recurses := true, named := ["internal/strconv.uint64pow10", "math/bits.deBruijn32tab", "math/bits.deBruijn64tab"], apart := false, laid := [("math/bits.deBruijn32tab", laid_math_bits_deBruijn32tab), ("math/bits.deBruijn64tab", laid_math_bits_deBruijn64tab), ("internal/strconv.uint64pow10", laid_internal_strconv_uint64pow10)], narrowed := true }
def SplineShapesUptoSaid : Prop := splineShapesUptoRow.holds Tryz.pinned (OpenSpec.upto splineShapesSpec)

/-- 'ordinatelaw09.SplineSquares', WHERE WHAT IT READS IS OF BULK AT MOST 1048576: true; the input reads as it did. -/
def splineSquaresUptoRow : OpenClaim := { program := "ytacgmapjhpghkaagreatdoor", sum := "731f8115ccba08c401c429648dd031c5bb934ab308d2b27f558a30b75d987be9", func := "ordinate/ordinatelaw09.SplineSquares", spec := "splineSquares", inPlace := ["internal/abi.NoEscape", "internal/bytealg.MakeNoZero"], unfollowed := true, recurses := true, named := ["internal/strconv.uint64pow10", "math/bits.deBruijn32tab", "math/bits.deBruijn64tab"], apart := false, laid := [("math/bits.deBruijn32tab", laid_math_bits_deBruijn32tab), ("math/bits.deBruijn64tab", laid_math_bits_deBruijn64tab), ("internal/strconv.uint64pow10", laid_internal_strconv_uint64pow10)], narrowed := true }
def SplineSquaresUptoSaid : Prop := splineSquaresUptoRow.holds Tryz.pinned (OpenSpec.upto splineSquaresSpec)

/-- 'ordinatelaw09.SplineLeast', WHERE WHAT IT READS IS OF BULK AT MOST 1048576: true; the input reads as it did. -/
def splineLeastUptoRow : OpenClaim := { program := "ytacgmapjhpghkaagreatdoor", sum := "731f8115ccba08c401c429648dd031c5bb934ab308d2b27f558a30b75d987be9", func := "ordinate/ordinatelaw09.SplineLeast", spec := "splineLeast", inPlace := ["internal/abi.NoEscape", "internal/bytealg.MakeNoZero"], unfollowed := true, recurses := true, named := ["internal/strconv.uint64pow10", "math/bits.deBruijn32tab", "math/bits.deBruijn64tab"], apart := false, laid := [("math/bits.deBruijn32tab", laid_math_bits_deBruijn32tab), ("math/bits.deBruijn64tab", laid_math_bits_deBruijn64tab), ("internal/strconv.uint64pow10", laid_internal_strconv_uint64pow10)], narrowed := true }
def SplineLeastUptoSaid : Prop := splineLeastUptoRow.holds Tryz.pinned (OpenSpec.upto splineLeastSpec)

/-- 'ordinatelaw09.SplineThrough', WHERE WHAT IT READS IS OF BULK AT MOST 1048576: true; the input reads as it did. -/
def splineThroughUptoRow : OpenClaim := { program := "ytacgmapjhpghkaagreatdoor", sum := "731f8115ccba08c401c429648dd031c5bb934ab308d2b27f558a30b75d987be9", func := "ordinate/ordinatelaw09.SplineThrough", spec := "splineThrough", inPlace := ["internal/abi.NoEscape", "internal/bytealg.MakeNoZero"], unfollowed := true, recurses := true, named := ["internal/strconv.uint64pow10", "math/bits.deBruijn32tab", "math/bits.deBruijn64tab"], apart := false, laid := [("math/bits.deBruijn32tab", laid_math_bits_deBruijn32tab), ("math/bits.deBruijn64tab", laid_math_bits_deBruijn64tab), ("internal/strconv.uint64pow10", laid_internal_strconv_uint64pow10)], narrowed := true }
def SplineThroughUptoSaid : Prop := splineThroughUptoRow.holds Tryz.pinned (OpenSpec.upto splineThroughSpec)

/-- 'ordinatelaw09.SplineBest', WHERE WHAT IT READS IS OF BULK AT MOST 1048576: true; the input reads as it did. -/
def splineBestUptoRow : OpenClaim := { program := "ytacgmapjhpghkaagreatdoor", sum := "731f8115ccba08c401c429648dd031c5bb934ab308d2b27f558a30b75d987be9", func := "ordinate/ordinatelaw09.SplineBest", spec := "splineBest", inPlace := ["internal/abi.NoEscape", "internal/bytealg.MakeNoZero"], unfollowed := true, recurses := true, named := ["internal/strconv.uint64pow10", "math/bits.deBruijn32tab", "math/bits.deBruijn64tab"], apart := false, laid := [("math/bits.deBruijn32tab", laid_math_bits_deBruijn32tab), ("math/bits.deBruijn64tab", laid_math_bits_deBruijn64tab), ("internal/strconv.uint64pow10", laid_internal_strconv_uint64pow10)], narrowed := true }
def SplineBestUptoSaid : Prop := splineBestUptoRow.holds Tryz.pinned (OpenSpec.upto splineBestSpec)

end Rows
end Go.Proofs.YtacgmapjhpghkaaGreatDoor
