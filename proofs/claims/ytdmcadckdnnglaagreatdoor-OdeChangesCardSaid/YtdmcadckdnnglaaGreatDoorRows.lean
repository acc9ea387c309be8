/-
  NARROWER THAN 'FOR EVERY INPUT', by the rows' own cells (each row's printed sentence says how): OdeChecks: laid · OdeSeries: laid · OdeSolves: laid · OdeReaches: laid · OdeFamilies: laid · OdeSteps: laid · OdeBack: laid · OdeLinear: laid · OdeValues: laid · OdeCovers: laid · OdeOvers: laid · OdeChanges: laid.
  DERIVED. THE GIVEN ROWS OF THIS SEAT. 12 by the template 'for every input the law returns true; each argument reads behind the call as it read before'; 0 by the template 'total and deterministic' (their statements: YtdmcadckdnnglaaGreatDoorTotals.lean).
  GIVEN WITH THE SEED: the statements are not yours to turn. If you find one false, say at which input.
  Laid BY PROGRAM, IN A SANDBOX (cutbox-rows.mjs): the forced cells as the released guide's own fill.sh prints them over the translation cf47be6d552e0847… (all of the seat's roots in one cut). By AI agents, Wed Nov 11 2026. No macro, syntax, notation, axiom, sorry.
-/
import Derived.Test.YtdmcadckdnnglaaGreatDoorChecked
import GoSem.Claim
import GoSem.ClaimJoined
import GoSem.ClaimMapViews
import Derived.JoinedTies
import Derived.KernelRfl
namespace Go.Proofs.YtdmcadckdnnglaaGreatDoor
/- THE CELL 'sum', in the pinned program and in every row, IS THE sha256 OF THE DUMP (.gsa) THAT YtdmcadckdnnglaaGreatDoorProg.lean LOADS. Nothing in Lean hashes anything: it is a label: what it is worth is what the hold of that sum in a sandbox is worth. -/
noncomputable def Tryz.pinned : Pinned := { name := "ytdmcadckdnnglaagreatdoor", sum := "cf47be6d552e0847388846ef1b92a43b9c492d7f5e53ede676e90ff77488d312", checked := Tryz.checked }
namespace Rows
def none {H : Type} : Left H := { results := [], args := [] }

/- WHAT THE LISTED PACKAGE-LEVEL VARIABLES READ AS WHEN THE CALL BEGINS. Each datum BY PROGRAM (the guide's laid-datum.mjs) off the statement by which the dump's own 'gosem.cut.vars' lays the variable. In a bare row this is a premise. The card (YtdmcadckdnnglaaGreatDoorCards.lean) ties it to the program's text. -/
def laid_math_bits_deBruijn32tab {H : Type} : DataW H := .agg [.lit (.int .u8 0), .lit (.int .u8 1), .lit (.int .u8 28), .lit (.int .u8 2), .lit (.int .u8 29), .lit (.int .u8 14), .lit (.int .u8 24), .lit (.int .u8 3), .lit (.int .u8 30), .lit (.int .u8 22), .lit (.int .u8 20), .lit (.int .u8 15), .lit (.int .u8 25), .lit (.int .u8 17), .lit (.int .u8 4), .lit (.int .u8 8), .lit (.int .u8 31), .lit (.int .u8 27), .lit (.int .u8 13), .lit (.int .u8 23), .lit (.int .u8 21), .lit (.int .u8 19), .lit (.int .u8 16), .lit (.int .u8 7), .lit (.int .u8 26), .lit (.int .u8 12), .lit (.int .u8 18), .lit (.int .u8 6), .lit (.int .u8 11), .lit (.int .u8 5), .lit (.int .u8 10), .lit (.int .u8 9)]
def laid_math_bits_deBruijn64tab {H : Type} : DataW H := .agg [.lit (.int .u8 0), .lit (.int .u8 1), .lit (.int .u8 56), .lit (.int .u8 2), .lit (.int .u8 57), .lit (.int .u8 49), .lit (.int .u8 28), .lit (.int .u8 3), .lit (.int .u8 61), .lit (.int .u8 58), .lit (.int .u8 42), .lit (.int .u8 50), .lit (.int .u8 38), .lit (.int .u8 29), .lit (.int .u8 17), .lit (.int .u8 4), .lit (.int .u8 62), .lit (.int .u8 47), .lit (.int .u8 59), .lit (.int .u8 36), .lit (.int .u8 45), .lit (.int .u8 43), .lit (.int .u8 51), .lit (.int .u8 22), .lit (.int .u8 53), .lit (.int .u8 39), .lit (.int .u8 33), .lit (.int .u8 30), .lit (.int .u8 24), .lit (.int .u8 18), .lit (.int .u8 12), .lit (.int .u8 5), .lit (.int .u8 63), .lit (.int .u8 55), .lit (.int .u8 48), .lit (.int .u8 27), .lit (.int .u8 60), .lit (.int .u8 41), .lit (.int .u8 37), .lit (.int .u8 16), .lit (.int .u8 46), .lit (.int .u8 35), .lit (.int .u8 44), .lit (.int .u8 21), .lit (.int .u8 52), .lit (.int .u8 32), .lit (.int .u8 23), .lit (.int .u8 11), .lit (.int .u8 54), .lit (.int .u8 26), .lit (.int .u8 40), .lit (.int .u8 15), .lit (.int .u8 34), .lit (.int .u8 20), .lit (.int .u8 31), .lit (.int .u8 10), .lit (.int .u8 25), .lit (.int .u8 14), .lit (.int .u8 19), .lit (.int .u8 9), .lit (.int .u8 13), .lit (.int .u8 8), .lit (.int .u8 7), .lit (.int .u8 6)]
def laid_internal_strconv_uint64pow10 {H : Type} : DataW H := .agg [.lit (.int .u64 1), .lit (.int .u64 10), .lit (.int .u64 100), .lit (.int .u64 1000), .lit (.int .u64 10000), .lit (.int .u64 100000), .lit (.int .u64 1000000), .lit (.int .u64 10000000), .lit (.int .u64 100000000), .lit (.int .u64 1000000000), .lit (.int .u64 10000000000), .lit (.int .u64 100000000000), .lit (.int .u64 1000000000000), .lit (.int .u64 10000000000000), .lit (.int .u64 100000000000000), .lit (.int .u64 1000000000000000), .lit (.int .u64 10000000000000000), .lit (.int .u64 100000000000000000), .lit (.int .u64 1000000000000000000), .lit (.int .u64 10000000000000000000)]

/-- 'ordinatelaw10.OdeChecks': WHATEVER THE INPUT: true; the input reads as it did. -/
def odeChecksSpec : ChangeSpec := { name := "odeChecks", fn := fun _ => fun
  | [d1, d2, d3] => { results := [.lit (.bool true)], args := [d1, d2, d3] }
  | _ => none }
def odeChecksRow : OpenClaim := { program := "ytdmcadckdnnglaagreatdoor", sum := "cf47be6d552e0847388846ef1b92a43b9c492d7f5e53ede676e90ff77488d312", func := "ordinate/ordinatelaw10.OdeChecks", spec := "odeChecks", inPlace := ["internal/abi.NoEscape", "internal/bytealg.MakeNoZero"], unfollowed := true, recurses := true, named := ["internal/strconv.uint64pow10", "math/bits.deBruijn32tab", "math/bits.deBruijn64tab"], apart := false, laid := [("math/bits.deBruijn32tab", laid_math_bits_deBruijn32tab), ("math/bits.deBruijn64tab", laid_math_bits_deBruijn64tab), ("internal/strconv.uint64pow10", laid_internal_strconv_uint64pow10)] }
def OdeChecksSaid : Prop := odeChecksRow.holds Tryz.pinned (OpenSpec.ofChange odeChecksSpec)

/-- ITS FALSE NEIGHBOUR: 'it returns false'. Refute it at one input. -/
def odeChecksWrong : ChangeSpec := { name := "odeChecks", fn := fun _ => fun
  | [d1, d2, d3] => { results := [.lit (.bool false)], args := [d1, d2, d3] }
  | _ => none }
def OdeChecksWrongFalsely : Prop := odeChecksRow.holds Tryz.pinned (OpenSpec.ofChange odeChecksWrong)

/-- 'ordinatelaw10.OdeSeries': WHATEVER THE INPUT: true; the input reads as it did. -/
def odeSeriesSpec : ChangeSpec := { name := "odeSeries", fn := fun _ => fun
  | [d1, d2] => { results := [.lit (.bool true)], args := [d1, d2] }
  | _ => none }
def odeSeriesRow : OpenClaim := { program := "ytdmcadckdnnglaagreatdoor", sum := "cf47be6d552e0847388846ef1b92a43b9c492d7f5e53ede676e90ff77488d312", func := "ordinate/ordinatelaw10.OdeSeries", spec := "odeSeries", inPlace := ["internal/abi.NoEscape", "internal/bytealg.MakeNoZero"], unfollowed := true, recurses := true, named := ["internal/strconv.uint64pow10", "math/bits.deBruijn32tab", "math/bits.deBruijn64tab"], apart := false, laid := [("math/bits.deBruijn32tab", laid_math_bits_deBruijn32tab), ("math/bits.deBruijn64tab", laid_math_bits_deBruijn64tab), ("internal/strconv.uint64pow10", laid_internal_strconv_uint64pow10)] }
def OdeSeriesSaid : Prop := odeSeriesRow.holds Tryz.pinned (OpenSpec.ofChange odeSeriesSpec)

/-- ITS FALSE NEIGHBOUR: 'it returns false'. Refute it at one input. -/
def odeSeriesWrong : ChangeSpec := { name := "odeSeries", fn := fun _ => fun
  | [d1, d2] => { results := [.lit (.bool false)], args := [d1, d2] }
  | _ => none }
def OdeSeriesWrongFalsely : Prop := odeSeriesRow.holds Tryz.pinned (OpenSpec.ofChange odeSeriesWrong)

/-- 'ordinatelaw10.OdeSolves': WHATEVER THE INPUT: true; the input reads as it did. -/
def odeSolvesSpec : ChangeSpec := { name := "odeSolves", fn := fun _ => fun
  | [d1, d2] => { results := [.lit (.bool true)], args := [d1, d2] }
  | _ => none }
def odeSolvesRow : OpenClaim := { program := "ytdmcadckdnnglaagreatdoor", sum := "cf47be6d552e0847388846ef1b92a43b9c492d7f5e53ede676e90ff77488d312", func := "ordinate/ordinatelaw10.OdeSolves", spec := "odeSolves", inPlace := ["internal/abi.NoEscape", "internal/bytealg.MakeNoZero"], unfollowed := true, recurses := true, named := ["internal/strconv.uint64pow10", "math/bits.deBruijn32tab", "math/bits.deBruijn64tab"], apart := false, laid := [("math/bits.deBruijn32tab", laid_math_bits_deBruijn32tab), ("math/bits.deBruijn64tab", laid_math_bits_deBruijn64tab), ("internal/strconv.uint64pow10", laid_internal_strconv_uint64pow10)] }
def OdeSolvesSaid : Prop := odeSolvesRow.holds Tryz.pinned (OpenSpec.ofChange odeSolvesSpec)

/-- ITS FALSE NEIGHBOUR: 'it returns false'. Refute it at one input. -/
def odeSolvesWrong : ChangeSpec := { name := "odeSolves", fn := fun _ => fun
  | [d1, d2] => { results := [.lit (.bool false)], args := [d1, d2] }
  | _ => none }
def OdeSolvesWrongFalsely : Prop := odeSolvesRow.holds Tryz.pinned (OpenSpec.ofChange odeSolvesWrong)

/-- 'ordinatelaw10.OdeReaches': WHATEVER THE INPUT: true; the input reads as it did. -/
def odeReachesSpec : ChangeSpec := { name := "odeReaches", fn := fun _ => fun
  | [d1, d2, d3, d4, d5] => { results := [.lit (.bool true)], args := [d1, d2, d3, d4, d5] }
  | _ => none }
def odeReachesRow : OpenClaim := { program := "ytdmcadckdnnglaagreatdoor", sum := "cf47be6d552e0847388846ef1b92a43b9c492d7f5e53ede676e90ff77488d312", func := "ordinate/ordinatelaw10.OdeReaches", spec := "odeReaches", inPlace := ["internal/abi.NoEscape", "internal/bytealg.MakeNoZero"], unfollowed := true, recurses := true, named := ["internal/strconv.uint64pow10", "math/bits.deBruijn32tab", "math/bits.deBruijn64tab"], apart := false, laid := [("math/bits.deBruijn32tab", laid_math_bits_deBruijn32tab), ("math/bits.deBruijn64tab", laid_math_bits_deBruijn64tab), ("internal/strconv.uint64pow10", laid_internal_strconv_uint64pow10)] }
def OdeReachesSaid : Prop := odeReachesRow.holds Tryz.pinned (OpenSpec.ofChange odeReachesSpec)

/-- ITS FALSE NEIGHBOUR: 'it returns false'. Refute it at one input. -/
def odeReachesWrong : ChangeSpec := { name := "odeReaches", fn := fun _ => fun
  | [d1, d2, d3, d4, d5] => { results := [.lit (.bool false)], args := [d1, d2, d3, d4, d5] }
  | _ => none }
def OdeReachesWrongFalsely : Prop := odeReachesRow.holds Tryz.pinned (OpenSpec.ofChange odeReachesWrong)

/-- 'ordinatelaw10.OdeFamilies': WHATEVER THE INPUT: true; the input reads as it did. -/
def odeFamiliesSpec : ChangeSpec := { name := "odeFamilies", fn := fun _ => fun
  | [d] => { results := [.lit (.bool true)], args := [d] }
  | _ => none }
def odeFamiliesRow : OpenClaim := { program := "ytdmcadckdnnglaagreatdoor", sum := "cf47be6d552e0847388846ef1b92a43b9c492d7f5e53ede676e90ff77488d312", func := "ordinate/ordinatelaw10.OdeFamilies", spec := "odeFamilies", inPlace := ["internal/abi.NoEscape", "internal/bytealg.MakeNoZero"], unfollowed := true, recurses := true, named := ["internal/strconv.uint64pow10", "math/bits.deBruijn32tab", "math/bits.deBruijn64tab"], apart := false, laid := [("math/bits.deBruijn32tab", laid_math_bits_deBruijn32tab), ("math/bits.deBruijn64tab", laid_math_bits_deBruijn64tab), ("internal/strconv.uint64pow10", laid_internal_strconv_uint64pow10)] }
def OdeFamiliesSaid : Prop := odeFamiliesRow.holds Tryz.pinned (OpenSpec.ofChange odeFamiliesSpec)

/-- ITS FALSE NEIGHBOUR: 'it returns false'. Refute it at one input. -/
def odeFamiliesWrong : ChangeSpec := { name := "odeFamilies", fn := fun _ => fun
  | [d] => { results := [.lit (.bool false)], args := [d] }
  | _ => none }
def OdeFamiliesWrongFalsely : Prop := odeFamiliesRow.holds Tryz.pinned (OpenSpec.ofChange odeFamiliesWrong)

/-- 'ordinatelaw10.OdeSteps': WHATEVER THE INPUT: true; the input reads as it did. -/
def odeStepsSpec : ChangeSpec := { name := "odeSteps", fn := fun _ => fun
  | [d1, d2, d3, d4] => { results := [.lit (.bool true)], args := [d1, d2, d3, d4] }
  | _ => none }
def odeStepsRow : OpenClaim := { program := "ytdmcadckdnnglaagreatdoor", sum := "cf47be6d552e0847388846ef1b92a43b9c492d7f5e53ede676e90ff77488d312", func := "ordinate/ordinatelaw10.OdeSteps", spec := "odeSteps", inPlace := ["internal/abi.NoEscape", "internal/bytealg.MakeNoZero"], unfollowed := true, recurses := true, named := ["internal/strconv.uint64pow10", "math/bits.deBruijn32tab", "math/bits.deBruijn64tab"], apart := false, laid := [("math/bits.deBruijn32tab", laid_math_bits_deBruijn32tab), ("math/bits.deBruijn64tab", laid_math_bits_deBruijn64tab), ("internal/strconv.uint64pow10", laid_internal_strconv_uint64pow10)] }
def OdeStepsSaid : Prop := odeStepsRow.holds Tryz.pinned (OpenSpec.ofChange odeStepsSpec)

/-- ITS FALSE NEIGHBOUR: 'it returns false'. Refute it at one input. -/
def odeStepsWrong : ChangeSpec := { name := "odeSteps", fn := fun _ => fun
  | [d1, d2, d3, d4] => { results := [.lit (.bool false)], args := [d1, d2, d3, d4] }
  | _ => none }
def OdeStepsWrongFalsely : Prop := odeStepsRow.holds Tryz.pinned (OpenSpec.ofChange odeStepsWrong)

/-- 'ordinatelaw10.OdeBack': WHATEVER THE INPUT: true; the input reads as it did. -/
def odeBackSpec : ChangeSpec := { name := "odeBack", fn := fun _ => fun
  | [d1, d2, d3, d4] => { results := [.lit (.bool true)], args := [d1, d2, d3, d4] }
  | _ => none }
def odeBackRow : OpenClaim := { program := "ytdmcadckdnnglaagreatdoor", sum := "cf47be6d552e0847388846ef1b92a43b9c492d7f5e53ede676e90ff77488d312", func := "ordinate/ordinatelaw10.OdeBack", spec := "odeBack", inPlace := ["internal/abi.NoEscape", "internal/bytealg.MakeNoZero"], unfollowed := true, recurses := true, named := ["internal/strconv.uint64pow10", "math/bits.deBruijn32tab", "math/bits.deBruijn64tab"], apart := false, laid := [("math/bits.deBruijn32tab", laid_math_bits_deBruijn32tab), ("math/bits.deBruijn64tab", laid_math_bits_deBruijn64tab), ("internal/strconv.uint64pow10", laid_internal_strconv_uint64pow10)] }
def OdeBackSaid : Prop := odeBackRow.holds Tryz.pinned (OpenSpec.ofChange odeBackSpec)

/-- ITS FALSE NEIGHBOUR: 'it returns false'. Refute it at one input. -/
def odeBackWrong : ChangeSpec := { name := "odeBack", fn := fun _ => fun
  | [d1, d2, d3, d4] => { results := [.lit (.bool false)], args := [d1, d2, d3, d4] }
  | _ => none }
def OdeBackWrongFalsely : Prop := odeBackRow.holds Tryz.pinned (OpenSpec.ofChange odeBackWrong)

/-- 'ordinatelaw10.OdeLinear': WHATEVER THE INPUT: true; the input reads as it did. -/
def odeLinearSpec : ChangeSpec := { name := "odeLinear", fn := fun _ => fun
  | [d1, d2, d3, d4, d5] => { results := [.lit (.bool true)], args := [d1, d2, d3, d4, d5] }
  | _ => none }
def odeLinearRow : OpenClaim := { program := "ytdmcadckdnnglaagreatdoor", sum := "cf47be6d552e0847388846ef1b92a43b9c492d7f5e53ede676e90ff77488d312", func := "ordinate/ordinatelaw10.OdeLinear", spec := "odeLinear", inPlace := ["internal/abi.NoEscape", "internal/bytealg.MakeNoZero"], unfollowed := true, recurses := true, named := ["internal/strconv.uint64pow10", "math/bits.deBruijn32tab", "math/bits.deBruijn64tab"], apart := false, laid := [("math/bits.deBruijn32tab", laid_math_bits_deBruijn32tab), ("math/bits.deBruijn64tab", laid_math_bits_deBruijn64tab), ("internal/strconv.uint64pow10", laid_internal_strconv_uint64pow10)] }
def OdeLinearSaid : Prop := odeLinearRow.holds Tryz.pinned (OpenSpec.ofChange odeLinearSpec)

/-- ITS FALSE NEIGHBOUR: 'it returns false'. Refute it at one input. -/
def odeLinearWrong : ChangeSpec := { name := "odeLinear", fn := fun _ => fun
  | [d1, d2, d3, d4, d5] => { results := [.lit (.bool false)], args := [d1, d2, d3, d4, d5] }
  | _ => none }
def OdeLinearWrongFalsely : Prop := odeLinearRow.holds Tryz.pinned (OpenSpec.ofChange odeLinearWrong)

/-- 'ordinatelaw10.OdeValues': WHATEVER THE INPUT: true; the input reads as it did. -/
def odeValuesSpec : ChangeSpec := { name := "odeValues", fn := fun _ => fun
  | [d1, d2, d3, d4] => { results := [.lit (.bool true)], args := [d1, d2, d3, d4] }
  | _ => none }
def odeValuesRow : OpenClaim := { program := "ytdmcadckdnnglaagreatdoor", sum := "cf47be6d552e0847388846ef1b92a43b9c492d7f5e53ede676e90ff77488d312", func := "ordinate/ordinatelaw10.OdeValues", spec := "odeValues", inPlace := ["internal/abi.NoEscape", "internal/bytealg.MakeNoZero"], unfollowed := true, recurses := true, named := ["internal/strconv.uint64pow10", "math/bits.deBruijn32tab", "math/bits.deBruijn64tab"], apart := false, laid := [("math/bits.deBruijn32tab", laid_math_bits_deBruijn32tab), ("math/bits.deBruijn64tab", laid_math_bits_deBruijn64tab), ("internal/strconv.uint64pow10", laid_internal_strconv_uint64pow10)] }
def OdeValuesSaid : Prop := odeValuesRow.holds Tryz.pinned (OpenSpec.ofChange odeValuesSpec)

/-- ITS FALSE NEIGHBOUR: 'it returns false'. Refute it at one input. -/
def odeValuesWrong : ChangeSpec := { name := "odeValues", fn := fun _ => fun
  | [d1, d2, d3, d4] => { results := [.lit (.bool false)], args := [d1, d2, d3, d4] }
  | _ => none }
def OdeValuesWrongFalsely : Prop := odeValuesRow.holds Tryz.pinned (OpenSpec.ofChange odeValuesWrong)

/-- 'ordinatelaw10.OdeCovers': WHATEVER THE INPUT: true; the input reads as it did. -/
def odeCoversSpec : ChangeSpec := { name := "odeCovers", fn := fun _ => fun
  | [d1, d2, d3, d4] => { results := [.lit (.bool true)], args := [d1, d2, d3, d4] }
  | _ => none }
def odeCoversRow : OpenClaim := { program := "ytdmcadckdnnglaagreatdoor", sum := "cf47be6d552e0847388846ef1b92a43b9c492d7f5e53ede676e90ff77488d312", func := "ordinate/ordinatelaw10.OdeCovers", spec := "odeCovers", inPlace := ["internal/abi.NoEscape", "internal/bytealg.MakeNoZero"], unfollowed := true, recurses := true, named := ["internal/strconv.uint64pow10", "math/bits.deBruijn32tab", "math/bits.deBruijn64tab"], apart := false, laid := [("math/bits.deBruijn32tab", laid_math_bits_deBruijn32tab), ("math/bits.deBruijn64tab", laid_math_bits_deBruijn64tab), ("internal/strconv.uint64pow10", laid_internal_strconv_uint64pow10)] }
def OdeCoversSaid : Prop := odeCoversRow.holds Tryz.pinned (OpenSpec.ofChange odeCoversSpec)

/-- ITS FALSE NEIGHBOUR: 'it returns false'. Refute it at one input. -/
def odeCoversWrong : ChangeSpec := { name := "odeCovers", fn := fun _ => fun
  | [d1, d2, d3, d4] => { results := [.lit (.bool false)], args := [d1, d2, d3, d4] }
  | _ => none }
def OdeCoversWrongFalsely : Prop := odeCoversRow.holds Tryz.pinned (OpenSpec.ofChange odeCoversWrong)

/-- 'ordinatelaw10.OdeOvers': WHATEVER THE INPUT: true; the input reads as it did. -/
def odeOversSpec : ChangeSpec := { name := "odeOvers", fn := fun _ => fun
  | [d1, d2, d3, d4] => { results := [.lit (.bool true)], args := [d1, d2, d3, d4] }
  | _ => none }
def odeOversRow : OpenClaim := { program := "ytdmcadckdnnglaagreatdoor", sum := "cf47be6d552e0847388846ef1b92a43b9c492d7f5e53ede676e90ff77488d312", func := "ordinate/ordinatelaw10.OdeOvers", spec := "odeOvers", inPlace := ["internal/abi.NoEscape", "internal/bytealg.MakeNoZero"], unfollowed := true, recurses := true, named := ["internal/strconv.uint64pow10", "math/bits.deBruijn32tab", "math/bits.deBruijn64tab"], apart := false, laid := [("math/bits.deBruijn32tab", laid_math_bits_deBruijn32tab), ("math/bits.deBruijn64tab", laid_math_bits_deBruijn64tab), ("internal/strconv.uint64pow10", laid_internal_strconv_uint64pow10)] }
def OdeOversSaid : Prop := odeOversRow.holds Tryz.pinned (OpenSpec.ofChange odeOversSpec)

/-- ITS FALSE NEIGHBOUR: 'it returns false'. Refute it at one input. -/
def odeOversWrong : ChangeSpec := { name := "odeOvers", fn := fun _ => fun
  | [d1, d2, d3, d4] => { results := [.lit (.bool false)], args := [d1, d2, d3, d4] }
  | _ => none }
def OdeOversWrongFalsely : Prop := odeOversRow.holds Tryz.pinned (OpenSpec.ofChange odeOversWrong)

/-- 'ordinatelaw10.OdeChanges': WHATEVER THE INPUT: true; the input reads as it did. -/
def odeChangesSpec : ChangeSpec := { name := "odeChanges", fn := fun _ => fun
  | [d1, d2] => { results := [.lit (.bool true)], args := [d1, d2] }
  | _ => none }
def odeChangesRow : OpenClaim := { program := "ytdmcadckdnnglaagreatdoor", sum := "cf47be6d552e0847388846ef1b92a43b9c492d7f5e53ede676e90ff77488d312", func := "ordinate/ordinatelaw10.OdeChanges", spec := "odeChanges", inPlace := ["internal/abi.NoEscape", "internal/bytealg.MakeNoZero"], unfollowed := true, recurses := true, named := ["internal/strconv.uint64pow10", "math/bits.deBruijn32tab", "math/bits.deBruijn64tab"], apart := false, laid := [("math/bits.deBruijn32tab", laid_math_bits_deBruijn32tab), ("math/bits.deBruijn64tab", laid_math_bits_deBruijn64tab), ("internal/strconv.uint64pow10", laid_internal_strconv_uint64pow10)] }
def OdeChangesSaid : Prop := odeChangesRow.holds Tryz.pinned (OpenSpec.ofChange odeChangesSpec)

/-- ITS FALSE NEIGHBOUR: 'it returns false'. Refute it at one input. -/
def odeChangesWrong : ChangeSpec := { name := "odeChanges", fn := fun _ => fun
  | [d1, d2] => { results := [.lit (.bool false)], args := [d1, d2] }
  | _ => none }
def OdeChangesWrongFalsely : Prop := odeChangesRow.holds Tryz.pinned (OpenSpec.ofChange odeChangesWrong)

/- THE SECOND FORM. 'bulk': how many values and letters a reading holds, each counted each time it is reached (what is shared counts as often as it is met; a slice's spare places count too). A statement '..UptoSaid' is the law's where the arguments, and the package variables that the reading takes, are together of bulk at most 1048576: NARROWER than '..Said'. Prove '..Said' where nothing that the law and all that it calls make is longer than what came in: it says more and counts as full. Else prove '..UptoSaid'. A law counts once. -/
mutual
def uptoBulk {H : Type} : DataW H → Nat
  | .lit (.string bytes) => bytes.length + 1
  | .lit _ => 1
  | .nil => 1
  | .ptr d => uptoBulk d + 1
  | .slice elems spare => uptoBulkAll elems + uptoBulkAll spare + 1
  | .agg parts => uptoBulkAll parts + 1
  | .iface _ d => uptoBulk d + 1
  | .map entries => uptoBulkEntries entries + 1
  | .held _ => 1
def uptoBulkAll {H : Type} : List (DataW H) → Nat
  | [] => 0
  | d :: r => uptoBulk d + uptoBulkAll r
def uptoBulkEntries {H : Type} : List (Lit × DataW H) → Nat
  | [] => 0
  | x :: r => uptoBulkEntry x + uptoBulkEntries r
def uptoBulkEntry {H : Type} : Lit × DataW H → Nat
  | (.string bytes, d) => bytes.length + uptoBulk d + 1
  | (_, d) => uptoBulk d + 1
 end
def uptoSmall : (H : Type) → List (DataW H) → Bool := fun _ ds => decide (uptoBulkAll ds ≤ 1048576)
def OpenSpec.upto (s : _root_.Go.ChangeSpec) : _root_.Go.OpenSpec := { _root_.Go.OpenSpec.ofChange s with cond := some uptoSmall }

/-- 'ordinatelaw10.OdeChecks', WHERE WHAT IT READS IS OF BULK AT MOST 1048576: true; the input reads as it did. -/
def odeChecksUptoRow : OpenClaim := { program := "ytdmcadckdnnglaagreatdoor", sum := "cf47be6d552e0847388846ef1b92a43b9c492d7f5e53ede676e90ff77488d312", func := "ordinate/ordinatelaw10.OdeChecks", spec := "odeChecks", inPlace := ["internal/abi.NoEscape", "internal/bytealg.MakeNoZero"], unfollowed := true, recurses := true, named := ["internal/strconv.uint64pow10", "math/bits.deBruijn32tab", "math/bits.deBruijn64tab"], apart := false, laid := [("math/bits.deBruijn32tab", laid_math_bits_deBruijn32tab), ("math/bits.deBruijn64tab", laid_math_bits_deBruijn64tab), ("internal/strconv.uint64pow10", laid_internal_strconv_uint64pow10)], narrowed := true }
def OdeChecksUptoSaid : Prop := odeChecksUptoRow.holds Tryz.pinned (OpenSpec.upto odeChecksSpec)

/-- 'ordinatelaw10.OdeSeries', WHERE WHAT IT READS IS OF BULK AT MOST 1048576: true; the input reads as it did. -/
def odeSeriesUptoRow : OpenClaim := { program := "ytdmcadckdnnglaagreatdoor", sum := "cf47be6d552e0847388846ef1b92a43b9c492d7f5e53ede676e90ff77488d312", func := "ordinate/ordinatelaw10.OdeSeries", spec := "odeSeries", inPlace := ["internal/abi.NoEscape", "internal/bytealg.MakeNoZero"], unfollowed := true, recurses := true, named := ["internal/strconv.uint64pow10", "math/bits.deBruijn32tab", "math/bits.deBruijn64tab"], apart := false, laid := [("math/bits.deBruijn32tab", laid_math_bits_deBruijn32tab), ("math/bits.deBruijn64tab", laid_math_bits_deBruijn64tab), ("internal/strconv.uint64pow10", laid_internal_strconv_uint64pow10)], narrowed := true }
def OdeSeriesUptoSaid : Prop := odeSeriesUptoRow.holds Tryz.pinned (OpenSpec.upto odeSeriesSpec)

/-- 'ordinatelaw10.OdeSolves', WHERE WHAT IT READS IS OF BULK AT MOST 1048576: true; the input reads as it did. -/
def odeSolvesUptoRow : OpenClaim := { program := "ytdmcadckdnnglaagreatdoor", sum := "cf47be6d552e0847388846ef1b92a43b9c492d7f5e53ede676e90ff77488d312", func := "ordinate/ordinatelaw10.OdeSolves", spec := "odeSolves", inPlace := ["internal/abi.NoEscape", "internal/bytealg.MakeNoZero"], unfollowed := true, recurses := true, named := ["internal/strconv.uint64pow10", "math/bits.deBruijn32tab", "math/bits.deBruijn64tab"], apart := false, laid := [("math/bits.deBruijn32tab", laid_math_bits_deBruijn32tab), ("math/bits.deBruijn64tab", laid_math_bits_deBruijn64tab), ("internal/strconv.uint64pow10", laid_internal_strconv_uint64pow10)], narrowed := true }
def OdeSolvesUptoSaid : Prop := odeSolvesUptoRow.holds Tryz.pinned (OpenSpec.upto odeSolvesSpec)

/-- 'ordinatelaw10.OdeReaches', WHERE WHAT IT READS IS OF BULK AT MOST 1048576: true; the input reads as it did. -/
def odeReachesUptoRow : OpenClaim := { program := "ytdmcadckdnnglaagreatdoor", sum := "cf47be6d552e0847388846ef1b92a43b9c492d7f5e53ede676e90ff77488d312", func := "ordinate/ordinatelaw10.OdeReaches", spec := "odeReaches", inPlace := ["internal/abi.NoEscape", "internal/bytealg.MakeNoZero"], unfollowed := true, recurses := true, named := ["internal/strconv.uint64pow10", "math/bits.deBruijn32tab", "math/bits.deBruijn64tab"], apart := false, laid := [("math/bits.deBruijn32tab", laid_math_bits_deBruijn32tab), ("math/bits.deBruijn64tab", laid_math_bits_deBruijn64tab), ("internal/strconv.uint64pow10", laid_internal_strconv_uint64pow10)], narrowed := true }
def OdeReachesUptoSaid : Prop := odeReachesUptoRow.holds Tryz.pinned (OpenSpec.upto odeReachesSpec)

/-- 'ordinatelaw10.OdeFamilies', WHERE WHAT IT READS IS OF BULK AT MOST 1048576: true; the input reads as it did. -/
def odeFamiliesUptoRow : OpenClaim := { program := "ytdmcadckdnnglaagreatdoor", sum := "cf47be6d552e0847388846ef1b92a43b9c492d7f5e53ede676e90ff77488d312", func := "ordinate/ordinatelaw10.OdeFamilies", spec := "odeFamilies", inPlace := ["internal/abi.NoEscape", "internal/bytealg.MakeNoZero"], unfollowed := true, recurses := true, named := ["internal/strconv.uint64pow10", "math/bits.deBruijn32tab", "math/bits.deBruijn64tab"], apart := false, laid := [("math/bits.deBruijn32tab", laid_math_bits_deBruijn32tab), ("math/bits.deBruijn64tab", laid_math_bits_deBruijn64tab), ("internal/strconv.uint64pow10", laid_internal_strconv_uint64pow10)], narrowed := true }
def OdeFamiliesUptoSaid : Prop := odeFamiliesUptoRow.holds Tryz.pinned (OpenSpec.upto odeFamiliesSpec)

/-- 'ordinatelaw10.OdeSteps', WHERE WHAT IT READS IS OF BULK AT MOST 1048576: true; the input reads as it did. -/
def odeStepsUptoRow : OpenClaim := { program := "ytdmcadckdnnglaagreatdoor", sum := "cf47be6d552e0847388846ef1b92a43b9c492d7f5e53ede676e90ff77488d312", func := "ordinate/ordinatelaw10.OdeSteps", spec := "odeSteps", inPlace := ["internal/abi.NoEscape", "internal/bytealg.MakeNoZero"], unfollowed := true, recurses := true, named := ["internal/strconv.uint64pow10", "math/bits.deBruijn32tab", "math/bits.deBruijn64tab"], apart := false, laid := [("math/bits.deBruijn32tab", laid_math_bits_deBruijn32tab), ("math/bits.deBruijn64tab", laid_math_bits_deBruijn64tab), ("internal/strconv.uint64pow10", laid_internal_strconv_uint64pow10)], narrowed := true }
def OdeStepsUptoSaid : Prop := odeStepsUptoRow.holds Tryz.pinned (OpenSpec.upto odeStepsSpec)

/-- 'ordinatelaw10.OdeBack', WHERE WHAT IT READS IS OF BULK AT MOST 1048576: true; the input reads as it did. -/
def odeBackUptoRow : OpenClaim := { program := "ytdmcadckdnnglaagreatdoor", sum := "cf47be6d552e0847388846ef1b92a43b9c492d7f5e53ede676e90ff77488d312", func := "ordinate/ordinatelaw10.OdeBack", spec := "odeBack", inPlace := ["internal/abi.NoEscape", "internal/bytealg.MakeNoZero"], unfollowed := true, recurses := true, named := ["internal/strconv.uint64pow10", "math/bits.deBruijn32tab", "math/bits.deBruijn64tab"], apart := false, laid := [("math/bits.deBruijn32tab", laid_math_bits_deBruijn32tab), ("math/bits.deBruijn64tab", laid_math_bits_deBruijn64tab), ("internal/strconv.uint64pow10", laid_internal_strconv_uint64pow10)], narrowed := true }
def OdeBackUptoSaid : Prop := odeBackUptoRow.holds Tryz.pinned (OpenSpec.upto odeBackSpec)

/-- 'ordinatelaw10.OdeLinear', WHERE WHAT IT READS IS OF BULK AT MOST 1048576: true; the input reads as it did. -/
def odeLinearUptoRow : OpenClaim := { program := "ytdmcadckdnnglaagreatdoor", sum := "cf47be6d552e0847388846ef1b92a43b9c492d7f5e53ede676e90ff77488d312", func := "ordinate/ordinatelaw10.OdeLinear", spec := "odeLinear", inPlace := ["internal/abi.NoEscape", "internal/bytealg.MakeNoZero"], unfollowed := true, recurses := true, named := ["internal/strconv.uint64pow10", "math/bits.deBruijn32tab", "math/bits.deBruijn64tab"], apart := false, laid := [("math/bits.deBruijn32tab", laid_math_bits_deBruijn32tab), ("math/bits.deBruijn64tab", laid_math_bits_deBruijn64tab), ("internal/strconv.uint64pow10", laid_internal_strconv_uint64pow10)], narrowed := true }
def OdeLinearUptoSaid : Prop := odeLinearUptoRow.holds Tryz.pinned (OpenSpec.upto odeLinearSpec)

/-- 'ordinatelaw10.OdeValues', WHERE WHAT IT READS IS OF BULK AT MOST 1048576: true; the input reads as it did. -/
def odeValuesUptoRow : OpenClaim := { program := "ytdmcadckdnnglaagreatdoor", sum := "cf47be6d552e0847388846ef1b92a43b9c492d7f5e53ede676e90ff77488d312", func := "ordinate/ordinatelaw10.OdeValues", spec := "odeValues", inPlace := ["internal/abi.NoEscape", "internal/bytealg.MakeNoZero"], unfollowed := true, recurses := true, named := ["internal/strconv.uint64pow10", "math/bits.deBruijn32tab", "math/bits.deBruijn64tab"], apart := false, laid := [("math/bits.deBruijn32tab", laid_math_bits_deBruijn32tab), ("math/bits.deBruijn64tab", laid_math_bits_deBruijn64tab), ("internal/strconv.uint64pow10", laid_internal_strconv_uint64pow10)], narrowed := true }
def OdeValuesUptoSaid : Prop := odeValuesUptoRow.holds Tryz.pinned (OpenSpec.upto odeValuesSpec)

/-- 'ordinatelaw10.OdeCovers', WHERE WHAT IT READS IS OF BULK AT MOST 1048576: true; the input reads as it did. -/
def odeCoversUptoRow : OpenClaim := { program := "ytdmcadckdnnglaagreatdoor", sum := "cf47be6d552e0847388846ef1b92a43b9c492d7f5e53ede676e90ff77488d312", func := "ordinate/ordinatelaw10.OdeCovers", spec := "odeCovers", inPlace := ["internal/abi.NoEscape", "internal/bytealg.MakeNoZero"], unfollowed := true, recurses := true, named := ["internal/strconv.uint64pow10", "math/bits.deBruijn32tab", "math/bits.deBruijn64tab"], apart := false, laid := [("math/bits.deBruijn32tab", laid_math_bits_deBruijn32tab), ("math/bits.deBruijn64tab", laid_math_bits_deBruijn64tab), ("internal/strconv.uint64pow10", laid_internal_strconv_uint64pow10)], narrowed := true }
def OdeCoversUptoSaid : Prop := odeCoversUptoRow.holds Tryz.pinned (OpenSpec.upto odeCoversSpec)

/-- 'ordinatelaw10.OdeOvers', WHERE WHAT IT READS IS OF BULK AT MOST 1048576: true; the input reads as it did. -/
def odeOversUptoRow : OpenClaim := { program := "ytdmcadckdnnglaagreatdoor", sum := "cf47be6d552e0847388846ef1b92a43b9c492d7f5e53ede676e90ff77488d312", func := "ordinate/ordinatelaw10.OdeOvers", spec := "odeOvers", inPlace := ["internal/abi.NoEscape", "internal/bytealg.MakeNoZero"], unfollowed := true, recurses := true, named := ["internal/strconv.uint64pow10", "math/bits.deBruijn32tab", "math/bits.deBruijn64tab"], apart := false, laid := [("math/bits.deBruijn32tab", laid_math_bits_deBruijn32tab), ("math/bits.deBruijn64tab", laid_math_bits_deBruijn64tab), ("internal/strconv.uint64pow10", laid_internal_strconv_uint64pow10)], narrowed := true }
def OdeOversUptoSaid : Prop := odeOversUptoRow.holds Tryz.pinned (OpenSpec.upto odeOversSpec)

/-- 'ordinatelaw10.OdeChanges', WHERE WHAT IT READS IS OF BULK AT MOST 1048576: true; the input reads as it did. -/
def odeChangesUptoRow : OpenClaim := { program := "ytdmcadckdnnglaagreatdoor", sum := "cf47be6d552e0847388846ef1b92a43b9c492d7f5e53ede676e90ff77488d312", func := "ordinate/ordinatelaw10.OdeChanges", spec := "odeChanges", inPlace := ["internal/abi.NoEscape", "internal/bytealg.MakeNoZero"], unfollowed := true, recurses := true, named := ["internal/strconv.uint64pow10", "math/bits.deBruijn32tab", "math/bits.deBruijn64tab"], apart := false, laid := [("math/bits.deBruijn32tab", laid_math_bits_deBruijn32tab), ("math/bits.deBruijn64tab", laid_math_bits_deBruijn64tab), ("internal/strconv.uint64pow10", laid_internal_strconv_uint64pow10)], narrowed := true }
def OdeChangesUptoSaid : Prop := odeChangesUptoRow.holds Tryz.pinned (OpenSpec.upto odeChangesSpec)

end Rows
end Go.Proofs.YtdmcadckdnnglaaGreatDoor
