/-
  NARROWER THAN 'FOR EVERY INPUT', by the rows' own cells (each row's printed sentence says how): BeamWays: laid · BeamBarriers: laid · BeamFields: laid · BeamRuns: laid · BeamLeast: laid · BeamSafe: laid · BeamGrids: laid · BeamDeadlines: laid · BeamDark: laid · BeamSectors: laid · BeamTexts: laid · BeamBack: laid.
  DERIVED. THE GIVEN ROWS OF THIS SEAT. 12 by the template 'for every input the law returns true; each argument reads behind the call as it read before'; 0 by the template 'total and deterministic' (their statements: YtehnikhicnnnhaaGreatDoorTotals.lean).
  GIVEN WITH THE SEED: the statements are not yours to turn. If you find one false, say at which input.
  Laid BY PROGRAM, IN A SANDBOX (cutbox-rows.mjs): the forced cells as the released guide's own fill.sh prints them over the translation a3d25f3d9f1a8113… (all of the seat's roots in one cut). By AI agents, Wed Nov 11 2026. No macro, syntax, notation, axiom, sorry.
-/
import Derived.Test.YtehnikhicnnnhaaGreatDoorChecked
import GoSem.PinnedTables
import GoSem.Claim
import GoSem.ClaimJoined
import GoSem.ClaimMapViews
import Derived.JoinedTies
import Derived.KernelRfl
namespace Go.Proofs.YtehnikhicnnnhaaGreatDoor
/- THE CELL 'sum', in the pinned program and in every row, IS THE sha256 OF THE DUMP (.gsa) THAT YtehnikhicnnnhaaGreatDoorProg.lean LOADS. Nothing in Lean hashes anything: it is a label: what it is worth is what the hold of that sum in a sandbox is worth. -/
noncomputable def Tryz.pinned : Pinned := { name := "ytehnikhicnnnhaagreatdoor", sum := "a3d25f3d9f1a811337f7561e97d2aec8f9f6768c3466bec0a46ae80386571d44", checked := Tryz.checked }
namespace Rows
def none {H : Type} : Left H := { results := [], args := [] }

/- WHAT THE LISTED PACKAGE-LEVEL VARIABLES READ AS WHEN THE CALL BEGINS. Each datum BY PROGRAM (the guide's laid-datum.mjs) off the statement by which the dump's own 'gosem.cut.vars' lays the variable. In a bare row this is a premise. The card (YtehnikhicnnnhaaGreatDoorCards.lean) ties it to the program's text. -/
def laid_math_bits_deBruijn32tab {H : Type} : DataW H := .agg [.lit (.int .u8 0), .lit (.int .u8 1), .lit (.int .u8 28), .lit (.int .u8 2), .lit (.int .u8 29), .lit (.int .u8 14), .lit (.int .u8 24), .lit (.int .u8 3), .lit (.int .u8 30), .lit (.int .u8 22), .lit (.int .u8 20), .lit (.int .u8 15), .lit (.int .u8 25), .lit (.int .u8 17), .lit (.int .u8 4), .lit (.int .u8 8), .lit (.int .u8 31), .lit (.int .u8 27), .lit (.int .u8 13), .lit (.int .u8 23), .lit (.int .u8 21), .lit (.int .u8 19), .lit (.int .u8 16), .lit (.int .u8 7), .lit (.int .u8 26), .lit (.int .u8 12), .lit (.int .u8 18), .lit (.int .u8 6), .lit (.int .u8 11), .lit (.int .u8 5), .lit (.int .u8 10), .lit (.int .u8 9)]
def laid_math_bits_deBruijn64tab {H : Type} : DataW H := .agg [.lit (.int .u8 0), .lit (.int .u8 1), .lit (.int .u8 56), .lit (.int .u8 2), .lit (.int .u8 57), .lit (.int .u8 49), .lit (.int .u8 28), .lit (.int .u8 3), .lit (.int .u8 61), .lit (.int .u8 58), .lit (.int .u8 42), .lit (.int .u8 50), .lit (.int .u8 38), .lit (.int .u8 29), .lit (.int .u8 17), .lit (.int .u8 4), .lit (.int .u8 62), .lit (.int .u8 47), .lit (.int .u8 59), .lit (.int .u8 36), .lit (.int .u8 45), .lit (.int .u8 43), .lit (.int .u8 51), .lit (.int .u8 22), .lit (.int .u8 53), .lit (.int .u8 39), .lit (.int .u8 33), .lit (.int .u8 30), .lit (.int .u8 24), .lit (.int .u8 18), .lit (.int .u8 12), .lit (.int .u8 5), .lit (.int .u8 63), .lit (.int .u8 55), .lit (.int .u8 48), .lit (.int .u8 27), .lit (.int .u8 60), .lit (.int .u8 41), .lit (.int .u8 37), .lit (.int .u8 16), .lit (.int .u8 46), .lit (.int .u8 35), .lit (.int .u8 44), .lit (.int .u8 21), .lit (.int .u8 52), .lit (.int .u8 32), .lit (.int .u8 23), .lit (.int .u8 11), .lit (.int .u8 54), .lit (.int .u8 26), .lit (.int .u8 40), .lit (.int .u8 15), .lit (.int .u8 34), .lit (.int .u8 20), .lit (.int .u8 31), .lit (.int .u8 10), .lit (.int .u8 25), .lit (.int .u8 14), .lit (.int .u8 19), .lit (.int .u8 9), .lit (.int .u8 13), .lit (.int .u8 8), .lit (.int .u8 7), .lit (.int .u8 6)]
def laid_internal_strconv_uint64pow10 {H : Type} : DataW H := .agg [.lit (.int .u64 1), .lit (.int .u64 10), .lit (.int .u64 100), .lit (.int .u64 1000), .lit (.int .u64 10000), .lit (.int .u64 100000), .lit (.int .u64 1000000), .lit (.int .u64 10000000), .lit (.int .u64 100000000), .lit (.int .u64 1000000000), .lit (.int .u64 10000000000), .lit (.int .u64 100000000000), .lit (.int .u64 1000000000000), .lit (.int .u64 10000000000000), .lit (.int .u64 100000000000000), .lit (.int .u64 1000000000000000), .lit (.int .u64 10000000000000000), .lit (.int .u64 100000000000000000), .lit (.int .u64 1000000000000000000), .lit (.int .u64 10000000000000000000)]
def laid_spillage_beam_kinds {H : Type} : DataW H := .agg [.lit (.string [102, 111, 99, 117, 115]), .lit (.string [115, 116, 97, 110, 100, 98, 121]), .lit (.string [115, 116, 111, 119])]
def laid_unicode_utf8_acceptRanges {H : Type} : DataW H := .agg [.agg [.lit (.int .u8 128), .lit (.int .u8 191)], .agg [.lit (.int .u8 160), .lit (.int .u8 191)], .agg [.lit (.int .u8 128), .lit (.int .u8 159)], .agg [.lit (.int .u8 144), .lit (.int .u8 191)], .agg [.lit (.int .u8 128), .lit (.int .u8 143)], .agg [.lit (.int .u8 0), .lit (.int .u8 0)], .agg [.lit (.int .u8 0), .lit (.int .u8 0)], .agg [.lit (.int .u8 0), .lit (.int .u8 0)], .agg [.lit (.int .u8 0), .lit (.int .u8 0)], .agg [.lit (.int .u8 0), .lit (.int .u8 0)], .agg [.lit (.int .u8 0), .lit (.int .u8 0)], .agg [.lit (.int .u8 0), .lit (.int .u8 0)], .agg [.lit (.int .u8 0), .lit (.int .u8 0)], .agg [.lit (.int .u8 0), .lit (.int .u8 0)], .agg [.lit (.int .u8 0), .lit (.int .u8 0)], .agg [.lit (.int .u8 0), .lit (.int .u8 0)]]
/-- One of Go's own tables, pinned by name: the form's constant. -/
def laid_unicode_utf8_first : DataW Unit := Go.Pinned.utf8First

/-- 'spillagelaw06.BeamWays': WHATEVER THE INPUT: true; the input reads as it did. -/
def beamWaysSpec : ChangeSpec := { name := "beamWays", fn := fun _ => fun
  | [d1, d2] => { results := [.lit (.bool true)], args := [d1, d2] }
  | _ => none }
def beamWaysRow : OpenClaim := { program := "ytehnikhicnnnhaagreatdoor", sum := "a3d25f3d9f1a811337f7561e97d2aec8f9f6768c3466bec0a46ae80386571d44", func := "spillage/spillagelaw06.BeamWays", spec := "beamWays", inPlace := ["internal/abi.NoEscape", "internal/bytealg.MakeNoZero"], unfollowed := true, recurses := true, named := ["spillage/beam.kinds", "internal/strconv.uint64pow10", "math/bits.deBruijn32tab", "math/bits.deBruijn64tab"], apart := false, laid := [("math/bits.deBruijn32tab", laid_math_bits_deBruijn32tab), ("math/bits.deBruijn64tab", laid_math_bits_deBruijn64tab), ("internal/strconv.uint64pow10", laid_internal_strconv_uint64pow10), ("spillage/beam.kinds", laid_spillage_beam_kinds)] }
def BeamWaysSaid : Prop := beamWaysRow.holds Tryz.pinned (OpenSpec.ofChange beamWaysSpec)

/-- ITS FALSE NEIGHBOUR: 'it returns false'. Refute it at one input. -/
def beamWaysWrong : ChangeSpec := { name := "beamWays", fn := fun _ => fun
  | [d1, d2] => { results := [.lit (.bool false)], args := [d1, d2] }
  | _ => none }
def BeamWaysWrongFalsely : Prop := beamWaysRow.holds Tryz.pinned (OpenSpec.ofChange beamWaysWrong)

/-- 'spillagelaw06.BeamBarriers': WHATEVER THE INPUT: true; the input reads as it did. -/
def beamBarriersSpec : ChangeSpec := { name := "beamBarriers", fn := fun _ => fun
  | [d1, d2, d3] => { results := [.lit (.bool true)], args := [d1, d2, d3] }
  | _ => none }
def beamBarriersRow : OpenClaim := { program := "ytehnikhicnnnhaagreatdoor", sum := "a3d25f3d9f1a811337f7561e97d2aec8f9f6768c3466bec0a46ae80386571d44", func := "spillage/spillagelaw06.BeamBarriers", spec := "beamBarriers", inPlace := ["internal/abi.NoEscape", "internal/bytealg.MakeNoZero"], unfollowed := true, recurses := true, named := ["spillage/beam.kinds", "internal/strconv.uint64pow10", "math/bits.deBruijn32tab", "math/bits.deBruijn64tab"], apart := false, laid := [("math/bits.deBruijn32tab", laid_math_bits_deBruijn32tab), ("math/bits.deBruijn64tab", laid_math_bits_deBruijn64tab), ("internal/strconv.uint64pow10", laid_internal_strconv_uint64pow10), ("spillage/beam.kinds", laid_spillage_beam_kinds)] }
def BeamBarriersSaid : Prop := beamBarriersRow.holds Tryz.pinned (OpenSpec.ofChange beamBarriersSpec)

/-- ITS FALSE NEIGHBOUR: 'it returns false'. Refute it at one input. -/
def beamBarriersWrong : ChangeSpec := { name := "beamBarriers", fn := fun _ => fun
  | [d1, d2, d3] => { results := [.lit (.bool false)], args := [d1, d2, d3] }
  | _ => none }
def BeamBarriersWrongFalsely : Prop := beamBarriersRow.holds Tryz.pinned (OpenSpec.ofChange beamBarriersWrong)

/-- 'spillagelaw06.BeamFields': WHATEVER THE INPUT: true; the input reads as it did. -/
def beamFieldsSpec : ChangeSpec := { name := "beamFields", fn := fun _ => fun
  | [d1, d2, d3] => { results := [.lit (.bool true)], args := [d1, d2, d3] }
  | _ => none }
def beamFieldsRow : OpenClaim := { program := "ytehnikhicnnnhaagreatdoor", sum := "a3d25f3d9f1a811337f7561e97d2aec8f9f6768c3466bec0a46ae80386571d44", func := "spillage/spillagelaw06.BeamFields", spec := "beamFields", inPlace := ["internal/abi.NoEscape", "internal/bytealg.MakeNoZero"], unfollowed := true, recurses := true, named := ["spillage/beam.kinds", "internal/strconv.uint64pow10", "math/bits.deBruijn32tab", "math/bits.deBruijn64tab"], apart := false, laid := [("math/bits.deBruijn32tab", laid_math_bits_deBruijn32tab), ("math/bits.deBruijn64tab", laid_math_bits_deBruijn64tab), ("internal/strconv.uint64pow10", laid_internal_strconv_uint64pow10), ("spillage/beam.kinds", laid_spillage_beam_kinds)] }
def BeamFieldsSaid : Prop := beamFieldsRow.holds Tryz.pinned (OpenSpec.ofChange beamFieldsSpec)

/-- ITS FALSE NEIGHBOUR: 'it returns false'. Refute it at one input. -/
def beamFieldsWrong : ChangeSpec := { name := "beamFields", fn := fun _ => fun
  | [d1, d2, d3] => { results := [.lit (.bool false)], args := [d1, d2, d3] }
  | _ => none }
def BeamFieldsWrongFalsely : Prop := beamFieldsRow.holds Tryz.pinned (OpenSpec.ofChange beamFieldsWrong)

/-- 'spillagelaw06.BeamRuns': WHATEVER THE INPUT: true; the input reads as it did. -/
def beamRunsSpec : ChangeSpec := { name := "beamRuns", fn := fun _ => fun
  | [d1, d2, d3] => { results := [.lit (.bool true)], args := [d1, d2, d3] }
  | _ => none }
def beamRunsRow : OpenClaim := { program := "ytehnikhicnnnhaagreatdoor", sum := "a3d25f3d9f1a811337f7561e97d2aec8f9f6768c3466bec0a46ae80386571d44", func := "spillage/spillagelaw06.BeamRuns", spec := "beamRuns", inPlace := ["internal/abi.NoEscape", "internal/bytealg.MakeNoZero"], unfollowed := true, recurses := true, named := ["spillage/beam.kinds", "internal/strconv.uint64pow10", "math/bits.deBruijn32tab", "math/bits.deBruijn64tab"], apart := false, laid := [("math/bits.deBruijn32tab", laid_math_bits_deBruijn32tab), ("math/bits.deBruijn64tab", laid_math_bits_deBruijn64tab), ("internal/strconv.uint64pow10", laid_internal_strconv_uint64pow10), ("spillage/beam.kinds", laid_spillage_beam_kinds)] }
def BeamRunsSaid : Prop := beamRunsRow.holds Tryz.pinned (OpenSpec.ofChange beamRunsSpec)

/-- ITS FALSE NEIGHBOUR: 'it returns false'. Refute it at one input. -/
def beamRunsWrong : ChangeSpec := { name := "beamRuns", fn := fun _ => fun
  | [d1, d2, d3] => { results := [.lit (.bool false)], args := [d1, d2, d3] }
  | _ => none }
def BeamRunsWrongFalsely : Prop := beamRunsRow.holds Tryz.pinned (OpenSpec.ofChange beamRunsWrong)

/-- 'spillagelaw06.BeamLeast': WHATEVER THE INPUT: true; the input reads as it did. -/
def beamLeastSpec : ChangeSpec := { name := "beamLeast", fn := fun _ => fun
  | [d1, d2] => { results := [.lit (.bool true)], args := [d1, d2] }
  | _ => none }
def beamLeastRow : OpenClaim := { program := "ytehnikhicnnnhaagreatdoor", sum := "a3d25f3d9f1a811337f7561e97d2aec8f9f6768c3466bec0a46ae80386571d44", func := "spillage/spillagelaw06.BeamLeast", spec := "beamLeast", inPlace := ["internal/abi.NoEscape", "internal/bytealg.MakeNoZero"], unfollowed := true, recurses := true, named := ["spillage/beam.kinds", "internal/strconv.uint64pow10", "math/bits.deBruijn32tab", "math/bits.deBruijn64tab"], apart := false, laid := [("math/bits.deBruijn32tab", laid_math_bits_deBruijn32tab), ("math/bits.deBruijn64tab", laid_math_bits_deBruijn64tab), ("internal/strconv.uint64pow10", laid_internal_strconv_uint64pow10), ("spillage/beam.kinds", laid_spillage_beam_kinds)] }
def BeamLeastSaid : Prop := beamLeastRow.holds Tryz.pinned (OpenSpec.ofChange beamLeastSpec)

/-- ITS FALSE NEIGHBOUR: 'it returns false'. Refute it at one input. -/
def beamLeastWrong : ChangeSpec := { name := "beamLeast", fn := fun _ => fun
  | [d1, d2] => { results := [.lit (.bool false)], args := [d1, d2] }
  | _ => none }
def BeamLeastWrongFalsely : Prop := beamLeastRow.holds Tryz.pinned (OpenSpec.ofChange beamLeastWrong)

/-- 'spillagelaw06.BeamSafe': WHATEVER THE INPUT: true; the input reads as it did. -/
def beamSafeSpec : ChangeSpec := { name := "beamSafe", fn := fun _ => fun
  | [d1, d2, d3] => { results := [.lit (.bool true)], args := [d1, d2, d3] }
  | _ => none }
def beamSafeRow : OpenClaim := { program := "ytehnikhicnnnhaagreatdoor", sum := "a3d25f3d9f1a811337f7561e97d2aec8f9f6768c3466bec0a46ae80386571d44", func := "spillage/spillagelaw06.BeamSafe", spec := "beamSafe", inPlace := ["internal/abi.NoEscape", "internal/bytealg.MakeNoZero"], unfollowed := true, recurses := true, named := ["spillage/beam.kinds", "internal/strconv.uint64pow10", "math/bits.deBruijn32tab", "math/bits.deBruijn64tab"], apart := false, laid := [("math/bits.deBruijn32tab", laid_math_bits_deBruijn32tab), ("math/bits.deBruijn64tab", laid_math_bits_deBruijn64tab), ("internal/strconv.uint64pow10", laid_internal_strconv_uint64pow10), ("spillage/beam.kinds", laid_spillage_beam_kinds)] }
def BeamSafeSaid : Prop := beamSafeRow.holds Tryz.pinned (OpenSpec.ofChange beamSafeSpec)

/-- ITS FALSE NEIGHBOUR: 'it returns false'. Refute it at one input. -/
def beamSafeWrong : ChangeSpec := { name := "beamSafe", fn := fun _ => fun
  | [d1, d2, d3] => { results := [.lit (.bool false)], args := [d1, d2, d3] }
  | _ => none }
def BeamSafeWrongFalsely : Prop := beamSafeRow.holds Tryz.pinned (OpenSpec.ofChange beamSafeWrong)

/-- 'spillagelaw06.BeamGrids': WHATEVER THE INPUT: true; the input reads as it did. -/
def beamGridsSpec : ChangeSpec := { name := "beamGrids", fn := fun _ => fun
  | [d1, d2, d3] => { results := [.lit (.bool true)], args := [d1, d2, d3] }
  | _ => none }
def beamGridsRow : OpenClaim := { program := "ytehnikhicnnnhaagreatdoor", sum := "a3d25f3d9f1a811337f7561e97d2aec8f9f6768c3466bec0a46ae80386571d44", func := "spillage/spillagelaw06.BeamGrids", spec := "beamGrids", inPlace := ["internal/abi.NoEscape", "internal/bytealg.MakeNoZero"], unfollowed := true, recurses := true, named := ["spillage/beam.kinds", "internal/strconv.uint64pow10", "math/bits.deBruijn32tab", "math/bits.deBruijn64tab"], apart := false, laid := [("math/bits.deBruijn32tab", laid_math_bits_deBruijn32tab), ("math/bits.deBruijn64tab", laid_math_bits_deBruijn64tab), ("internal/strconv.uint64pow10", laid_internal_strconv_uint64pow10), ("spillage/beam.kinds", laid_spillage_beam_kinds)] }
def BeamGridsSaid : Prop := beamGridsRow.holds Tryz.pinned (OpenSpec.ofChange beamGridsSpec)

/-- ITS FALSE NEIGHBOUR: 'it returns false'. Refute it at one input. -/
def beamGridsWrong : ChangeSpec := { name := "beamGrids", fn := fun _ => fun
  | [d1, d2, d3] => { results := [.lit (.bool false)], args := [d1, d2, d3] }
  | _ => none }
def BeamGridsWrongFalsely : Prop := beamGridsRow.holds Tryz.pinned (OpenSpec.ofChange beamGridsWrong)

/-- 'spillagelaw06.BeamDeadlines': WHATEVER THE INPUT: true; the input reads as it did. -/
def beamDeadlinesSpec : ChangeSpec := { name := "beamDeadlines", fn := fun _ => fun
  | [d1, d2, d3] => { results := [.lit (.bool true)], args := [d1, d2, d3] }
  | _ => none }
def beamDeadlinesRow : OpenClaim := { program := "ytehnikhicnnnhaagreatdoor", sum := "a3d25f3d9f1a811337f7561e97d2aec8f9f6768c3466bec0a46ae80386571d44", func := "spillage/spillagelaw06.BeamDeadlines", spec := "beamDeadlines", inPlace := ["internal/abi.NoEscape", "internal/bytealg.MakeNoZero"], unfollowed := true, recurses := true, named := ["spillage/beam.kinds", "internal/strconv.uint64pow10", "math/bits.deBruijn32tab", "math/bits.deBruijn64tab"], apart := false, laid := [("math/bits.deBruijn32tab", laid_math_bits_deBruijn32tab), ("math/bits.deBruijn64tab", laid_math_bits_deBruijn64tab), ("internal/strconv.uint64pow10", laid_internal_strconv_uint64pow10), ("spillage/beam.kinds", laid_spillage_beam_kinds)] }
def BeamDeadlinesSaid : Prop := beamDeadlinesRow.holds Tryz.pinned (OpenSpec.ofChange beamDeadlinesSpec)

/-- ITS FALSE NEIGHBOUR: 'it returns false'. Refute it at one input. -/
def beamDeadlinesWrong : ChangeSpec := { name := "beamDeadlines", fn := fun _ => fun
  | [d1, d2, d3] => { results := [.lit (.bool false)], args := [d1, d2, d3] }
  | _ => none }
def BeamDeadlinesWrongFalsely : Prop := beamDeadlinesRow.holds Tryz.pinned (OpenSpec.ofChange beamDeadlinesWrong)

/-- 'spillagelaw06.BeamDark': WHATEVER THE INPUT: true; the input reads as it did. -/
def beamDarkSpec : ChangeSpec := { name := "beamDark", fn := fun _ => fun
  | [d1, d2, d3] => { results := [.lit (.bool true)], args := [d1, d2, d3] }
  | _ => none }
def beamDarkRow : OpenClaim := { program := "ytehnikhicnnnhaagreatdoor", sum := "a3d25f3d9f1a811337f7561e97d2aec8f9f6768c3466bec0a46ae80386571d44", func := "spillage/spillagelaw06.BeamDark", spec := "beamDark", inPlace := ["internal/abi.NoEscape", "internal/bytealg.MakeNoZero"], unfollowed := true, recurses := true, named := ["spillage/beam.kinds", "internal/strconv.uint64pow10", "math/bits.deBruijn32tab", "math/bits.deBruijn64tab"], apart := false, laid := [("math/bits.deBruijn32tab", laid_math_bits_deBruijn32tab), ("math/bits.deBruijn64tab", laid_math_bits_deBruijn64tab), ("internal/strconv.uint64pow10", laid_internal_strconv_uint64pow10), ("spillage/beam.kinds", laid_spillage_beam_kinds)] }
def BeamDarkSaid : Prop := beamDarkRow.holds Tryz.pinned (OpenSpec.ofChange beamDarkSpec)

/-- ITS FALSE NEIGHBOUR: 'it returns false'. Refute it at one input. -/
def beamDarkWrong : ChangeSpec := { name := "beamDark", fn := fun _ => fun
  | [d1, d2, d3] => { results := [.lit (.bool false)], args := [d1, d2, d3] }
  | _ => none }
def BeamDarkWrongFalsely : Prop := beamDarkRow.holds Tryz.pinned (OpenSpec.ofChange beamDarkWrong)

/-- 'spillagelaw06.BeamSectors': WHATEVER THE INPUT: true; the input reads as it did. -/
def beamSectorsSpec : ChangeSpec := { name := "beamSectors", fn := fun _ => fun
  | [d1, d2, d3] => { results := [.lit (.bool true)], args := [d1, d2, d3] }
  | _ => none }
def beamSectorsRow : OpenClaim := { program := "ytehnikhicnnnhaagreatdoor", sum := "a3d25f3d9f1a811337f7561e97d2aec8f9f6768c3466bec0a46ae80386571d44", func := "spillage/spillagelaw06.BeamSectors", spec := "beamSectors", inPlace := ["internal/abi.NoEscape", "internal/bytealg.MakeNoZero"], unfollowed := true, recurses := true, named := ["spillage/beam.kinds", "internal/strconv.uint64pow10", "math/bits.deBruijn32tab", "math/bits.deBruijn64tab"], apart := false, laid := [("math/bits.deBruijn32tab", laid_math_bits_deBruijn32tab), ("math/bits.deBruijn64tab", laid_math_bits_deBruijn64tab), ("internal/strconv.uint64pow10", laid_internal_strconv_uint64pow10), ("spillage/beam.kinds", laid_spillage_beam_kinds)] }
def BeamSectorsSaid : Prop := beamSectorsRow.holds Tryz.pinned (OpenSpec.ofChange beamSectorsSpec)

/-- ITS FALSE NEIGHBOUR: 'it returns false'. Refute it at one input. -/
def beamSectorsWrong : ChangeSpec := { name := "beamSectors", fn := fun _ => fun
  | [d1, d2, d3] => { results := [.lit (.bool false)], args := [d1, d2, d3] }
  | _ => none }
def BeamSectorsWrongFalsely : Prop := beamSectorsRow.holds Tryz.pinned (OpenSpec.ofChange beamSectorsWrong)

/-- 'spillagelaw06.BeamTexts': WHATEVER THE INPUT: true; the input reads as it did. -/
def beamTextsSpec : ChangeSpec := { name := "beamTexts", fn := fun _ => fun
  | [d1, d2] => { results := [.lit (.bool true)], args := [d1, d2] }
  | _ => none }
def beamTextsRow : OpenClaim := { program := "ytehnikhicnnnhaagreatdoor", sum := "a3d25f3d9f1a811337f7561e97d2aec8f9f6768c3466bec0a46ae80386571d44", func := "spillage/spillagelaw06.BeamTexts", spec := "beamTexts", inPlace := ["internal/abi.NoEscape", "internal/bytealg.MakeNoZero", "internal/bytealg.IndexByteString", "internal/bytealg.CountString", "internal/bytealg.IndexString"], unfollowed := true, recurses := true, named := ["spillage/beam.kinds", "internal/strconv.uint64pow10", "math/bits.deBruijn32tab", "math/bits.deBruijn64tab", "unicode/utf8.first", "unicode/utf8.acceptRanges", "internal/bytealg.MaxLen"], apart := false, laid := [("math/bits.deBruijn32tab", laid_math_bits_deBruijn32tab), ("math/bits.deBruijn64tab", laid_math_bits_deBruijn64tab), ("internal/strconv.uint64pow10", laid_internal_strconv_uint64pow10), ("unicode/utf8.acceptRanges", laid_unicode_utf8_acceptRanges), ("spillage/beam.kinds", laid_spillage_beam_kinds), ("unicode/utf8.first", laid_unicode_utf8_first)] }
def BeamTextsSaid : Prop := beamTextsRow.holds Tryz.pinned (OpenSpec.ofChange beamTextsSpec)

/-- ITS FALSE NEIGHBOUR: 'it returns false'. Refute it at one input. -/
def beamTextsWrong : ChangeSpec := { name := "beamTexts", fn := fun _ => fun
  | [d1, d2] => { results := [.lit (.bool false)], args := [d1, d2] }
  | _ => none }
def BeamTextsWrongFalsely : Prop := beamTextsRow.holds Tryz.pinned (OpenSpec.ofChange beamTextsWrong)

/-- 'spillagelaw06.BeamBack': WHATEVER THE INPUT: true; the input reads as it did. -/
def beamBackSpec : ChangeSpec := { name := "beamBack", fn := fun _ => fun
  | [d1, d2, d3] => { results := [.lit (.bool true)], args := [d1, d2, d3] }
  | _ => none }
def beamBackRow : OpenClaim := { program := "ytehnikhicnnnhaagreatdoor", sum := "a3d25f3d9f1a811337f7561e97d2aec8f9f6768c3466bec0a46ae80386571d44", func := "spillage/spillagelaw06.BeamBack", spec := "beamBack", inPlace := ["internal/abi.NoEscape", "internal/bytealg.MakeNoZero", "internal/bytealg.IndexByteString", "internal/bytealg.CountString", "internal/bytealg.IndexString"], unfollowed := true, recurses := true, named := ["spillage/beam.kinds", "internal/strconv.uint64pow10", "math/bits.deBruijn32tab", "math/bits.deBruijn64tab", "unicode/utf8.first", "unicode/utf8.acceptRanges", "internal/bytealg.MaxLen"], apart := false, laid := [("math/bits.deBruijn32tab", laid_math_bits_deBruijn32tab), ("math/bits.deBruijn64tab", laid_math_bits_deBruijn64tab), ("internal/strconv.uint64pow10", laid_internal_strconv_uint64pow10), ("unicode/utf8.acceptRanges", laid_unicode_utf8_acceptRanges), ("spillage/beam.kinds", laid_spillage_beam_kinds), ("unicode/utf8.first", laid_unicode_utf8_first)] }
def BeamBackSaid : Prop := beamBackRow.holds Tryz.pinned (OpenSpec.ofChange beamBackSpec)

/-- ITS FALSE NEIGHBOUR: 'it returns false'. Refute it at one input. -/
def beamBackWrong : ChangeSpec := { name := "beamBack", fn := fun _ => fun
  | [d1, d2, d3] => { results := [.lit (.bool false)], args := [d1, d2, d3] }
  | _ => none }
def BeamBackWrongFalsely : Prop := beamBackRow.holds Tryz.pinned (OpenSpec.ofChange beamBackWrong)

/- THE SECOND FORM. 'bulk': how many values and letters a reading holds, each counted each time it is reached (what is shared counts as often as it is met; a slice's spare places count too). A statement '..UptoSaid' is the law's where the arguments, and the package variables that the reading takes, are together of bulk at most 1048576: NARROWER than '..Said'. Prove '..Said' where nothing that the law and all that it calls make is longer than what came in: it says more and counts as full. Else prove '..UptoSaid'. A law counts once. -/
mutual
def uptoBulk {H : Type} : DataW H → Nat
  | .lit (.string bytes) => bytes.length + 1
  | .lit _ => 1
  | .nil => 1
  | .ptr d => uptoBulk d + 1
  | .slice elems spare => uptoBulkAll elems + uptoBulkAll spare + 1
  | .agg parts => uptoBulkAll parts + 1
  | .iface _ d => uptoBulk d + 1
  | .map entries => uptoBulkEntries entries + 1
  | .held _ => 1
def uptoBulkAll {H : Type} : List (DataW H) → Nat
  | [] => 0
  | d :: r => uptoBulk d + uptoBulkAll r
def uptoBulkEntries {H : Type} : List (Lit × DataW H) → Nat
  | [] => 0
  | x :: r => uptoBulkEntry x + uptoBulkEntries r
def uptoBulkEntry {H : Type} : Lit × DataW H → Nat
  | (.string bytes, d) => bytes.length + uptoBulk d + 1
  | (_, d) => uptoBulk d + 1
 end
def uptoSmall : (H : Type) → List (DataW H) → Bool := fun _ ds => decide (uptoBulkAll ds ≤ 1048576)
def OpenSpec.upto (s : _root_.Go.ChangeSpec) : _root_.Go.OpenSpec := { _root_.Go.OpenSpec.ofChange s with cond := some uptoSmall }

/-- 'spillagelaw06.BeamWays', WHERE WHAT IT READS IS OF BULK AT MOST 1048576: true; the input reads as it did. -/
def beamWaysUptoRow : OpenClaim := { program := "ytehnikhicnnnhaagreatdoor", sum := "a3d25f3d9f1a811337f7561e97d2aec8f9f6768c3466bec0a46ae80386571d44", func := "spillage/spillagelaw06.BeamWays", spec := "beamWays", inPlace := ["internal/abi.NoEscape", "internal/bytealg.MakeNoZero"], unfollowed := true, recurses := true, named := ["spillage/beam.kinds", "internal/strconv.uint64pow10", "math/bits.deBruijn32tab", "math/bits.deBruijn64tab"], apart := false, laid := [("math/bits.deBruijn32tab", laid_math_bits_deBruijn32tab), ("math/bits.deBruijn64tab", laid_math_bits_deBruijn64tab), ("internal/strconv.uint64pow10", laid_internal_strconv_uint64pow10), ("spillage/beam.kinds", laid_spillage_beam_kinds)], narrowed := true }
def BeamWaysUptoSaid : Prop := beamWaysUptoRow.holds Tryz.pinned (OpenSpec.upto beamWaysSpec)

/-- 'spillagelaw06.BeamBarriers', WHERE WHAT IT READS IS OF BULK AT MOST 1048576: true; the input reads as it did. -/
def beamBarriersUptoRow : OpenClaim := { program := "ytehnikhicnnnhaagreatdoor", sum := "a3d25f3d9f1a811337f7561e97d2aec8f9f6768c3466bec0a46ae80386571d44", func := "spillage/spillagelaw06.BeamBarriers", spec := "beamBarriers", inPlace := ["internal/abi.NoEscape", "internal/bytealg.MakeNoZero"], unfollowed := true, recurses := true, named := ["spillage/beam.kinds", "internal/strconv.uint64pow10", "math/bits.deBruijn32tab", "math/bits.deBruijn64tab"], apart := false, laid := [("math/bits.deBruijn32tab", laid_math_bits_deBruijn32tab), ("math/bits.deBruijn64tab", laid_math_bits_deBruijn64tab), ("internal/strconv.uint64pow10", laid_internal_strconv_uint64pow10), ("spillage/beam.kinds", laid_spillage_beam_kinds)], narrowed := true }
def BeamBarriersUptoSaid : Prop := beamBarriersUptoRow.holds Tryz.pinned (OpenSpec.upto beamBarriersSpec)

/-- 'spillagelaw06.BeamFields', WHERE WHAT IT READS IS OF BULK AT MOST 1048576: true; the input reads as it did. -/
def beamFieldsUptoRow : OpenClaim := { program := "ytehnikhicnnnhaagreatdoor", sum := "a3d25f3d9f1a811337f7561e97d2aec8f9f6768c3466bec0a46ae80386571d44", func := "spillage/spillagelaw06.BeamFields", spec := "beamFields", inPlace := ["internal/abi.NoEscape", "internal/bytealg.MakeNoZero"], unfollowed := true, recurses := true, named := ["spillage/beam.kinds", "internal/strconv.uint64pow10", "math/bits.deBruijn32tab", "math/bits.deBruijn64tab"], apart := false, laid := [("math/bits.deBruijn32tab", laid_math_bits_deBruijn32tab), ("math/bits.deBruijn64tab", laid_math_bits_deBruijn64tab), ("internal/strconv.uint64pow10", laid_internal_strconv_uint64pow10), ("spillage/beam.kinds", laid_spillage_beam_kinds)], narrowed := true }
def BeamFieldsUptoSaid : Prop := beamFieldsUptoRow.holds Tryz.pinned (OpenSpec.upto beamFieldsSpec)

/-- 'spillagelaw06.BeamRuns', WHERE WHAT IT READS IS OF BULK AT MOST 1048576: true; the input reads as it did. -/
def beamRunsUptoRow : OpenClaim := { program := "ytehnikhicnnnhaagreatdoor", sum := "a3d25f3d9f1a811337f7561e97d2aec8f9f6768c3466bec0a46ae80386571d44", func := "spillage/spillagelaw06.BeamRuns", spec := "beamRuns", inPlace := ["internal/abi.NoEscape", "internal/bytealg.MakeNoZero"], unfollowed := true, recurses := true, named := ["spillage/beam.kinds", "internal/strconv.uint64pow10", "math/bits.deBruijn32tab", "math/bits.deBruijn64tab"], apart := false, laid := [("math/bits.deBruijn32tab", laid_math_bits_deBruijn32tab), ("math/bits.deBruijn64tab", laid_math_bits_deBruijn64tab), ("internal/strconv.uint64pow10", laid_internal_strconv_uint64pow10), ("spillage/beam.kinds", laid_spillage_beam_kinds)], narrowed := true }
def BeamRunsUptoSaid : Prop := beamRunsUptoRow.holds Tryz.pinned (OpenSpec.upto beamRunsSpec)

/-- 'spillagelaw06.BeamLeast', WHERE WHAT IT READS IS OF BULK AT MOST 1048576: true; the input reads as it did. -/
def beamLeastUptoRow : OpenClaim := { program := "ytehnikhicnnnhaagreatdoor", sum := "a3d25f3d9f1a811337f7561e97d2aec8f9f6768c3466bec0a46ae80386571d44", func := "spillage/spillagelaw06.BeamLeast", spec := "beamLeast", inPlace := ["internal/abi.NoEscape", "internal/bytealg.MakeNoZero"], unfollowed := true, recurses := true, named := ["spillage/beam.kinds", "internal/strconv.uint64pow10", "math/bits.deBruijn32tab", "math/bits.deBruijn64tab"], apart := false, laid := [("math/bits.deBruijn32tab", laid_math_bits_deBruijn32tab), ("math/bits.deBruijn64tab", laid_math_bits_deBruijn64tab), ("internal/strconv.uint64pow10", laid_internal_strconv_uint64pow10), ("spillage/beam.kinds", laid_spillage_beam_kinds)], narrowed := true }
def BeamLeastUptoSaid : Prop := beamLeastUptoRow.holds Tryz.pinned (OpenSpec.upto beamLeastSpec)

/-- 'spillagelaw06.BeamSafe', WHERE WHAT IT READS IS OF BULK AT MOST 1048576: true; the input reads as it did. -/
def beamSafeUptoRow : OpenClaim := { program := "ytehnikhicnnnhaagreatdoor", sum := "a3d25f3d9f1a811337f7561e97d2aec8f9f6768c3466bec0a46ae80386571d44", func := "spillage/spillagelaw06.BeamSafe", spec := "beamSafe", inPlace := ["internal/abi.NoEscape", "internal/bytealg.MakeNoZero"], unfollowed := true, recurses := true, named := ["spillage/beam.kinds", "internal/strconv.uint64pow10", "math/bits.deBruijn32tab", "math/bits.deBruijn64tab"], apart := false, laid := [("math/bits.deBruijn32tab", laid_math_bits_deBruijn32tab), ("math/bits.deBruijn64tab", laid_math_bits_deBruijn64tab), ("internal/strconv.uint64pow10", laid_internal_strconv_uint64pow10), ("spillage/beam.kinds", laid_spillage_beam_kinds)], narrowed := true }
def BeamSafeUptoSaid : Prop := beamSafeUptoRow.holds Tryz.pinned (OpenSpec.upto beamSafeSpec)

/-- 'spillagelaw06.BeamGrids', WHERE WHAT IT READS IS OF BULK AT MOST 1048576: true; the input reads as it did. -/
def beamGridsUptoRow : OpenClaim := { program := "ytehnikhicnnnhaagreatdoor", sum := "a3d25f3d9f1a811337f7561e97d2aec8f9f6768c3466bec0a46ae80386571d44", func := "spillage/spillagelaw06.BeamGrids", spec := "beamGrids", inPlace := ["internal/abi.NoEscape", "internal/bytealg.MakeNoZero"], unfollowed := true, recurses := true, named := ["spillage/beam.kinds", "internal/strconv.uint64pow10", "math/bits.deBruijn32tab", "math/bits.deBruijn64tab"], apart := false, laid := [("math/bits.deBruijn32tab", laid_math_bits_deBruijn32tab), ("math/bits.deBruijn64tab", laid_math_bits_deBruijn64tab), ("internal/strconv.uint64pow10", laid_internal_strconv_uint64pow10), ("spillage/beam.kinds", laid_spillage_beam_kinds)], narrowed := true }
def BeamGridsUptoSaid : Prop := beamGridsUptoRow.holds Tryz.pinned (OpenSpec.upto beamGridsSpec)

/-- 'spillagelaw06.BeamDeadlines', WHERE WHAT IT READS IS OF BULK AT MOST 1048576: true; the input reads as it did. -/
def beamDeadlinesUptoRow : OpenClaim := { program := "ytehnikhicnnnhaagreatdoor", sum := "a3d25f3d9f1a811337f7561e97d2aec8f9f6768c3466bec0a46ae80386571d44", func := "spillage/spillagelaw06.BeamDeadlines", spec := "beamDeadlines", inPlace := ["internal/abi.NoEscape", "internal/bytealg.MakeNoZero"], unfollowed := true, recurses := true, named := ["spillage/beam.kinds", "internal/strconv.uint64pow10", "math/bits.deBruijn32tab", "math/bits.deBruijn64tab"], apart := false, laid := [("math/bits.deBruijn32tab", laid_math_bits_deBruijn32tab), ("math/bits.deBruijn64tab", laid_math_bits_deBruijn64tab), ("internal/strconv.uint64pow10", laid_internal_strconv_uint64pow10), ("spillage/beam.kinds", laid_spillage_beam_kinds)], narrowed := true }
def BeamDeadlinesUptoSaid : Prop := beamDeadlinesUptoRow.holds Tryz.pinned (OpenSpec.upto beamDeadlinesSpec)

/-- 'spillagelaw06.BeamDark', WHERE WHAT IT READS IS OF BULK AT MOST 1048576: true; the input reads as it did. -/
def beamDarkUptoRow : OpenClaim := { program := "ytehnikhicnnnhaagreatdoor", sum := "a3d25f3d9f1a811337f7561e97d2aec8f9f6768c3466bec0a46ae80386571d44", func := "spillage/spillagelaw06.BeamDark", spec := "beamDark", inPlace := ["internal/abi.NoEscape", "internal/bytealg.MakeNoZero"], unfollowed := true, recurses := true, named := ["spillage/beam.kinds", "internal/strconv.uint64pow10", "math/bits.deBruijn32tab", "math/bits.deBruijn64tab"], apart := false, laid := [("math/bits.deBruijn32tab", laid_math_bits_deBruijn32tab), ("math/bits.deBruijn64tab", laid_math_bits_deBruijn64tab), ("internal/strconv.uint64pow10", laid_internal_strconv_uint64pow10), ("spillage/beam.kinds", laid_spillage_beam_kinds)], narrowed := true }
def BeamDarkUptoSaid : Prop := beamDarkUptoRow.holds Tryz.pinned (OpenSpec.upto beamDarkSpec)

/-- 'spillagelaw06.BeamSectors', WHERE WHAT IT READS IS OF BULK AT MOST 1048576: true; the input reads as it did. -/
def beamSectorsUptoRow : OpenClaim := { program := "ytehnikhicnnnhaagreatdoor", sum := "a3d25f3d9f1a811337f7561e97d2aec8f9f6768c3466bec0a46ae80386571d44", func := "spillage/spillagelaw06.BeamSectors", spec := "beamSectors", inPlace := ["internal/abi.NoEscape", "internal/bytealg.MakeNoZero"], unfollowed := true, recurses := true, named := ["spillage/beam.kinds", "internal/strconv.uint64pow10", "math/bits.deBruijn32tab", "math/bits.deBruijn64tab"], apart := false, laid := [("math/bits.deBruijn32tab", laid_math_bits_deBruijn32tab), ("math/bits.deBruijn64tab", laid_math_bits_deBruijn64tab), ("internal/strconv.uint64pow10", laid_internal_strconv_uint64pow10), ("spillage/beam.kinds", laid_spillage_beam_kinds)], narrowed := true }
def BeamSectorsUptoSaid : Prop := beamSectorsUptoRow.holds Tryz.pinned (OpenSpec.upto beamSectorsSpec)

/-- 'spillagelaw06.BeamTexts', WHERE WHAT IT READS IS OF BULK AT MOST 1048576: true; the input reads as it did. -/
def beamTextsUptoRow : OpenClaim := { program := "ytehnikhicnnnhaagreatdoor", sum := "a3d25f3d9f1a811337f7561e97d2aec8f9f6768c3466bec0a46ae80386571d44", func := "spillage/spillagelaw06.BeamTexts", spec := "beamTexts", inPlace := ["internal/abi.NoEscape", "internal/bytealg.MakeNoZero", "internal/bytealg.IndexByteString", "internal/bytealg.CountString", "internal/bytealg.IndexString"], unfollowed := true, recurses := true, named := ["spillage/beam.kinds", "internal/strconv.uint64pow10", "math/bits.deBruijn32tab", "math/bits.deBruijn64tab", "unicode/utf8.first", "unicode/utf8.acceptRanges", "internal/bytealg.MaxLen"], apart := false, laid := [("math/bits.deBruijn32tab", laid_math_bits_deBruijn32tab), ("math/bits.deBruijn64tab", laid_math_bits_deBruijn64tab), ("internal/strconv.uint64pow10", laid_internal_strconv_uint64pow10), ("unicode/utf8.acceptRanges", laid_unicode_utf8_acceptRanges), ("spillage/beam.kinds", laid_spillage_beam_kinds), ("unicode/utf8.first", laid_unicode_utf8_first)], narrowed := true }
def BeamTextsUptoSaid : Prop := beamTextsUptoRow.holds Tryz.pinned (OpenSpec.upto beamTextsSpec)

/-- 'spillagelaw06.BeamBack', WHERE WHAT IT READS IS OF BULK AT MOST 1048576: true; the input reads as it did. -/
def beamBackUptoRow : OpenClaim := { program := "ytehnikhicnnnhaagreatdoor", sum := "a3d25f3d9f1a811337f7561e97d2aec8f9f6768c3466bec0a46ae80386571d44", func := "spillage/spillagelaw06.BeamBack", spec := "beamBack", inPlace := ["internal/abi.NoEscape", "internal/bytealg.MakeNoZero", "internal/bytealg.IndexByteString", "internal/bytealg.CountString", "internal/bytealg.IndexString"], unfollowed := true, recurses := true, named := ["spillage/beam.kinds", "internal/strconv.uint64pow10", "math/bits.deBruijn32tab", "math/bits.deBruijn64tab", "unicode/utf8.first", "unicode/utf8.acceptRanges", "internal/bytealg.MaxLen"], apart := false, laid := [("math/bits.deBruijn32tab", laid_math_bits_deBruijn32tab), ("math/bits.deBruijn64tab", laid_math_bits_deBruijn64tab), ("internal/strconv.uint64pow10", laid_internal_strconv_uint64pow10), ("unicode/utf8.acceptRanges", laid_unicode_utf8_acceptRanges), ("spillage/beam.kinds", laid_spillage_beam_kinds), ("unicode/utf8.first", laid_unicode_utf8_first)], narrowed := true }
def BeamBackUptoSaid : Prop := beamBackUptoRow.holds Tryz.pinned (OpenSpec.upto beamBackSpec)

end Rows
end Go.Proofs.YtehnikhicnnnhaaGreatDoor
