/-
  NARROWER THAN 'FOR EVERY INPUT', by the rows' own cells (each row's printed sentence says how): ShapesThere: laid · ShapesMass: laid · ShapesSum: laid · ShapesProducts: laid · ShapesTensor: laid · ShapesMade: laid · ShapesNodes: laid · ShapesPolys: laid.
  DERIVED. THE GIVEN ROWS OF THIS SEAT. 8 by the template 'for every input the law returns true; each argument reads behind the call as it read before'; 0 by the template 'total and deterministic' (their statements: YtdcaodkjofkmgaaGreatDoorTotals.lean).
  GIVEN WITH THE SEED: the statements are not yours to turn. If you find one false, say at which input.
  Laid BY PROGRAM, IN A SANDBOX (cutbox-rows.mjs): the forced cells as the released guide's own fill.sh prints them over the translation 118faca7739ed6c4… (all of the seat's roots in one cut). By AI agents, Wed Nov 11 2026. No macro, syntax, notation, axiom, sorry.
-/
import Derived.Test.YtdcaodkjofkmgaaGreatDoorChecked
import GoSem.Claim
import GoSem.ClaimJoined
import GoSem.ClaimMapViews
import Derived.JoinedTies
import Derived.KernelRfl
namespace Go.Proofs.YtdcaodkjofkmgaaGreatDoor
/- THE CELL 'sum', in the pinned program and in every row, IS THE sha256 OF THE DUMP (.gsa) THAT YtdcaodkjofkmgaaGreatDoorProg.lean LOADS. Nothing in Lean hashes anything: it is a label: what it is worth is what the hold of that sum in a sandbox is worth. -/
noncomputable def Tryz.pinned : Pinned := { name := "ytdcaodkjofkmgaagreatdoor", sum := "118faca7739ed6c43e6a953c73339442a81b4bbf1f7bb34b2c69a1c14ec4066a", checked := Tryz.checked }
namespace Rows
def none {H : Type} : Left H := { results := [], args := [] }

/- WHAT THE LISTED PACKAGE-LEVEL VARIABLES READ AS WHEN THE CALL BEGINS. Each datum BY PROGRAM (the guide's laid-datum.mjs) off the statement by which the dump's own 'gosem.cut.vars' lays the variable. In a bare row this is a premise. The card (YtdcaodkjofkmgaaGreatDoorCards.lean) ties it to the program's text. -/
def laid_math_bits_deBruijn32tab {H : Type} : DataW H := .agg [.lit (.int .u8 0), .lit (.int .u8 1), .lit (.int .u8 28), .lit (.int .u8 2), .lit (.int .u8 29), .lit (.int .u8 14), .lit (.int .u8 24), .lit (.int .u8 3), .lit (.int .u8 30), .lit (.int .u8 22), .lit (.int .u8 20), .lit (.int .u8 15), .lit (.int .u8 25), .lit (.int .u8 17), .lit (.int .u8 4), .lit (.int .u8 8), .lit (.int .u8 31), .lit (.int .u8 27), .lit (.int .u8 13), .lit (.int .u8 23), .lit (.int .u8 21), .lit (.int .u8 19), .lit (.int .u8 16), .lit (.int .u8 7), .lit (.int .u8 26), .lit (.int .u8 12), .lit (.int .u8 18), .lit (.int .u8 6), .lit (.int .u8 11), .lit (.int .u8 5), .lit (.int .u8 10), .lit (.int .u8 9)]
def laid_math_bits_deBruijn64tab {H : Type} : DataW H := .agg [.lit (.int .u8 0), .lit (.int .u8 1), .lit (.int .u8 56), .lit (.int .u8 2), .lit (.int .u8 57), .lit (.int .u8 49), .lit (.int .u8 28), .lit (.int .u8 3), .lit (.int .u8 61), .lit (.int .u8 58), .lit (.int .u8 42), .lit (.int .u8 50), .lit (.int .u8 38), .lit (.int .u8 29), .lit (.int .u8 17), .lit (.int .u8 4), .lit (.int .u8 62), .lit (.int .u8 47), .lit (.int .u8 59), .lit (.int .u8 36), .lit (.int .u8 45), .lit (.int .u8 43), .lit (.int .u8 51), .lit (.int .u8 22), .lit (.int .u8 53), .lit (.int .u8 39), .lit (.int .u8 33), .lit (.int .u8 30), .lit (.int .u8 24), .lit (.int .u8 18), .lit (.int .u8 12), .lit (.int .u8 5), .lit (.int .u8 63), .lit (.int .u8 55), .lit (.int .u8 48), .lit (.int .u8 27), .lit (.int .u8 60), .lit (.int .u8 41), .lit (.int .u8 37), .lit (.int .u8 16), .lit (.int .u8 46), .lit (.int .u8 35), .lit (.int .u8 44), .lit (.int .u8 21), .lit (.int .u8 52), .lit (.int .u8 32), .lit (.int .u8 23), .lit (.int .u8 11), .lit (.int .u8 54), .lit (.int .u8 26), .lit (.int .u8 40), .lit (.int .u8 15), .lit (.int .u8 34), .lit (.int .u8 20), .lit (.int .u8 31), .lit (.int .u8 10), .lit (.int .u8 25), .lit (.int .u8 14), .lit (.int .u8 19), .lit (.int .u8 9), .lit (.int .u8 13), .lit (.int .u8 8), .lit (.int .u8 7), .lit (.int .u8 6)]
def laid_internal_strconv_uint64pow10 {H : Type} : DataW H := .agg [.lit (.int .u64 1), .lit (.int .u64 10), .lit (.int .u64 100), .lit (.int .u64 1000), .lit (.int .u64 10000), .lit (.int .u64 100000), .lit (.int .u64 1000000), .lit (.int .u64 10000000), .lit (.int .u64 100000000), .lit (.int .u64 1000000000), .lit (.int .u64 10000000000), .lit (.int .u64 100000000000), .lit (.int .u64 1000000000000), .lit (.int .u64 10000000000000), .lit (.int .u64 100000000000000), .lit (.int .u64 1000000000000000), .lit (.int .u64 10000000000000000), .lit (.int .u64 100000000000000000), .lit (.int .u64 1000000000000000000), .lit (.int .u64 10000000000000000000)]
def laid_gusset_shapes_sides {H : Type} : DataW H := .agg [.agg [.lit (.int .i64 1), .lit (.int .i64 2)], .agg [.lit (.int .i64 2), .lit (.int .i64 0)], .agg [.lit (.int .i64 0), .lit (.int .i64 1)]]

/-- 'gussetlaw34.ShapesThere': WHATEVER THE INPUT: true; the input reads as it did. -/
def shapesThereSpec : ChangeSpec := { name := "shapesThere", fn := fun _ => fun
  | [d1, d2] => { results := [.lit (.bool true)], args := [d1, d2] }
  | _ => none }
def shapesThereRow : OpenClaim := { program := "ytdcaodkjofkmgaagreatdoor", sum := "118faca7739ed6c43e6a953c73339442a81b4bbf1f7bb34b2c69a1c14ec4066a", func := "gusset/gussetlaw34.ShapesThere", spec := "shapesThere", inPlace := ["math/bits.Add64", "internal/abi.NoEscape", "internal/bytealg.MakeNoZero"], unfollowed := true, recurses := true, named := ["math/bits.overflowError", "gusset/shapes.sides", "internal/strconv.uint64pow10", "math/bits.deBruijn32tab", "math/bits.deBruijn64tab"], apart := false, laid := [("math/bits.deBruijn32tab", laid_math_bits_deBruijn32tab), ("math/bits.deBruijn64tab", laid_math_bits_deBruijn64tab), ("internal/strconv.uint64pow10", laid_internal_strconv_uint64pow10), ("gusset/shapes.sides", laid_gusset_shapes_sides)] }
def ShapesThereSaid : Prop := shapesThereRow.holds Tryz.pinned (OpenSpec.ofChange shapesThereSpec)

/-- ITS FALSE NEIGHBOUR: 'it returns false'. Refute it at one input. -/
def shapesThereWrong : ChangeSpec := { name := "shapesThere", fn := fun _ => fun
  | [d1, d2] => { results := [.lit (.bool false)], args := [d1, d2] }
  | _ => none }
def ShapesThereWrongFalsely : Prop := shapesThereRow.holds Tryz.pinned (OpenSpec.ofChange shapesThereWrong)

/-- 'gussetlaw34.ShapesMass': WHATEVER THE INPUT: true; the input reads as it did. -/
def shapesMassSpec : ChangeSpec := { name := "shapesMass", fn := fun _ => fun
  | [d1, d2] => { results := [.lit (.bool true)], args := [d1, d2] }
  | _ => none }
def shapesMassRow : OpenClaim := { program := "ytdcaodkjofkmgaagreatdoor", sum := "118faca7739ed6c43e6a953c73339442a81b4bbf1f7bb34b2c69a1c14ec4066a", func := "gusset/gussetlaw34.ShapesMass", spec := "shapesMass", inPlace := ["math/bits.Add64", "internal/abi.NoEscape", "internal/bytealg.MakeNoZero"], unfollowed := true, recurses := true, named := ["math/bits.overflowError", "gusset/shapes.sides", "internal/strconv.uint64pow10", "math/bits.deBruijn32tab", "math/bits.deBruijn64tab"], apart := false, laid := [("math/bits.deBruijn32tab", laid_math_bits_deBruijn32tab), ("math/bits.deBruijn64tab", laid_math_bits_deBruijn64tab), ("internal/strconv.uint64pow10", laid_internal_strconv_uint64pow10), ("gusset/shapes.sides", laid_gusset_shapes_sides)] }
def ShapesMassSaid : Prop := shapesMassRow.holds Tryz.pinned (OpenSpec.ofChange shapesMassSpec)

/-- ITS FALSE NEIGHBOUR: 'it returns false'. Refute it at one input. -/
def shapesMassWrong : ChangeSpec := { name := "shapesMass", fn := fun _ => fun
  | [d1, d2] => { results := [.lit (.bool false)], args := [d1, d2] }
  | _ => none }
def ShapesMassWrongFalsely : Prop := shapesMassRow.holds Tryz.pinned (OpenSpec.ofChange shapesMassWrong)

/-- 'gussetlaw34.ShapesSum': WHATEVER THE INPUT: true; the input reads as it did. -/
def shapesSumSpec : ChangeSpec := { name := "shapesSum", fn := fun _ => fun
  | [d1, d2, d3] => { results := [.lit (.bool true)], args := [d1, d2, d3] }
  | _ => none }
def shapesSumRow : OpenClaim := { program := "ytdcaodkjofkmgaagreatdoor", sum := "118faca7739ed6c43e6a953c73339442a81b4bbf1f7bb34b2c69a1c14ec4066a", func := "gusset/gussetlaw34.ShapesSum", spec := "shapesSum", inPlace := ["math/bits.Add64", "internal/abi.NoEscape", "internal/bytealg.MakeNoZero"], unfollowed := true, recurses := true, named := ["math/bits.overflowError", "gusset/shapes.sides", "internal/strconv.uint64pow10", "math/bits.deBruijn32tab", "math/bits.deBruijn64tab"], apart := false, laid := [("math/bits.deBruijn32tab", laid_math_bits_deBruijn32tab), ("math/bits.deBruijn64tab", laid_math_bits_deBruijn64tab), ("internal/strconv.uint64pow10", laid_internal_strconv_uint64pow10), ("gusset/shapes.sides", laid_gusset_shapes_sides)] }
def ShapesSumSaid : Prop := shapesSumRow.holds Tryz.pinned (OpenSpec.ofChange shapesSumSpec)

/-- ITS FALSE NEIGHBOUR: 'it returns false'. Refute it at one input. -/
def shapesSumWrong : ChangeSpec := { name := "shapesSum", fn := fun _ => fun
  | [d1, d2, d3] => { results := [.lit (.bool false)], args := [d1, d2, d3] }
  | _ => none }
def ShapesSumWrongFalsely : Prop := shapesSumRow.holds Tryz.pinned (OpenSpec.ofChange shapesSumWrong)

/-- 'gussetlaw34.ShapesProducts': WHATEVER THE INPUT: true; the input reads as it did. -/
def shapesProductsSpec : ChangeSpec := { name := "shapesProducts", fn := fun _ => fun
  | [d] => { results := [.lit (.bool true)], args := [d] }
  | _ => none }
def shapesProductsRow : OpenClaim := { program := "ytdcaodkjofkmgaagreatdoor", sum := "118faca7739ed6c43e6a953c73339442a81b4bbf1f7bb34b2c69a1c14ec4066a", func := "gusset/gussetlaw34.ShapesProducts", spec := "shapesProducts", inPlace := ["math/bits.Add64", "internal/abi.NoEscape", "internal/bytealg.MakeNoZero"], unfollowed := true, recurses := true, named := ["gusset/shapes.sides", "math/bits.overflowError", "internal/strconv.uint64pow10", "math/bits.deBruijn32tab", "math/bits.deBruijn64tab"], apart := false, laid := [("math/bits.deBruijn32tab", laid_math_bits_deBruijn32tab), ("math/bits.deBruijn64tab", laid_math_bits_deBruijn64tab), ("internal/strconv.uint64pow10", laid_internal_strconv_uint64pow10), ("gusset/shapes.sides", laid_gusset_shapes_sides)] }
def ShapesProductsSaid : Prop := shapesProductsRow.holds Tryz.pinned (OpenSpec.ofChange shapesProductsSpec)

/-- ITS FALSE NEIGHBOUR: 'it returns false'. Refute it at one input. -/
def shapesProductsWrong : ChangeSpec := { name := "shapesProducts", fn := fun _ => fun
  | [d] => { results := [.lit (.bool false)], args := [d] }
  | _ => none }
def ShapesProductsWrongFalsely : Prop := shapesProductsRow.holds Tryz.pinned (OpenSpec.ofChange shapesProductsWrong)

/-- 'gussetlaw34.ShapesTensor': WHATEVER THE INPUT: true; the input reads as it did. -/
def shapesTensorSpec : ChangeSpec := { name := "shapesTensor", fn := fun _ => fun
  | [d1, d2] => { results := [.lit (.bool true)], args := [d1, d2] }
  | _ => none }
def shapesTensorRow : OpenClaim := { program := "ytdcaodkjofkmgaagreatdoor", sum := "118faca7739ed6c43e6a953c73339442a81b4bbf1f7bb34b2c69a1c14ec4066a", func := "gusset/gussetlaw34.ShapesTensor", spec := "shapesTensor", inPlace := ["math/bits.Add64", "internal/abi.NoEscape", "internal/bytealg.MakeNoZero"], unfollowed := true, recurses := true, named := ["gusset/shapes.sides", "math/bits.overflowError", "internal/strconv.uint64pow10", "math/bits.deBruijn32tab", "math/bits.deBruijn64tab"], apart := false, laid := [("math/bits.deBruijn32tab", laid_math_bits_deBruijn32tab), ("math/bits.deBruijn64tab", laid_math_bits_deBruijn64tab), ("internal/strconv.uint64pow10", laid_internal_strconv_uint64pow10), ("gusset/shapes.sides", laid_gusset_shapes_sides)] }
def ShapesTensorSaid : Prop := shapesTensorRow.holds Tryz.pinned (OpenSpec.ofChange shapesTensorSpec)

/-- ITS FALSE NEIGHBOUR: 'it returns false'. Refute it at one input. -/
def shapesTensorWrong : ChangeSpec := { name := "shapesTensor", fn := fun _ => fun
  | [d1, d2] => { results := [.lit (.bool false)], args := [d1, d2] }
  | _ => none }
def ShapesTensorWrongFalsely : Prop := shapesTensorRow.holds Tryz.pinned (OpenSpec.ofChange shapesTensorWrong)

/-- 'gussetlaw34.ShapesMade': WHATEVER THE INPUT: true; the input reads as it did. -/
def shapesMadeSpec : ChangeSpec := { name := "shapesMade", fn := fun _ => fun
  | [d1, d2] => { results := [.lit (.bool true)], args := [d1, d2] }
  | _ => none }
def shapesMadeRow : OpenClaim := { program := "ytdcaodkjofkmgaagreatdoor", sum := "118faca7739ed6c43e6a953c73339442a81b4bbf1f7bb34b2c69a1c14ec4066a", func := "gusset/gussetlaw34.ShapesMade", spec := "shapesMade", inPlace := ["math/bits.Add64", "internal/abi.NoEscape", "internal/bytealg.MakeNoZero"], unfollowed := true, recurses := true, named := ["gusset/shapes.sides", "math/bits.overflowError", "internal/strconv.uint64pow10", "math/bits.deBruijn32tab", "math/bits.deBruijn64tab"], apart := false, laid := [("math/bits.deBruijn32tab", laid_math_bits_deBruijn32tab), ("math/bits.deBruijn64tab", laid_math_bits_deBruijn64tab), ("internal/strconv.uint64pow10", laid_internal_strconv_uint64pow10), ("gusset/shapes.sides", laid_gusset_shapes_sides)] }
def ShapesMadeSaid : Prop := shapesMadeRow.holds Tryz.pinned (OpenSpec.ofChange shapesMadeSpec)

/-- ITS FALSE NEIGHBOUR: 'it returns false'. Refute it at one input. -/
def shapesMadeWrong : ChangeSpec := { name := "shapesMade", fn := fun _ => fun
  | [d1, d2] => { results := [.lit (.bool false)], args := [d1, d2] }
  | _ => none }
def ShapesMadeWrongFalsely : Prop := shapesMadeRow.holds Tryz.pinned (OpenSpec.ofChange shapesMadeWrong)

/-- 'gussetlaw34.ShapesNodes': WHATEVER THE INPUT: true; the input reads as it did. -/
def shapesNodesSpec : ChangeSpec := { name := "shapesNodes", fn := fun _ => fun
  | [d] => { results := [.lit (.bool true)], args := [d] }
  | _ => none }
def shapesNodesRow : OpenClaim := { program := "ytdcaodkjofkmgaagreatdoor", sum := "118faca7739ed6c43e6a953c73339442a81b4bbf1f7bb34b2c69a1c14ec4066a", func := "gusset/gussetlaw34.ShapesNodes", spec := "shapesNodes", inPlace := ["math/bits.Add64", "internal/abi.NoEscape", "internal/bytealg.MakeNoZero"], unfollowed := true, recurses := true, named := ["gusset/shapes.sides", "math/bits.overflowError", "internal/strconv.uint64pow10", "math/bits.deBruijn32tab", "math/bits.deBruijn64tab"], apart := false, laid := [("math/bits.deBruijn32tab", laid_math_bits_deBruijn32tab), ("math/bits.deBruijn64tab", laid_math_bits_deBruijn64tab), ("internal/strconv.uint64pow10", laid_internal_strconv_uint64pow10), ("gusset/shapes.sides", laid_gusset_shapes_sides)] }
def ShapesNodesSaid : Prop := shapesNodesRow.holds Tryz.pinned (OpenSpec.ofChange shapesNodesSpec)

/-- ITS FALSE NEIGHBOUR: 'it returns false'. Refute it at one input. -/
def shapesNodesWrong : ChangeSpec := { name := "shapesNodes", fn := fun _ => fun
  | [d] => { results := [.lit (.bool false)], args := [d] }
  | _ => none }
def ShapesNodesWrongFalsely : Prop := shapesNodesRow.holds Tryz.pinned (OpenSpec.ofChange shapesNodesWrong)

/-- 'gussetlaw34.ShapesPolys': WHATEVER THE INPUT: true; the input reads as it did. -/
def shapesPolysSpec : ChangeSpec := { name := "shapesPolys", fn := fun _ => fun
  | [d1, d2, d3] => { results := [.lit (.bool true)], args := [d1, d2, d3] }
  | _ => none }
def shapesPolysRow : OpenClaim := { program := "ytdcaodkjofkmgaagreatdoor", sum := "118faca7739ed6c43e6a953c73339442a81b4bbf1f7bb34b2c69a1c14ec4066a", func := "gusset/gussetlaw34.ShapesPolys", spec := "shapesPolys", inPlace := ["math/bits.Add64", "internal/abi.NoEscape", "internal/bytealg.MakeNoZero"], unfollowed := true, recurses := true, named := ["math/bits.overflowError", "gusset/shapes.sides", "internal/strconv.uint64pow10", "math/bits.deBruijn32tab", "math/bits.deBruijn64tab"], apart := false, laid := [("math/bits.deBruijn32tab", laid_math_bits_deBruijn32tab), ("math/bits.deBruijn64tab", laid_math_bits_deBruijn64tab), ("internal/strconv.uint64pow10", laid_internal_strconv_uint64pow10), ("gusset/shapes.sides", laid_gusset_shapes_sides)] }
def ShapesPolysSaid : Prop := shapesPolysRow.holds Tryz.pinned (OpenSpec.ofChange shapesPolysSpec)

/-- ITS FALSE NEIGHBOUR: 'it returns false'. Refute it at one input. -/
def shapesPolysWrong : ChangeSpec := { name := "shapesPolys", fn := fun _ => fun
  | [d1, d2, d3] => { results := [.lit (.bool false)], args := [d1, d2, d3] }
  | _ => none }
def ShapesPolysWrongFalsely : Prop := shapesPolysRow.holds Tryz.pinned (OpenSpec.ofChange shapesPolysWrong)

/- THE SECOND FORM. 'bulk': how many values and letters a reading holds, each counted each time it is reached (what is shared counts as often as it is met; a slice's spare places count too). A statement '..UptoSaid' is the law's where the arguments, and the package variables that the reading takes, are together of bulk at most 1048576: NARROWER than '..Said'. Prove '..Said' where nothing that the law and all that it calls make is longer than what came in: it says more and counts as full. Else prove '..UptoSaid'. A law counts once. -/
mutual
def uptoBulk {H : Type} : DataW H → Nat
  | .lit (.string bytes) => bytes.length + 1
  | .lit _ => 1
  | .nil => 1
  | .ptr d => uptoBulk d + 1
  | .slice elems spare => uptoBulkAll elems + uptoBulkAll spare + 1
  | .agg parts => uptoBulkAll parts + 1
  | .iface _ d => uptoBulk d + 1
  | .map entries => uptoBulkEntries entries + 1
  | .held _ => 1
def uptoBulkAll {H : Type} : List (DataW H) → Nat
  | [] => 0
  | d :: r => uptoBulk d + uptoBulkAll r
def uptoBulkEntries {H : Type} : List (Lit × DataW H) → Nat
  | [] => 0
  | x :: r => uptoBulkEntry x + uptoBulkEntries r
def uptoBulkEntry {H : Type} : Lit × DataW H → Nat
  | (.string bytes, d) => bytes.length + uptoBulk d + 1
  | (_, d) => uptoBulk d + 1
 end
def uptoSmall : (H : Type) → List (DataW H) → Bool := fun _ ds => decide (uptoBulkAll ds ≤ 1048576)
def OpenSpec.upto (s : _root_.Go.ChangeSpec) : _root_.Go.OpenSpec := { _root_.Go.OpenSpec.ofChange s with cond := some uptoSmall }

/-- 'gussetlaw34.ShapesThere', WHERE WHAT IT READS IS OF BULK AT MOST 1048576: true; the input reads as it did. -/
def shapesThereUptoRow : OpenClaim := { program := "ytdcaodkjofkmgaagreatdoor", sum := "118faca7739ed6c43e6a953c73339442a81b4bbf1f7bb34b2c69a1c14ec4066a", func := "gusset/gussetlaw34.ShapesThere", spec := "shapesThere", inPlace := ["math/bits.Add64", "internal/abi.NoEscape", "internal/bytealg.MakeNoZero"], unfollowed := true, recurses := true, named := ["math/bits.overflowError", "gusset/shapes.sides", "internal/strconv.uint64pow10", "math/bits.deBruijn32tab", "math/bits.deBruijn64tab"], apart := false, laid := [("math/bits.deBruijn32tab", laid_math_bits_deBruijn32tab), ("math/bits.deBruijn64tab", laid_math_bits_deBruijn64tab), ("internal/strconv.uint64pow10", laid_internal_strconv_uint64pow10), ("gusset/shapes.sides", laid_gusset_shapes_sides)], narrowed := true }
def ShapesThereUptoSaid : Prop := shapesThereUptoRow.holds Tryz.pinned (OpenSpec.upto shapesThereSpec)

/-- 'gussetlaw34.ShapesMass', WHERE WHAT IT READS IS OF BULK AT MOST 1048576: true; the input reads as it did. -/
def shapesMassUptoRow : OpenClaim := { program := "ytdcaodkjofkmgaagreatdoor", sum := "118faca7739ed6c43e6a953c73339442a81b4bbf1f7bb34b2c69a1c14ec4066a", func := "gusset/gussetlaw34.ShapesMass", spec := "shapesMass", inPlace := ["math/bits.Add64", "internal/abi.NoEscape", "internal/bytealg.MakeNoZero"], unfollowed := true, recurses := true, named := ["math/bits.overflowError", "gusset/shapes.sides", "internal/strconv.uint64pow10", "math/bits.deBruijn32tab", "math/bits.deBruijn64tab"], apart := false, laid := [("math/bits.deBruijn32tab", laid_math_bits_deBruijn32tab), ("math/bits.deBruijn64tab", laid_math_bits_deBruijn64tab), ("internal/strconv.uint64pow10", laid_internal_strconv_uint64pow10), ("gusset/shapes.sides", laid_gusset_shapes_sides)], narrowed := true }
def ShapesMassUptoSaid : Prop := shapesMassUptoRow.holds Tryz.pinned (OpenSpec.upto shapesMassSpec)

/-- 'gussetlaw34.ShapesSum', WHERE WHAT IT READS IS OF BULK AT MOST 1048576: true; the input reads as it did. -/
def shapesSumUptoRow : OpenClaim := { program := "ytdcaodkjofkmgaagreatdoor", sum := "118faca7739ed6c43e6a953c73339442a81b4bbf1f7bb34b2c69a1c14ec4066a", func := "gusset/gussetlaw34.ShapesSum", spec := "shapesSum", inPlace := ["math/bits.Add64", "internal/abi.NoEscape", "internal/bytealg.MakeNoZero"], unfollowed := true, recurses := true, named := ["math/bits.overflowError", "gusset/shapes.sides", "internal/strconv.uint64pow10", "math/bits.deBruijn32tab", "math/bits.deBruijn64tab"], apart := false, laid := [("math/bits.deBruijn32tab", laid_math_bits_deBruijn32tab), ("math/bits.deBruijn64tab", laid_math_bits_deBruijn64tab), ("internal/strconv.uint64pow10", laid_internal_strconv_uint64pow10), ("gusset/shapes.sides", laid_gusset_shapes_sides)], narrowed := true }
def ShapesSumUptoSaid : Prop := shapesSumUptoRow.holds Tryz.pinned (OpenSpec.upto shapesSumSpec)

/-- 'gussetlaw34.ShapesProducts', WHERE WHAT IT READS IS OF BULK AT MOST 1048576: true; the input reads as it did. -/
def shapesProductsUptoRow : OpenClaim := { program := "ytdcaodkjofkmgaagreatdoor", sum := "118faca7739ed6c43e6a953c73339442a81b4bbf1f7bb34b2c69a1c14ec4066a", func := "gusset/gussetlaw34.ShapesProducts", spec := "shapesProducts", inPlace := ["math/bits.Add64", "internal/abi.NoEscape", "internal/bytealg.MakeNoZero"], unfollowed := true, recurses := true, named := ["gusset/shapes.sides", "math/bits.overflowError", "internal/strconv.uint64pow10", "math/bits.deBruijn32tab", "math/bits.deBruijn64tab"], apart := false, laid := [("math/bits.deBruijn32tab", laid_math_bits_deBruijn32tab), ("math/bits.deBruijn64tab", laid_math_bits_deBruijn64tab), ("internal/strconv.uint64pow10", laid_internal_strconv_uint64pow10), ("gusset/shapes.sides", laid_gusset_shapes_sides)], narrowed := true }
def ShapesProductsUptoSaid : Prop := shapesProductsUptoRow.holds Tryz.pinned (OpenSpec.upto shapesProductsSpec)

/-- 'gussetlaw34.ShapesTensor', WHERE WHAT IT READS IS OF BULK AT MOST 1048576: true; the input reads as it did. -/
def shapesTensorUptoRow : OpenClaim := { program := "ytdcaodkjofkmgaagreatdoor", sum := "118faca7739ed6c43e6a953c73339442a81b4bbf1f7bb34b2c69a1c14ec4066a", func := "gusset/gussetlaw34.ShapesTensor", spec := "shapesTensor", inPlace := ["math/bits.Add64", "internal/abi.NoEscape", "internal/bytealg.MakeNoZero"], unfollowed := true, recurses := true, named := ["gusset/shapes.sides", "math/bits.overflowError", "internal/strconv.uint64pow10", "math/bits.deBruijn32tab", "math/bits.deBruijn64tab"], apart := false, laid := [("math/bits.deBruijn32tab", laid_math_bits_deBruijn32tab), ("math/bits.deBruijn64tab", laid_math_bits_deBruijn64tab), ("internal/strconv.uint64pow10", laid_internal_strconv_uint64pow10), ("gusset/shapes.sides", laid_gusset_shapes_sides)], narrowed := true }
def ShapesTensorUptoSaid : Prop := shapesTensorUptoRow.holds Tryz.pinned (OpenSpec.upto shapesTensorSpec)

/-- 'gussetlaw34.ShapesMade', WHERE WHAT IT READS IS OF BULK AT MOST 1048576: true; the input reads as it did. -/
def shapesMadeUptoRow : OpenClaim := { program := "ytdcaodkjofkmgaagreatdoor", sum := "118faca7739ed6c43e6a953c73339442a81b4bbf1f7bb34b2c69a1c14ec4066a", func := "gusset/gussetlaw34.ShapesMade", spec := "shapesMade", inPlace := ["math/bits.Add64", "internal/abi.NoEscape", "internal/bytealg.MakeNoZero"], unfollowed := true, recurses := true, named := ["gusset/shapes.sides", "math/bits.overflowError", "internal/strconv.uint64pow10", "math/bits.deBruijn32tab", "math/bits.deBruijn64tab"], apart := false, laid := [("math/bits.deBruijn32tab", laid_math_bits_deBruijn32tab), ("math/bits.deBruijn64tab", laid_math_bits_deBruijn64tab), ("internal/strconv.uint64pow10", laid_internal_strconv_uint64pow10), ("gusset/shapes.sides", laid_gusset_shapes_sides)], narrowed := true }
def ShapesMadeUptoSaid : Prop := shapesMadeUptoRow.holds Tryz.pinned (OpenSpec.upto shapesMadeSpec)

/-- 'gussetlaw34.ShapesNodes', WHERE WHAT IT READS IS OF BULK AT MOST 1048576: true; the input reads as it did. -/
def shapesNodesUptoRow : OpenClaim := { program := "ytdcaodkjofkmgaagreatdoor", sum := "118faca7739ed6c43e6a953c73339442a81b4bbf1f7bb34b2c69a1c14ec4066a", func := "gusset/gussetlaw34.ShapesNodes", spec := "shapesNodes", inPlace := ["math/bits.Add64", "internal/abi.NoEscape", "internal/bytealg.MakeNoZero"], unfollowed := true, recurses := true, named := ["gusset/shapes.sides", "math/bits.overflowError", "internal/strconv.uint64pow10", "math/bits.deBruijn32tab", "math/bits.deBruijn64tab"], apart := false, laid := [("math/bits.deBruijn32tab", laid_math_bits_deBruijn32tab), ("math/bits.deBruijn64tab", laid_math_bits_deBruijn64tab), ("internal/strconv.uint64pow10", laid_internal_strconv_uint64pow10), ("gusset/shapes.sides", laid_gusset_shapes_sides)], narrowed := true }
def ShapesNodesUptoSaid : Prop := shapesNodesUptoRow.holds Tryz.pinned (OpenSpec.upto shapesNodesSpec)

/-- 'gussetlaw34.ShapesPolys', WHERE WHAT IT READS IS OF BULK AT MOST 1048576: true; the input reads as it did. -/
def shapesPolysUptoRow : OpenClaim := { program := "ytdcaodkjofkmgaagreatdoor", sum := "118faca7739ed6c43e6a953c73339442a81b4bbf1f7bb34b2c69a1c14ec4066a", func := "gusset/gussetlaw34.ShapesPolys", spec := "shapesPolys", inPlace := ["math/bits.Add64", "internal/abi.NoEscape", "internal/bytealg.MakeNoZero"], unfollowed := true, recurses := true, named := ["math/bits.overflowError", "gusset/shapes.sides", "internal/strconv.uint64pow10", "math/bits.deBruijn32tab", "math/bits.deBruijn64tab"], apart := false, laid := [("math/bits.deBruijn32tab", laid_math_bits_deBruijn32tab), ("math/bits.deBruijn64tab", laid_math_bits_deBruijn64tab), ("internal/strconv.uint64pow10", laid_internal_strconv_uint64pow10), ("gusset/shapes.sides", laid_gusset_shapes_sides)], narrowed := true }
def ShapesPolysUptoSaid : Prop := shapesPolysUptoRow.holds Tryz.pinned (OpenSpec.upto shapesPolysSpec)

end Rows
end Go.Proofs.YtdcaodkjofkmgaaGreatDoor
