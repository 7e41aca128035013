/-
  NARROWER THAN 'FOR EVERY INPUT', by the rows' own cells (each row's printed sentence says how): MatsMakes: laid · BareissStages: laid · BareissBound: laid · BareissErrors: laid · MatsKnown: laid · BareissClear: laid · BareissAdjugate: laid · BareissSylvester: laid · BareissCramer: laid · BareissKnown: laid.
  DERIVED. THE GIVEN ROWS OF THIS SEAT. 10 by the template 'for every input the law returns true; each argument reads behind the call as it read before'; 0 by the template 'total and deterministic' (their statements: YtkpfineikahgfaaGreatDoorTotals.lean).
  GIVEN WITH THE SEED: the statements are not yours to turn. If you find one false, say at which input.
  Laid BY PROGRAM, IN A SANDBOX (cutbox-rows.mjs): the forced cells as the released guide's own fill.sh prints them over the translation 83b252a9ab4c4fad… (all of the seat's roots in one cut). By AI agents, Wed Nov 11 2026. No macro, syntax, notation, axiom, sorry.
-/
import Derived.Test.YtkpfineikahgfaaGreatDoorChecked
import GoSem.Claim
import GoSem.ClaimJoined
import GoSem.ClaimMapViews
import Derived.JoinedTies
import Derived.KernelRfl
namespace Go.Proofs.YtkpfineikahgfaaGreatDoor
/- THE CELL 'sum', in the pinned program and in every row, IS THE sha256 OF THE DUMP (.gsa) THAT YtkpfineikahgfaaGreatDoorProg.lean LOADS. Nothing in Lean hashes anything: it is a label: what it is worth is what the hold of that sum in a sandbox is worth. -/
noncomputable def Tryz.pinned : Pinned := { name := "ytkpfineikahgfaagreatdoor", sum := "83b252a9ab4c4fad81d17ec96003af86cc332b8e6f6750db9e413e47f808e5c5", checked := Tryz.checked }
namespace Rows
def none {H : Type} : Left H := { results := [], args := [] }

/- WHAT THE LISTED PACKAGE-LEVEL VARIABLES READ AS WHEN THE CALL BEGINS. Each datum BY PROGRAM (the guide's laid-datum.mjs) off the statement by which the dump's own 'gosem.cut.vars' lays the variable. In a bare row this is a premise. The card (YtkpfineikahgfaaGreatDoorCards.lean) ties it to the program's text. -/
def laid_math_bits_deBruijn32tab {H : Type} : DataW H := .agg [.lit (.int .u8 0), .lit (.int .u8 1), .lit (.int .u8 28), .lit (.int .u8 2), .lit (.int .u8 29), .lit (.int .u8 14), .lit (.int .u8 24), .lit (.int .u8 3), .lit (.int .u8 30), .lit (.int .u8 22), .lit (.int .u8 20), .lit (.int .u8 15), .lit (.int .u8 25), .lit (.int .u8 17), .lit (.int .u8 4), .lit (.int .u8 8), .lit (.int .u8 31), .lit (.int .u8 27), .lit (.int .u8 13), .lit (.int .u8 23), .lit (.int .u8 21), .lit (.int .u8 19), .lit (.int .u8 16), .lit (.int .u8 7), .lit (.int .u8 26), .lit (.int .u8 12), .lit (.int .u8 18), .lit (.int .u8 6), .lit (.int .u8 11), .lit (.int .u8 5), .lit (.int .u8 10), .lit (.int .u8 9)]
def laid_math_bits_deBruijn64tab {H : Type} : DataW H := .agg [.lit (.int .u8 0), .lit (.int .u8 1), .lit (.int .u8 56), .lit (.int .u8 2), .lit (.int .u8 57), .lit (.int .u8 49), .lit (.int .u8 28), .lit (.int .u8 3), .lit (.int .u8 61), .lit (.int .u8 58), .lit (.int .u8 42), .lit (.int .u8 50), .lit (.int .u8 38), .lit (.int .u8 29), .lit (.int .u8 17), .lit (.int .u8 4), .lit (.int .u8 62), .lit (.int .u8 47), .lit (.int .u8 59), .lit (.int .u8 36), .lit (.int .u8 45), .lit (.int .u8 43), .lit (.int .u8 51), .lit (.int .u8 22), .lit (.int .u8 53), .lit (.int .u8 39), .lit (.int .u8 33), .lit (.int .u8 30), .lit (.int .u8 24), .lit (.int .u8 18), .lit (.int .u8 12), .lit (.int .u8 5), .lit (.int .u8 63), .lit (.int .u8 55), .lit (.int .u8 48), .lit (.int .u8 27), .lit (.int .u8 60), .lit (.int .u8 41), .lit (.int .u8 37), .lit (.int .u8 16), .lit (.int .u8 46), .lit (.int .u8 35), .lit (.int .u8 44), .lit (.int .u8 21), .lit (.int .u8 52), .lit (.int .u8 32), .lit (.int .u8 23), .lit (.int .u8 11), .lit (.int .u8 54), .lit (.int .u8 26), .lit (.int .u8 40), .lit (.int .u8 15), .lit (.int .u8 34), .lit (.int .u8 20), .lit (.int .u8 31), .lit (.int .u8 10), .lit (.int .u8 25), .lit (.int .u8 14), .lit (.int .u8 19), .lit (.int .u8 9), .lit (.int .u8 13), .lit (.int .u8 8), .lit (.int .u8 7), .lit (.int .u8 6)]
def laid_internal_strconv_uint64pow10 {H : Type} : DataW H := .agg [.lit (.int .u64 1), .lit (.int .u64 10), .lit (.int .u64 100), .lit (.int .u64 1000), .lit (.int .u64 10000), .lit (.int .u64 100000), .lit (.int .u64 1000000), .lit (.int .u64 10000000), .lit (.int .u64 100000000), .lit (.int .u64 1000000000), .lit (.int .u64 10000000000), .lit (.int .u64 100000000000), .lit (.int .u64 1000000000000), .lit (.int .u64 10000000000000), .lit (.int .u64 100000000000000), .lit (.int .u64 1000000000000000), .lit (.int .u64 10000000000000000), .lit (.int .u64 100000000000000000), .lit (.int .u64 1000000000000000000), .lit (.int .u64 10000000000000000000)]

/-- 'gussetlaw13.MatsMakes': WHATEVER THE INPUT: true; the input reads as it did. -/
def matsMakesSpec : ChangeSpec := { name := "matsMakes", fn := fun _ => fun
  | [d1, d2, d3] => { results := [.lit (.bool true)], args := [d1, d2, d3] }
  | _ => none }
def matsMakesRow : OpenClaim := { program := "ytkpfineikahgfaagreatdoor", sum := "83b252a9ab4c4fad81d17ec96003af86cc332b8e6f6750db9e413e47f808e5c5", func := "gusset/gussetlaw13.MatsMakes", spec := "matsMakes", inPlace := ["math/bits.Add64", "internal/abi.NoEscape", "internal/bytealg.MakeNoZero"], unfollowed := true, recurses := true, named := ["math/bits.overflowError", "internal/strconv.uint64pow10", "math/bits.deBruijn32tab", "math/bits.deBruijn64tab"], apart := false, laid := [("math/bits.deBruijn32tab", laid_math_bits_deBruijn32tab), ("math/bits.deBruijn64tab", laid_math_bits_deBruijn64tab), ("internal/strconv.uint64pow10", laid_internal_strconv_uint64pow10)] }
def MatsMakesSaid : Prop := matsMakesRow.holds Tryz.pinned (OpenSpec.ofChange matsMakesSpec)

/-- ITS FALSE NEIGHBOUR: 'it returns false'. Refute it at one input. -/
def matsMakesWrong : ChangeSpec := { name := "matsMakes", fn := fun _ => fun
  | [d1, d2, d3] => { results := [.lit (.bool false)], args := [d1, d2, d3] }
  | _ => none }
def MatsMakesWrongFalsely : Prop := matsMakesRow.holds Tryz.pinned (OpenSpec.ofChange matsMakesWrong)

/-- 'gussetlaw15.BareissStages': WHATEVER THE INPUT: true; the input reads as it did. -/
def bareissStagesSpec : ChangeSpec := { name := "bareissStages", fn := fun _ => fun
  | [d1, d2, d3] => { results := [.lit (.bool true)], args := [d1, d2, d3] }
  | _ => none }
def bareissStagesRow : OpenClaim := { program := "ytkpfineikahgfaagreatdoor", sum := "83b252a9ab4c4fad81d17ec96003af86cc332b8e6f6750db9e413e47f808e5c5", func := "gusset/gussetlaw15.BareissStages", spec := "bareissStages", inPlace := ["math/bits.Add64", "internal/abi.NoEscape", "internal/bytealg.MakeNoZero"], unfollowed := true, recurses := true, named := ["math/bits.overflowError", "internal/strconv.uint64pow10", "math/bits.deBruijn32tab", "math/bits.deBruijn64tab"], apart := false, laid := [("math/bits.deBruijn32tab", laid_math_bits_deBruijn32tab), ("math/bits.deBruijn64tab", laid_math_bits_deBruijn64tab), ("internal/strconv.uint64pow10", laid_internal_strconv_uint64pow10)] }
def BareissStagesSaid : Prop := bareissStagesRow.holds Tryz.pinned (OpenSpec.ofChange bareissStagesSpec)

/-- ITS FALSE NEIGHBOUR: 'it returns false'. Refute it at one input. -/
def bareissStagesWrong : ChangeSpec := { name := "bareissStages", fn := fun _ => fun
  | [d1, d2, d3] => { results := [.lit (.bool false)], args := [d1, d2, d3] }
  | _ => none }
def BareissStagesWrongFalsely : Prop := bareissStagesRow.holds Tryz.pinned (OpenSpec.ofChange bareissStagesWrong)

/-- 'gussetlaw15.BareissBound': WHATEVER THE INPUT: true; the input reads as it did. -/
def bareissBoundSpec : ChangeSpec := { name := "bareissBound", fn := fun _ => fun
  | [d1, d2] => { results := [.lit (.bool true)], args := [d1, d2] }
  | _ => none }
def bareissBoundRow : OpenClaim := { program := "ytkpfineikahgfaagreatdoor", sum := "83b252a9ab4c4fad81d17ec96003af86cc332b8e6f6750db9e413e47f808e5c5", func := "gusset/gussetlaw15.BareissBound", spec := "bareissBound", inPlace := ["math/bits.Add64", "internal/abi.NoEscape", "internal/bytealg.MakeNoZero"], unfollowed := true, recurses := true, named := ["math/bits.overflowError", "internal/strconv.uint64pow10", "math/bits.deBruijn32tab", "math/bits.deBruijn64tab"], apart := false, laid := [("math/bits.deBruijn32tab", laid_math_bits_deBruijn32tab), ("math/bits.deBruijn64tab", laid_math_bits_deBruijn64tab), ("internal/strconv.uint64pow10", laid_internal_strconv_uint64pow10)] }
def BareissBoundSaid : Prop := bareissBoundRow.holds Tryz.pinned (OpenSpec.ofChange bareissBoundSpec)

/-- ITS FALSE NEIGHBOUR: 'it returns false'. Refute it at one input. -/
def bareissBoundWrong : ChangeSpec := { name := "bareissBound", fn := fun _ => fun
  | [d1, d2] => { results := [.lit (.bool false)], args := [d1, d2] }
  | _ => none }
def BareissBoundWrongFalsely : Prop := bareissBoundRow.holds Tryz.pinned (OpenSpec.ofChange bareissBoundWrong)

/-- 'gussetlaw15.BareissErrors': WHATEVER THE INPUT: true; the input reads as it did. -/
def bareissErrorsSpec : ChangeSpec := { name := "bareissErrors", fn := fun _ => fun
  | [d1, d2, d3, d4, d5] => { results := [.lit (.bool true)], args := [d1, d2, d3, d4, d5] }
  | _ => none }
def bareissErrorsRow : OpenClaim := { program := "ytkpfineikahgfaagreatdoor", sum := "83b252a9ab4c4fad81d17ec96003af86cc332b8e6f6750db9e413e47f808e5c5", func := "gusset/gussetlaw15.BareissErrors", spec := "bareissErrors", inPlace := ["math/bits.Add64", "internal/abi.NoEscape", "internal/bytealg.MakeNoZero"], unfollowed := true, recurses := true, named := ["math/bits.overflowError", "internal/strconv.uint64pow10", "math/bits.deBruijn32tab", "math/bits.deBruijn64tab"], apart := false, laid := [("math/bits.deBruijn32tab", laid_math_bits_deBruijn32tab), ("math/bits.deBruijn64tab", laid_math_bits_deBruijn64tab), ("internal/strconv.uint64pow10", laid_internal_strconv_uint64pow10)] }
def BareissErrorsSaid : Prop := bareissErrorsRow.holds Tryz.pinned (OpenSpec.ofChange bareissErrorsSpec)

/-- ITS FALSE NEIGHBOUR: 'it returns false'. Refute it at one input. -/
def bareissErrorsWrong : ChangeSpec := { name := "bareissErrors", fn := fun _ => fun
  | [d1, d2, d3, d4, d5] => { results := [.lit (.bool false)], args := [d1, d2, d3, d4, d5] }
  | _ => none }
def BareissErrorsWrongFalsely : Prop := bareissErrorsRow.holds Tryz.pinned (OpenSpec.ofChange bareissErrorsWrong)

/-- 'gussetlaw13.MatsKnown': WHATEVER THE INPUT: true; the input reads as it did. -/
def matsKnownSpec : ChangeSpec := { name := "matsKnown", fn := fun _ => fun
  | [] => { results := [.lit (.bool true)], args := [] }
  | _ => none }
def matsKnownRow : OpenClaim := { program := "ytkpfineikahgfaagreatdoor", sum := "83b252a9ab4c4fad81d17ec96003af86cc332b8e6f6750db9e413e47f808e5c5", func := "gusset/gussetlaw13.MatsKnown", spec := "matsKnown", inPlace := ["math/bits.Add64", "internal/abi.NoEscape", "internal/bytealg.MakeNoZero"], unfollowed := true, recurses := true, named := ["math/bits.overflowError", "internal/strconv.uint64pow10", "math/bits.deBruijn32tab", "math/bits.deBruijn64tab"], apart := false, laid := [("math/bits.deBruijn32tab", laid_math_bits_deBruijn32tab), ("math/bits.deBruijn64tab", laid_math_bits_deBruijn64tab), ("internal/strconv.uint64pow10", laid_internal_strconv_uint64pow10)] }
def MatsKnownSaid : Prop := matsKnownRow.holds Tryz.pinned (OpenSpec.ofChange matsKnownSpec)

/-- ITS FALSE NEIGHBOUR: 'it returns false'. Refute it at one input. -/
def matsKnownWrong : ChangeSpec := { name := "matsKnown", fn := fun _ => fun
  | [] => { results := [.lit (.bool false)], args := [] }
  | _ => none }
def MatsKnownWrongFalsely : Prop := matsKnownRow.holds Tryz.pinned (OpenSpec.ofChange matsKnownWrong)

/-- 'gussetlaw15.BareissClear': WHATEVER THE INPUT: true; the input reads as it did. -/
def bareissClearSpec : ChangeSpec := { name := "bareissClear", fn := fun _ => fun
  | [d1, d2] => { results := [.lit (.bool true)], args := [d1, d2] }
  | _ => none }
def bareissClearRow : OpenClaim := { program := "ytkpfineikahgfaagreatdoor", sum := "83b252a9ab4c4fad81d17ec96003af86cc332b8e6f6750db9e413e47f808e5c5", func := "gusset/gussetlaw15.BareissClear", spec := "bareissClear", inPlace := ["math/bits.Add64", "internal/abi.NoEscape", "internal/bytealg.MakeNoZero"], unfollowed := true, recurses := true, named := ["math/bits.overflowError", "internal/strconv.uint64pow10", "math/bits.deBruijn32tab", "math/bits.deBruijn64tab"], apart := false, laid := [("math/bits.deBruijn32tab", laid_math_bits_deBruijn32tab), ("math/bits.deBruijn64tab", laid_math_bits_deBruijn64tab), ("internal/strconv.uint64pow10", laid_internal_strconv_uint64pow10)] }
def BareissClearSaid : Prop := bareissClearRow.holds Tryz.pinned (OpenSpec.ofChange bareissClearSpec)

/-- ITS FALSE NEIGHBOUR: 'it returns false'. Refute it at one input. -/
def bareissClearWrong : ChangeSpec := { name := "bareissClear", fn := fun _ => fun
  | [d1, d2] => { results := [.lit (.bool false)], args := [d1, d2] }
  | _ => none }
def BareissClearWrongFalsely : Prop := bareissClearRow.holds Tryz.pinned (OpenSpec.ofChange bareissClearWrong)

/-- 'gussetlaw15.BareissAdjugate': WHATEVER THE INPUT: true; the input reads as it did. -/
def bareissAdjugateSpec : ChangeSpec := { name := "bareissAdjugate", fn := fun _ => fun
  | [d1, d2, d3] => { results := [.lit (.bool true)], args := [d1, d2, d3] }
  | _ => none }
def bareissAdjugateRow : OpenClaim := { program := "ytkpfineikahgfaagreatdoor", sum := "83b252a9ab4c4fad81d17ec96003af86cc332b8e6f6750db9e413e47f808e5c5", func := "gusset/gussetlaw15.BareissAdjugate", spec := "bareissAdjugate", inPlace := ["math/bits.Add64", "internal/abi.NoEscape", "internal/bytealg.MakeNoZero"], unfollowed := true, recurses := true, named := ["math/bits.overflowError", "internal/strconv.uint64pow10", "math/bits.deBruijn32tab", "math/bits.deBruijn64tab"], apart := false, laid := [("math/bits.deBruijn32tab", laid_math_bits_deBruijn32tab), ("math/bits.deBruijn64tab", laid_math_bits_deBruijn64tab), ("internal/strconv.uint64pow10", laid_internal_strconv_uint64pow10)] }
def BareissAdjugateSaid : Prop := bareissAdjugateRow.holds Tryz.pinned (OpenSpec.ofChange bareissAdjugateSpec)

/-- ITS FALSE NEIGHBOUR: 'it returns false'. Refute it at one input. -/
def bareissAdjugateWrong : ChangeSpec := { name := "bareissAdjugate", fn := fun _ => fun
  | [d1, d2, d3] => { results := [.lit (.bool false)], args := [d1, d2, d3] }
  | _ => none }
def BareissAdjugateWrongFalsely : Prop := bareissAdjugateRow.holds Tryz.pinned (OpenSpec.ofChange bareissAdjugateWrong)

/-- 'gussetlaw15.BareissSylvester': WHATEVER THE INPUT: true; the input reads as it did. -/
def bareissSylvesterSpec : ChangeSpec := { name := "bareissSylvester", fn := fun _ => fun
  | [d1, d2, d3] => { results := [.lit (.bool true)], args := [d1, d2, d3] }
  | _ => none }
def bareissSylvesterRow : OpenClaim := { program := "ytkpfineikahgfaagreatdoor", sum := "83b252a9ab4c4fad81d17ec96003af86cc332b8e6f6750db9e413e47f808e5c5", func := "gusset/gussetlaw15.BareissSylvester", spec := "bareissSylvester", inPlace := ["math/bits.Add64", "internal/abi.NoEscape", "internal/bytealg.MakeNoZero"], unfollowed := true, recurses := true, named := ["math/bits.overflowError", "internal/strconv.uint64pow10", "math/bits.deBruijn32tab", "math/bits.deBruijn64tab"], apart := false, laid := [("math/bits.deBruijn32tab", laid_math_bits_deBruijn32tab), ("math/bits.deBruijn64tab", laid_math_bits_deBruijn64tab), ("internal/strconv.uint64pow10", laid_internal_strconv_uint64pow10)] }
def BareissSylvesterSaid : Prop := bareissSylvesterRow.holds Tryz.pinned (OpenSpec.ofChange bareissSylvesterSpec)

/-- ITS FALSE NEIGHBOUR: 'it returns false'. Refute it at one input. -/
def bareissSylvesterWrong : ChangeSpec := { name := "bareissSylvester", fn := fun _ => fun
  | [d1, d2, d3] => { results := [.lit (.bool false)], args := [d1, d2, d3] }
  | _ => none }
def BareissSylvesterWrongFalsely : Prop := bareissSylvesterRow.holds Tryz.pinned (OpenSpec.ofChange bareissSylvesterWrong)

/-- 'gussetlaw15.BareissCramer': WHATEVER THE INPUT: true; the input reads as it did. -/
def bareissCramerSpec : ChangeSpec := { name := "bareissCramer", fn := fun _ => fun
  | [d1, d2, d3] => { results := [.lit (.bool true)], args := [d1, d2, d3] }
  | _ => none }
def bareissCramerRow : OpenClaim := { program := "ytkpfineikahgfaagreatdoor", sum := "83b252a9ab4c4fad81d17ec96003af86cc332b8e6f6750db9e413e47f808e5c5", func := "gusset/gussetlaw15.BareissCramer", spec := "bareissCramer", inPlace := ["math/bits.Add64", "internal/abi.NoEscape", "internal/bytealg.MakeNoZero"], unfollowed := true, recurses := true, named := ["math/bits.overflowError", "internal/strconv.uint64pow10", "math/bits.deBruijn32tab", "math/bits.deBruijn64tab"], apart := false, laid := [("math/bits.deBruijn32tab", laid_math_bits_deBruijn32tab), ("math/bits.deBruijn64tab", laid_math_bits_deBruijn64tab), ("internal/strconv.uint64pow10", laid_internal_strconv_uint64pow10)] }
def BareissCramerSaid : Prop := bareissCramerRow.holds Tryz.pinned (OpenSpec.ofChange bareissCramerSpec)

/-- ITS FALSE NEIGHBOUR: 'it returns false'. Refute it at one input. -/
def bareissCramerWrong : ChangeSpec := { name := "bareissCramer", fn := fun _ => fun
  | [d1, d2, d3] => { results := [.lit (.bool false)], args := [d1, d2, d3] }
  | _ => none }
def BareissCramerWrongFalsely : Prop := bareissCramerRow.holds Tryz.pinned (OpenSpec.ofChange bareissCramerWrong)

/-- 'gussetlaw15.BareissKnown': WHATEVER THE INPUT: true; the input reads as it did. -/
def bareissKnownSpec : ChangeSpec := { name := "bareissKnown", fn := fun _ => fun
  | [] => { results := [.lit (.bool true)], args := [] }
  | _ => none }
def bareissKnownRow : OpenClaim := { program := "ytkpfineikahgfaagreatdoor", sum := "83b252a9ab4c4fad81d17ec96003af86cc332b8e6f6750db9e413e47f808e5c5", func := "gusset/gussetlaw15.BareissKnown", spec := "bareissKnown", inPlace := ["math/bits.Add64", "internal/abi.NoEscape", "internal/bytealg.MakeNoZero"], unfollowed := true, recurses := true, named := ["math/bits.overflowError", "internal/strconv.uint64pow10", "math/bits.deBruijn32tab", "math/bits.deBruijn64tab"], apart := false, laid := [("math/bits.deBruijn32tab", laid_math_bits_deBruijn32tab), ("math/bits.deBruijn64tab", laid_math_bits_deBruijn64tab), ("internal/strconv.uint64pow10", laid_internal_strconv_uint64pow10)] }
def BareissKnownSaid : Prop := bareissKnownRow.holds Tryz.pinned (OpenSpec.ofChange bareissKnownSpec)

/-- ITS FALSE NEIGHBOUR: 'it returns false'. Refute it at one input. -/
def bareissKnownWrong : ChangeSpec := { name := "bareissKnown", fn := fun _ => fun
  | [] => { results := [.lit (.bool false)], args := [] }
  | _ => none }
def BareissKnownWrongFalsely : Prop := bareissKnownRow.holds Tryz.pinned (OpenSpec.ofChange bareissKnownWrong)

/- THE SECOND FORM. 'bulk': how many values and letters a reading holds, each counted each time it is reached (what is shared counts as often as it is met; a slice's spare places count too). A statement '..UptoSaid' is the law's where the arguments, and the package variables that the reading takes, are together of bulk at most 1048576: NARROWER than '..Said'. Prove '..Said' where nothing that the law and all that it calls make is longer than what came in: it says more and counts as full. Else prove '..UptoSaid'. A law counts once. -/
mutual
def uptoBulk {H : Type} : DataW H → Nat
  | .lit (.string bytes) => bytes.length + 1
  | .lit _ => 1
  | .nil => 1
  | .ptr d => uptoBulk d + 1
  | .slice elems spare => uptoBulkAll elems + uptoBulkAll spare + 1
  | .agg parts => uptoBulkAll parts + 1
  | .iface _ d => uptoBulk d + 1
  | .map entries => uptoBulkEntries entries + 1
  | .held _ => 1
def uptoBulkAll {H : Type} : List (DataW H) → Nat
  | [] => 0
  | d :: r => uptoBulk d + uptoBulkAll r
def uptoBulkEntries {H : Type} : List (Lit × DataW H) → Nat
  | [] => 0
  | x :: r => uptoBulkEntry x + uptoBulkEntries r
def uptoBulkEntry {H : Type} : Lit × DataW H → Nat
  | (.string bytes, d) => bytes.length + uptoBulk d + 1
  | (_, d) => uptoBulk d + 1
 end
def uptoSmall : (H : Type) → List (DataW H) → Bool := fun _ ds => decide (uptoBulkAll ds ≤ 1048576)
def OpenSpec.upto (s : _root_.Go.ChangeSpec) : _root_.Go.OpenSpec := { _root_.Go.OpenSpec.ofChange s with cond := some uptoSmall }

/-- 'gussetlaw13.MatsMakes', WHERE WHAT IT READS IS OF BULK AT MOST 1048576: true; the input reads as it did. -/
def matsMakesUptoRow : OpenClaim := { program := "ytkpfineikahgfaagreatdoor", sum := "83b252a9ab4c4fad81d17ec96003af86cc332b8e6f6750db9e413e47f808e5c5", func := "gusset/gussetlaw13.MatsMakes", spec := "matsMakes", inPlace := ["math/bits.Add64", "internal/abi.NoEscape", "internal/bytealg.MakeNoZero"], unfollowed := true, recurses := true, named := ["math/bits.overflowError", "internal/strconv.uint64pow10", "math/bits.deBruijn32tab", "math/bits.deBruijn64tab"], apart := false, laid := [("math/bits.deBruijn32tab", laid_math_bits_deBruijn32tab), ("math/bits.deBruijn64tab", laid_math_bits_deBruijn64tab), ("internal/strconv.uint64pow10", laid_internal_strconv_uint64pow10)], narrowed := true }
def MatsMakesUptoSaid : Prop := matsMakesUptoRow.holds Tryz.pinned (OpenSpec.upto matsMakesSpec)

/-- 'gussetlaw15.BareissStages', WHERE WHAT IT READS IS OF BULK AT MOST 1048576: true; the input reads as it did. -/
def bareissStagesUptoRow : OpenClaim := { program := "ytkpfineikahgfaagreatdoor", sum := "83b252a9ab4c4fad81d17ec96003af86cc332b8e6f6750db9e413e47f808e5c5", func := "gusset/gussetlaw15.BareissStages", spec := "bareissStages", inPlace := ["math/bits.Add64", "internal/abi.NoEscape", "internal/bytealg.MakeNoZero"], unfollowed := true, recurses := true, named := ["math/bits.overflowError", "internal/strconv.uint64pow10", "math/bits.deBruijn32tab", "math/bits.deBruijn64tab"], apart := false, laid := [("math/bits.deBruijn32tab", laid_math_bits_deBruijn32tab), ("math/bits.deBruijn64tab", laid_math_bits_deBruijn64tab), ("internal/strconv.uint64pow10", laid_internal_strconv_uint64pow10)], narrowed := true }
def BareissStagesUptoSaid : Prop := bareissStagesUptoRow.holds Tryz.pinned (OpenSpec.upto bareissStagesSpec)

/-- 'gussetlaw15.BareissBound', WHERE WHAT IT READS IS OF BULK AT MOST 1048576: true; the input reads as it did. -/
def bareissBoundUptoRow : OpenClaim := { program := "ytkpfineikahgfaagreatdoor", sum := "83b252a9ab4c4fad81d17ec96003af86cc332b8e6f6750db9e413e47f808e5c5", func := "gusset/gussetlaw15.BareissBound", spec := "bareissBound", inPlace := ["math/bits.Add64", "internal/abi.NoEscape", "internal/bytealg.MakeNoZero"], unfollowed := true, recurses := true, named := ["math/bits.overflowError", "internal/strconv.uint64pow10", "math/bits.deBruijn32tab", "math/bits.deBruijn64tab"], apart := false, laid := [("math/bits.deBruijn32tab", laid_math_bits_deBruijn32tab), ("math/bits.deBruijn64tab", laid_math_bits_deBruijn64tab), ("internal/strconv.uint64pow10", laid_internal_strconv_uint64pow10)], narrowed := true }
def BareissBoundUptoSaid : Prop := bareissBoundUptoRow.holds Tryz.pinned (OpenSpec.upto bareissBoundSpec)

/-- 'gussetlaw15.BareissErrors', WHERE WHAT IT READS IS OF BULK AT MOST 1048576: true; the input reads as it did. -/
def bareissErrorsUptoRow : OpenClaim := { program := "ytkpfineikahgfaagreatdoor", sum := "83b252a9ab4c4fad81d17ec96003af86cc332b8e6f6750db9e413e47f808e5c5", func := "gusset/gussetlaw15.BareissErrors", spec := "bareissErrors", inPlace := ["math/bits.Add64", "internal/abi.NoEscape", "internal/bytealg.MakeNoZero"], unfollowed := true, recurses := true, named := ["math/bits.overflowError", "internal/strconv.uint64pow10", "math/bits.deBruijn32tab", "math/bits.deBruijn64tab"], apart := false, laid := [("math/bits.deBruijn32tab", laid_math_bits_deBruijn32tab), ("math/bits.deBruijn64tab", laid_math_bits_deBruijn64tab), ("internal/strconv.uint64pow10", laid_internal_strconv_uint64pow10)], narrowed := true }
def BareissErrorsUptoSaid : Prop := bareissErrorsUptoRow.holds Tryz.pinned (OpenSpec.upto bareissErrorsSpec)

/-- 'gussetlaw13.MatsKnown', WHERE WHAT IT READS IS OF BULK AT MOST 1048576: true; the input reads as it did. -/
def matsKnownUptoRow : OpenClaim := { program := "ytkpfineikahgfaagreatdoor", sum := "83b252a9ab4c4fad81d17ec96003af86cc332b8e6f6750db9e413e47f808e5c5", func := "gusset/gussetlaw13.MatsKnown", spec := "matsKnown", inPlace := ["math/bits.Add64", "internal/abi.NoEscape", "internal/bytealg.MakeNoZero"], unfollowed := true, recurses := true, named := ["math/bits.overflowError", "internal/strconv.uint64pow10", "math/bits.deBruijn32tab", "math/bits.deBruijn64tab"], apart := false, laid := [("math/bits.deBruijn32tab", laid_math_bits_deBruijn32tab), ("math/bits.deBruijn64tab", laid_math_bits_deBruijn64tab), ("internal/strconv.uint64pow10", laid_internal_strconv_uint64pow10)], narrowed := true }
def MatsKnownUptoSaid : Prop := matsKnownUptoRow.holds Tryz.pinned (OpenSpec.upto matsKnownSpec)

/-- 'gussetlaw15.BareissClear', WHERE WHAT IT READS IS OF BULK AT MOST 1048576: true; the input reads as it did. -/
def bareissClearUptoRow : OpenClaim := { program := "ytkpfineikahgfaagreatdoor", sum := "83b252a9ab4c4fad81d17ec96003af86cc332b8e6f6750db9e413e47f808e5c5", func := "gusset/gussetlaw15.BareissClear", spec := "bareissClear", inPlace := ["math/bits.Add64", "internal/abi.NoEscape", "internal/bytealg.MakeNoZero"], unfollowed := true, recurses := true, named := ["math/bits.overflowError", "internal/strconv.uint64pow10", "math/bits.deBruijn32tab", "math/bits.deBruijn64tab"], apart := false, laid := [("math/bits.deBruijn32tab", laid_math_bits_deBruijn32tab), ("math/bits.deBruijn64tab", laid_math_bits_deBruijn64tab), ("internal/strconv.uint64pow10", laid_internal_strconv_uint64pow10)], narrowed := true }
def BareissClearUptoSaid : Prop := bareissClearUptoRow.holds Tryz.pinned (OpenSpec.upto bareissClearSpec)

/-- 'gussetlaw15.BareissAdjugate', WHERE WHAT IT READS IS OF BULK AT MOST 1048576: true; the input reads as it did. -/
def bareissAdjugateUptoRow : OpenClaim := { program := "ytkpfineikahgfaagreatdoor", sum := "83b252a9ab4c4fad81d17ec96003af86cc332b8e6f6750db9e413e47f808e5c5", func := "gusset/gussetlaw15.BareissAdjugate", spec := "bareissAdjugate", inPlace := ["math/bits.Add64", "internal/abi.NoEscape", "internal/bytealg.MakeNoZero"], unfollowed := true, recurses := true, named := ["math/bits.overflowError", "internal/strconv.uint64pow10", "math/bits.deBruijn32tab", "math/bits.deBruijn64tab"], apart := false, laid := [("math/bits.deBruijn32tab", laid_math_bits_deBruijn32tab), ("math/bits.deBruijn64tab", laid_math_bits_deBruijn64tab), ("internal/strconv.uint64pow10", laid_internal_strconv_uint64pow10)], narrowed := true }
def BareissAdjugateUptoSaid : Prop := bareissAdjugateUptoRow.holds Tryz.pinned (OpenSpec.upto bareissAdjugateSpec)

/-- 'gussetlaw15.BareissSylvester', WHERE WHAT IT READS IS OF BULK AT MOST 1048576: true; the input reads as it did. -/
def bareissSylvesterUptoRow : OpenClaim := { program := "ytkpfineikahgfaagreatdoor", sum := "83b252a9ab4c4fad81d17ec96003af86cc332b8e6f6750db9e413e47f808e5c5", func := "gusset/gussetlaw15.BareissSylvester", spec := "bareissSylvester", inPlace := ["math/bits.Add64", "internal/abi.NoEscape", "internal/bytealg.MakeNoZero"], unfollowed := true, recurses := true, named := ["math/bits.overflowError", "internal/strconv.uint64pow10", "math/bits.deBruijn32tab", "math/bits.deBruijn64tab"], apart := false, laid := [("math/bits.deBruijn32tab", laid_math_bits_deBruijn32tab), ("math/bits.deBruijn64tab", laid_math_bits_deBruijn64tab), ("internal/strconv.uint64pow10", laid_internal_strconv_uint64pow10)], narrowed := true }
def BareissSylvesterUptoSaid : Prop := bareissSylvesterUptoRow.holds Tryz.pinned (OpenSpec.upto bareissSylvesterSpec)

/-- 'gussetlaw15.BareissCramer', WHERE WHAT IT READS IS OF BULK AT MOST 1048576: true; the input reads as it did. -/
def bareissCramerUptoRow : OpenClaim := { program := "ytkpfineikahgfaagreatdoor", sum := "83b252a9ab4c4fad81d17ec96003af86cc332b8e6f6750db9e413e47f808e5c5", func := "gusset/gussetlaw15.BareissCramer", spec := "bareissCramer", inPlace := ["math/bits.Add64", "internal/abi.NoEscape", "internal/bytealg.MakeNoZero"], unfollowed := true, recurses := true, named := ["math/bits.overflowError", "internal/strconv.uint64pow10", "math/bits.deBruijn32tab", "math/bits.deBruijn64tab"], apart := false, laid := [("math/bits.deBruijn32tab", laid_math_bits_deBruijn32tab), ("math/bits.deBruijn64tab", laid_math_bits_deBruijn64tab), ("internal/strconv.uint64pow10", laid_internal_strconv_uint64pow10)], narrowed := true }
def BareissCramerUptoSaid : Prop := bareissCramerUptoRow.holds Tryz.pinned (OpenSpec.upto bareissCramerSpec)

/-- 'gussetlaw15.BareissKnown', WHERE WHAT IT READS IS OF BULK AT MOST 1048576: true; the input reads as it did. -/
def bareissKnownUptoRow : OpenClaim := { program := "ytkpfineikahgfaagreatdoor", sum := "83b252a9ab4c4fad81d17ec96003af86cc332b8e6f6750db9e413e47f808e5c5", func := "gusset/gussetlaw15.BareissKnown", spec := "bareissKnown", inPlace := ["math/bits.Add64", "internal/abi.NoEscape", "internal/bytealg.MakeNoZero"], unfollowed := true, recurses := true, named := ["math/bits.overflowError", "internal/strconv.uint64pow10", "math/bits.deBruijn32tab", "math/bits.deBruijn64tab"], apart := false, laid := [("math/bits.deBruijn32tab", laid_math_bits_deBruijn32tab), ("math/bits.deBruijn64tab", laid_math_bits_deBruijn64tab), ("internal/strconv.uint64pow10", laid_internal_strconv_uint64pow10)], narrowed := true }
def BareissKnownUptoSaid : Prop := bareissKnownUptoRow.holds Tryz.pinned (OpenSpec.upto bareissKnownSpec)

end Rows
end Go.Proofs.YtkpfineikahgfaaGreatDoor
