/-
  NARROWER THAN 'FOR EVERY INPUT', by the rows' own cells (each row's printed sentence says how): ModesCount: laid · ModesErrors: laid · ModesBracket: laid · ModesReach: laid · ModesShift: laid · ModesInterlace: laid · ModesInertia: laid · ModesQuotient: laid.
  DERIVED. THE GIVEN ROWS OF THIS SEAT. 8 by the template 'for every input the law returns true; each argument reads behind the call as it read before'; 0 by the template 'total and deterministic' (their statements: YtfjhnollamkdcaaGreatDoorTotals.lean).
  GIVEN WITH THE SEED: the statements are not yours to turn. If you find one false, say at which input.
  Laid BY PROGRAM, IN A SANDBOX (cutbox-rows.mjs): the forced cells as the released guide's own fill.sh prints them over the translation 3d190179bcf40d25… (all of the seat's roots in one cut). By AI agents, Wed Nov 11 2026. No macro, syntax, notation, axiom, sorry.
-/
import Derived.Test.YtfjhnollamkdcaaGreatDoorChecked
import GoSem.Claim
import GoSem.ClaimJoined
import GoSem.ClaimMapViews
import Derived.JoinedTies
import Derived.KernelRfl
namespace Go.Proofs.YtfjhnollamkdcaaGreatDoor
/- THE CELL 'sum', in the pinned program and in every row, IS THE sha256 OF THE DUMP (.gsa) THAT YtfjhnollamkdcaaGreatDoorProg.lean LOADS. Nothing in Lean hashes anything: it is a label: what it is worth is what the hold of that sum in a sandbox is worth. -/
noncomputable def Tryz.pinned : Pinned := { name := "ytfjhnollamkdcaagreatdoor", sum := "3d190179bcf40d25ba9b32c827605ed07dee172e3eba09b7deef1a712cd67fe4", checked := Tryz.checked }
namespace Rows
def none {H : Type} : Left H := { results := [], args := [] }

/- WHAT THE LISTED PACKAGE-LEVEL VARIABLES READ AS WHEN THE CALL BEGINS. Each datum BY PROGRAM (the guide's laid-datum.mjs) off the statement by which the dump's own 'gosem.cut.vars' lays the variable. In a bare row this is a premise. The card (YtfjhnollamkdcaaGreatDoorCards.lean) ties it to the program's text. -/
def laid_math_bits_deBruijn32tab {H : Type} : DataW H := .agg [.lit (.int .u8 0), .lit (.int .u8 1), .lit (.int .u8 28), .lit (.int .u8 2), .lit (.int .u8 29), .lit (.int .u8 14), .lit (.int .u8 24), .lit (.int .u8 3), .lit (.int .u8 30), .lit (.int .u8 22), .lit (.int .u8 20), .lit (.int .u8 15), .lit (.int .u8 25), .lit (.int .u8 17), .lit (.int .u8 4), .lit (.int .u8 8), .lit (.int .u8 31), .lit (.int .u8 27), .lit (.int .u8 13), .lit (.int .u8 23), .lit (.int .u8 21), .lit (.int .u8 19), .lit (.int .u8 16), .lit (.int .u8 7), .lit (.int .u8 26), .lit (.int .u8 12), .lit (.int .u8 18), .lit (.int .u8 6), .lit (.int .u8 11), .lit (.int .u8 5), .lit (.int .u8 10), .lit (.int .u8 9)]
def laid_math_bits_deBruijn64tab {H : Type} : DataW H := .agg [.lit (.int .u8 0), .lit (.int .u8 1), .lit (.int .u8 56), .lit (.int .u8 2), .lit (.int .u8 57), .lit (.int .u8 49), .lit (.int .u8 28), .lit (.int .u8 3), .lit (.int .u8 61), .lit (.int .u8 58), .lit (.int .u8 42), .lit (.int .u8 50), .lit (.int .u8 38), .lit (.int .u8 29), .lit (.int .u8 17), .lit (.int .u8 4), .lit (.int .u8 62), .lit (.int .u8 47), .lit (.int .u8 59), .lit (.int .u8 36), .lit (.int .u8 45), .lit (.int .u8 43), .lit (.int .u8 51), .lit (.int .u8 22), .lit (.int .u8 53), .lit (.int .u8 39), .lit (.int .u8 33), .lit (.int .u8 30), .lit (.int .u8 24), .lit (.int .u8 18), .lit (.int .u8 12), .lit (.int .u8 5), .lit (.int .u8 63), .lit (.int .u8 55), .lit (.int .u8 48), .lit (.int .u8 27), .lit (.int .u8 60), .lit (.int .u8 41), .lit (.int .u8 37), .lit (.int .u8 16), .lit (.int .u8 46), .lit (.int .u8 35), .lit (.int .u8 44), .lit (.int .u8 21), .lit (.int .u8 52), .lit (.int .u8 32), .lit (.int .u8 23), .lit (.int .u8 11), .lit (.int .u8 54), .lit (.int .u8 26), .lit (.int .u8 40), .lit (.int .u8 15), .lit (.int .u8 34), .lit (.int .u8 20), .lit (.int .u8 31), .lit (.int .u8 10), .lit (.int .u8 25), .lit (.int .u8 14), .lit (.int .u8 19), .lit (.int .u8 9), .lit (.int .u8 13), .lit (.int .u8 8), .lit (.int .u8 7), .lit (.int .u8 6)]
def laid_internal_strconv_uint64pow10 {H : Type} : DataW H := .agg [.lit (.int .u64 1), .lit (.int .u64 10), .lit (.int .u64 100), .lit (.int .u64 1000), .lit (.int .u64 10000), .lit (.int .u64 100000), .lit (.int .u64 1000000), .lit (.int .u64 10000000), .lit (.int .u64 100000000), .lit (.int .u64 1000000000), .lit (.int .u64 10000000000), .lit (.int .u64 100000000000), .lit (.int .u64 1000000000000), .lit (.int .u64 10000000000000), .lit (.int .u64 100000000000000), .lit (.int .u64 1000000000000000), .lit (.int .u64 10000000000000000), .lit (.int .u64 100000000000000000), .lit (.int .u64 1000000000000000000), .lit (.int .u64 10000000000000000000)]

/-- 'gussetlaw22.ModesCount': WHATEVER THE INPUT: true; the input reads as it did. -/
def modesCountSpec : ChangeSpec := { name := "modesCount", fn := fun _ => fun
  | [d1, d2, d3, d4] => { results := [.lit (.bool true)], args := [d1, d2, d3, d4] }
  | _ => none }
def modesCountRow : OpenClaim := { program := "ytfjhnollamkdcaagreatdoor", sum := "3d190179bcf40d25ba9b32c827605ed07dee172e3eba09b7deef1a712cd67fe4", func := "gusset/gussetlaw22.ModesCount", spec := "modesCount", inPlace := ["math/bits.Add64", "internal/abi.NoEscape", "internal/bytealg.MakeNoZero"], unfollowed := true, recurses := true, named := ["math/bits.overflowError", "internal/strconv.uint64pow10", "math/bits.deBruijn32tab", "math/bits.deBruijn64tab"], apart := false, laid := [("math/bits.deBruijn32tab", laid_math_bits_deBruijn32tab), ("math/bits.deBruijn64tab", laid_math_bits_deBruijn64tab), ("internal/strconv.uint64pow10", laid_internal_strconv_uint64pow10)] }
def ModesCountSaid : Prop := modesCountRow.holds Tryz.pinned (OpenSpec.ofChange modesCountSpec)

/-- ITS FALSE NEIGHBOUR: 'it returns false'. Refute it at one input. -/
def modesCountWrong : ChangeSpec := { name := "modesCount", fn := fun _ => fun
  | [d1, d2, d3, d4] => { results := [.lit (.bool false)], args := [d1, d2, d3, d4] }
  | _ => none }
def ModesCountWrongFalsely : Prop := modesCountRow.holds Tryz.pinned (OpenSpec.ofChange modesCountWrong)

/-- 'gussetlaw22.ModesErrors': WHATEVER THE INPUT: true; the input reads as it did. -/
def modesErrorsSpec : ChangeSpec := { name := "modesErrors", fn := fun _ => fun
  | [d1, d2, d3, d4, d5, d6, d7] => { results := [.lit (.bool true)], args := [d1, d2, d3, d4, d5, d6, d7] }
  | _ => none }
def modesErrorsRow : OpenClaim := { program := "ytfjhnollamkdcaagreatdoor", sum := "3d190179bcf40d25ba9b32c827605ed07dee172e3eba09b7deef1a712cd67fe4", func := "gusset/gussetlaw22.ModesErrors", spec := "modesErrors", inPlace := ["math/bits.Add64", "internal/abi.NoEscape", "internal/bytealg.MakeNoZero"], unfollowed := true, recurses := true, named := ["math/bits.overflowError", "internal/strconv.uint64pow10", "math/bits.deBruijn32tab", "math/bits.deBruijn64tab"], apart := false, laid := [("math/bits.deBruijn32tab", laid_math_bits_deBruijn32tab), ("math/bits.deBruijn64tab", laid_math_bits_deBruijn64tab), ("internal/strconv.uint64pow10", laid_internal_strconv_uint64pow10)] }
def ModesErrorsSaid : Prop := modesErrorsRow.holds Tryz.pinned (OpenSpec.ofChange modesErrorsSpec)

/-- ITS FALSE NEIGHBOUR: 'it returns false'. Refute it at one input. -/
def modesErrorsWrong : ChangeSpec := { name := "modesErrors", fn := fun _ => fun
  | [d1, d2, d3, d4, d5, d6, d7] => { results := [.lit (.bool false)], args := [d1, d2, d3, d4, d5, d6, d7] }
  | _ => none }
def ModesErrorsWrongFalsely : Prop := modesErrorsRow.holds Tryz.pinned (OpenSpec.ofChange modesErrorsWrong)

/-- 'gussetlaw22.ModesBracket': WHATEVER THE INPUT: true; the input reads as it did. -/
def modesBracketSpec : ChangeSpec := { name := "modesBracket", fn := fun _ => fun
  | [d1, d2, d3, d4, d5, d6] => { results := [.lit (.bool true)], args := [d1, d2, d3, d4, d5, d6] }
  | _ => none }
def modesBracketRow : OpenClaim := { program := "ytfjhnollamkdcaagreatdoor", sum := "3d190179bcf40d25ba9b32c827605ed07dee172e3eba09b7deef1a712cd67fe4", func := "gusset/gussetlaw22.ModesBracket", spec := "modesBracket", inPlace := ["math/bits.Add64", "internal/abi.NoEscape", "internal/bytealg.MakeNoZero"], unfollowed := true, recurses := true, named := ["math/bits.overflowError", "internal/strconv.uint64pow10", "math/bits.deBruijn32tab", "math/bits.deBruijn64tab"], apart := false, laid := [("math/bits.deBruijn32tab", laid_math_bits_deBruijn32tab), ("math/bits.deBruijn64tab", laid_math_bits_deBruijn64tab), ("internal/strconv.uint64pow10", laid_internal_strconv_uint64pow10)] }
def ModesBracketSaid : Prop := modesBracketRow.holds Tryz.pinned (OpenSpec.ofChange modesBracketSpec)

/-- ITS FALSE NEIGHBOUR: 'it returns false'. Refute it at one input. -/
def modesBracketWrong : ChangeSpec := { name := "modesBracket", fn := fun _ => fun
  | [d1, d2, d3, d4, d5, d6] => { results := [.lit (.bool false)], args := [d1, d2, d3, d4, d5, d6] }
  | _ => none }
def ModesBracketWrongFalsely : Prop := modesBracketRow.holds Tryz.pinned (OpenSpec.ofChange modesBracketWrong)

/-- 'gussetlaw22.ModesReach': WHATEVER THE INPUT: true; the input reads as it did. -/
def modesReachSpec : ChangeSpec := { name := "modesReach", fn := fun _ => fun
  | [d1, d2, d3] => { results := [.lit (.bool true)], args := [d1, d2, d3] }
  | _ => none }
def modesReachRow : OpenClaim := { program := "ytfjhnollamkdcaagreatdoor", sum := "3d190179bcf40d25ba9b32c827605ed07dee172e3eba09b7deef1a712cd67fe4", func := "gusset/gussetlaw22.ModesReach", spec := "modesReach", inPlace := ["math/bits.Add64", "internal/abi.NoEscape", "internal/bytealg.MakeNoZero"], unfollowed := true, recurses := true, named := ["math/bits.overflowError", "internal/strconv.uint64pow10", "math/bits.deBruijn32tab", "math/bits.deBruijn64tab"], apart := false, laid := [("math/bits.deBruijn32tab", laid_math_bits_deBruijn32tab), ("math/bits.deBruijn64tab", laid_math_bits_deBruijn64tab), ("internal/strconv.uint64pow10", laid_internal_strconv_uint64pow10)] }
def ModesReachSaid : Prop := modesReachRow.holds Tryz.pinned (OpenSpec.ofChange modesReachSpec)

/-- ITS FALSE NEIGHBOUR: 'it returns false'. Refute it at one input. -/
def modesReachWrong : ChangeSpec := { name := "modesReach", fn := fun _ => fun
  | [d1, d2, d3] => { results := [.lit (.bool false)], args := [d1, d2, d3] }
  | _ => none }
def ModesReachWrongFalsely : Prop := modesReachRow.holds Tryz.pinned (OpenSpec.ofChange modesReachWrong)

/-- 'gussetlaw22.ModesShift': WHATEVER THE INPUT: true; the input reads as it did. -/
def modesShiftSpec : ChangeSpec := { name := "modesShift", fn := fun _ => fun
  | [d1, d2, d3, d4, d5, d6] => { results := [.lit (.bool true)], args := [d1, d2, d3, d4, d5, d6] }
  | _ => none }
def modesShiftRow : OpenClaim := { program := "ytfjhnollamkdcaagreatdoor", sum := "3d190179bcf40d25ba9b32c827605ed07dee172e3eba09b7deef1a712cd67fe4", func := "gusset/gussetlaw22.ModesShift", spec := "modesShift", inPlace := ["math/bits.Add64", "internal/abi.NoEscape", "internal/bytealg.MakeNoZero"], unfollowed := true, recurses := true, named := ["math/bits.overflowError", "internal/strconv.uint64pow10", "math/bits.deBruijn32tab", "math/bits.deBruijn64tab"], apart := false, laid := [("math/bits.deBruijn32tab", laid_math_bits_deBruijn32tab), ("math/bits.deBruijn64tab", laid_math_bits_deBruijn64tab), ("internal/strconv.uint64pow10", laid_internal_strconv_uint64pow10)] }
def ModesShiftSaid : Prop := modesShiftRow.holds Tryz.pinned (OpenSpec.ofChange modesShiftSpec)

/-- ITS FALSE NEIGHBOUR: 'it returns false'. Refute it at one input. -/
def modesShiftWrong : ChangeSpec := { name := "modesShift", fn := fun _ => fun
  | [d1, d2, d3, d4, d5, d6] => { results := [.lit (.bool false)], args := [d1, d2, d3, d4, d5, d6] }
  | _ => none }
def ModesShiftWrongFalsely : Prop := modesShiftRow.holds Tryz.pinned (OpenSpec.ofChange modesShiftWrong)

/-- 'gussetlaw22.ModesInterlace': WHATEVER THE INPUT: true; the input reads as it did. -/
def modesInterlaceSpec : ChangeSpec := { name := "modesInterlace", fn := fun _ => fun
  | [d1, d2, d3, d4] => { results := [.lit (.bool true)], args := [d1, d2, d3, d4] }
  | _ => none }
def modesInterlaceRow : OpenClaim := { program := "ytfjhnollamkdcaagreatdoor", sum := "3d190179bcf40d25ba9b32c827605ed07dee172e3eba09b7deef1a712cd67fe4", func := "gusset/gussetlaw22.ModesInterlace", spec := "modesInterlace", inPlace := ["math/bits.Add64", "internal/abi.NoEscape", "internal/bytealg.MakeNoZero"], unfollowed := true, recurses := true, named := ["math/bits.overflowError", "internal/strconv.uint64pow10", "math/bits.deBruijn32tab", "math/bits.deBruijn64tab"], apart := false, laid := [("math/bits.deBruijn32tab", laid_math_bits_deBruijn32tab), ("math/bits.deBruijn64tab", laid_math_bits_deBruijn64tab), ("internal/strconv.uint64pow10", laid_internal_strconv_uint64pow10)] }
def ModesInterlaceSaid : Prop := modesInterlaceRow.holds Tryz.pinned (OpenSpec.ofChange modesInterlaceSpec)

/-- ITS FALSE NEIGHBOUR: 'it returns false'. Refute it at one input. -/
def modesInterlaceWrong : ChangeSpec := { name := "modesInterlace", fn := fun _ => fun
  | [d1, d2, d3, d4] => { results := [.lit (.bool false)], args := [d1, d2, d3, d4] }
  | _ => none }
def ModesInterlaceWrongFalsely : Prop := modesInterlaceRow.holds Tryz.pinned (OpenSpec.ofChange modesInterlaceWrong)

/-- 'gussetlaw22.ModesInertia': WHATEVER THE INPUT: true; the input reads as it did. -/
def modesInertiaSpec : ChangeSpec := { name := "modesInertia", fn := fun _ => fun
  | [d1, d2, d3, d4, d5] => { results := [.lit (.bool true)], args := [d1, d2, d3, d4, d5] }
  | _ => none }
def modesInertiaRow : OpenClaim := { program := "ytfjhnollamkdcaagreatdoor", sum := "3d190179bcf40d25ba9b32c827605ed07dee172e3eba09b7deef1a712cd67fe4", func := "gusset/gussetlaw22.ModesInertia", spec := "modesInertia", inPlace := ["math/bits.Add64", "internal/abi.NoEscape", "internal/bytealg.MakeNoZero"], unfollowed := true, recurses := true, named := ["math/bits.overflowError", "internal/strconv.uint64pow10", "math/bits.deBruijn32tab", "math/bits.deBruijn64tab"], apart := false, laid := [("math/bits.deBruijn32tab", laid_math_bits_deBruijn32tab), ("math/bits.deBruijn64tab", laid_math_bits_deBruijn64tab), ("internal/strconv.uint64pow10", laid_internal_strconv_uint64pow10)] }
def ModesInertiaSaid : Prop := modesInertiaRow.holds Tryz.pinned (OpenSpec.ofChange modesInertiaSpec)

/-- ITS FALSE NEIGHBOUR: 'it returns false'. Refute it at one input. -/
def modesInertiaWrong : ChangeSpec := { name := "modesInertia", fn := fun _ => fun
  | [d1, d2, d3, d4, d5] => { results := [.lit (.bool false)], args := [d1, d2, d3, d4, d5] }
  | _ => none }
def ModesInertiaWrongFalsely : Prop := modesInertiaRow.holds Tryz.pinned (OpenSpec.ofChange modesInertiaWrong)

/-- 'gussetlaw22.ModesQuotient': WHATEVER THE INPUT: true; the input reads as it did. -/
def modesQuotientSpec : ChangeSpec := { name := "modesQuotient", fn := fun _ => fun
  | [d1, d2, d3, d4, d5, d6] => { results := [.lit (.bool true)], args := [d1, d2, d3, d4, d5, d6] }
  | _ => none }
def modesQuotientRow : OpenClaim := { program := "ytfjhnollamkdcaagreatdoor", sum := "3d190179bcf40d25ba9b32c827605ed07dee172e3eba09b7deef1a712cd67fe4", func := "gusset/gussetlaw22.ModesQuotient", spec := "modesQuotient", inPlace := ["math/bits.Add64", "internal/abi.NoEscape", "internal/bytealg.MakeNoZero"], unfollowed := true, recurses := true, named := ["math/bits.overflowError", "internal/strconv.uint64pow10", "math/bits.deBruijn32tab", "math/bits.deBruijn64tab"], apart := false, laid := [("math/bits.deBruijn32tab", laid_math_bits_deBruijn32tab), ("math/bits.deBruijn64tab", laid_math_bits_deBruijn64tab), ("internal/strconv.uint64pow10", laid_internal_strconv_uint64pow10)] }
def ModesQuotientSaid : Prop := modesQuotientRow.holds Tryz.pinned (OpenSpec.ofChange modesQuotientSpec)

/-- ITS FALSE NEIGHBOUR: 'it returns false'. Refute it at one input. -/
def modesQuotientWrong : ChangeSpec := { name := "modesQuotient", fn := fun _ => fun
  | [d1, d2, d3, d4, d5, d6] => { results := [.lit (.bool false)], args := [d1, d2, d3, d4, d5, d6] }
  | _ => none }
def ModesQuotientWrongFalsely : Prop := modesQuotientRow.holds Tryz.pinned (OpenSpec.ofChange modesQuotientWrong)

/- THE SECOND FORM. 'bulk': how many values and letters a reading holds, each counted each time it is reached (what is shared counts as often as it is met; a slice's spare places count too). A statement '..UptoSaid' is the law's where the arguments, and the package variables that the reading takes, are together of bulk at most 1048576: NARROWER than '..Said'. Prove '..Said' where nothing that the law and all that it calls make is longer than what came in: it says more and counts as full. Else prove '..UptoSaid'. A law counts once. -/
mutual
def uptoBulk {H : Type} : DataW H → Nat
  | .lit (.string bytes) => bytes.length + 1
  | .lit _ => 1
  | .nil => 1
  | .ptr d => uptoBulk d + 1
  | .slice elems spare => uptoBulkAll elems + uptoBulkAll spare + 1
  | .agg parts => uptoBulkAll parts + 1
  | .iface _ d => uptoBulk d + 1
  | .map entries => uptoBulkEntries entries + 1
  | .held _ => 1
def uptoBulkAll {H : Type} : List (DataW H) → Nat
  | [] => 0
  | d :: r => uptoBulk d + uptoBulkAll r
def uptoBulkEntries {H : Type} : List (Lit × DataW H) → Nat
  | [] => 0
  | x :: r => uptoBulkEntry x + uptoBulkEntries r
def uptoBulkEntry {H : Type} : Lit × DataW H → Nat
  | (.string bytes, d) => bytes.length + uptoBulk d + 1
  | (_, d) => uptoBulk d + 1
 end
def uptoSmall : (H : Type) → List (DataW H) → Bool := fun _ ds => decide (uptoBulkAll ds ≤ 1048576)
def OpenSpec.upto (s : _root_.Go.ChangeSpec) : _root_.Go.OpenSpec := { _root_.Go.OpenSpec.ofChange s with cond := some uptoSmall }

/-- 'gussetlaw22.ModesCount', WHERE WHAT IT READS IS OF BULK AT MOST 1048576: true; the input reads as it did. -/
def modesCountUptoRow : OpenClaim := { program := "ytfjhnollamkdcaagreatdoor", sum := "3d190179bcf40d25ba9b32c827605ed07dee172e3eba09b7deef1a712cd67fe4", func := "gusset/gussetlaw22.ModesCount", spec := "modesCount", inPlace := ["math/bits.Add64", "internal/abi.NoEscape", "internal/bytealg.MakeNoZero"], unfollowed := true, recurses := true, named := ["math/bits.overflowError", "internal/strconv.uint64pow10", "math/bits.deBruijn32tab", "math/bits.deBruijn64tab"], apart := false, laid := [("math/bits.deBruijn32tab", laid_math_bits_deBruijn32tab), ("math/bits.deBruijn64tab", laid_math_bits_deBruijn64tab), ("internal/strconv.uint64pow10", laid_internal_strconv_uint64pow10)], narrowed := true }
def ModesCountUptoSaid : Prop := modesCountUptoRow.holds Tryz.pinned (OpenSpec.upto modesCountSpec)

/-- 'gussetlaw22.ModesErrors', WHERE WHAT IT READS IS OF BULK AT MOST 1048576: true; the input reads as it did. -/
def modesErrorsUptoRow : OpenClaim := { program := "ytfjhnollamkdcaagreatdoor", sum := "3d190179bcf40d25ba9b32c827605ed07dee172e3eba09b7deef1a712cd67fe4", func := "gusset/gussetlaw22.ModesErrors", spec := "modesErrors", inPlace := ["math/bits.Add64", "internal/abi.NoEscape", "internal/bytealg.MakeNoZero"], unfollowed := true, recurses := true, named := ["math/bits.overflowError", "internal/strconv.uint64pow10", "math/bits.deBruijn32tab", "math/bits.deBruijn64tab"], apart := false, laid := [("math/bits.deBruijn32tab", laid_math_bits_deBruijn32tab), ("math/bits.deBruijn64tab", laid_math_bits_deBruijn64tab), ("internal/strconv.uint64pow10", laid_internal_strconv_uint64pow10)], narrowed := true }
def ModesErrorsUptoSaid : Prop := modesErrorsUptoRow.holds Tryz.pinned (OpenSpec.upto modesErrorsSpec)

/-- 'gussetlaw22.ModesBracket', WHERE WHAT IT READS IS OF BULK AT MOST 1048576: true; the input reads as it did. -/
def modesBracketUptoRow : OpenClaim := { program := "ytfjhnollamkdcaagreatdoor", sum := "3d190179bcf40d25ba9b32c827605ed07dee172e3eba09b7deef1a712cd67fe4", func := "gusset/gussetlaw22.ModesBracket", spec := "modesBracket", inPlace := ["math/bits.Add64", "internal/abi.NoEscape", "internal/bytealg.MakeNoZero"], unfollowed := true, recurses := true, named := ["math/bits.overflowError", "internal/strconv.uint64pow10", "math/bits.deBruijn32tab", "math/bits.deBruijn64tab"], apart := false, laid := [("math/bits.deBruijn32tab", laid_math_bits_deBruijn32tab), ("math/bits.deBruijn64tab", laid_math_bits_deBruijn64tab), ("internal/strconv.uint64pow10", laid_internal_strconv_uint64pow10)], narrowed := true }
def ModesBracketUptoSaid : Prop := modesBracketUptoRow.holds Tryz.pinned (OpenSpec.upto modesBracketSpec)

/-- 'gussetlaw22.ModesReach', WHERE WHAT IT READS IS OF BULK AT MOST 1048576: true; the input reads as it did. -/
def modesReachUptoRow : OpenClaim := { program := "ytfjhnollamkdcaagreatdoor", sum := "3d190179bcf40d25ba9b32c827605ed07dee172e3eba09b7deef1a712cd67fe4", func := "gusset/gussetlaw22.ModesReach", spec := "modesReach", inPlace := ["math/bits.Add64", "internal/abi.NoEscape", "internal/bytealg.MakeNoZero"], unfollowed := true, recurses := true, named := ["math/bits.overflowError", "internal/strconv.uint64pow10", "math/bits.deBruijn32tab", "math/bits.deBruijn64tab"], apart := false, laid := [("math/bits.deBruijn32tab", laid_math_bits_deBruijn32tab), ("math/bits.deBruijn64tab", laid_math_bits_deBruijn64tab), ("internal/strconv.uint64pow10", laid_internal_strconv_uint64pow10)], narrowed := true }
def ModesReachUptoSaid : Prop := modesReachUptoRow.holds Tryz.pinned (OpenSpec.upto modesReachSpec)

/-- 'gussetlaw22.ModesShift', WHERE WHAT IT READS IS OF BULK AT MOST 1048576: true; the input reads as it did. -/
def modesShiftUptoRow : OpenClaim := { program := "ytfjhnollamkdcaagreatdoor", sum := "3d190179bcf40d25ba9b32c827605ed07dee172e3eba09b7deef1a712cd67fe4", func := "gusset/gussetlaw22.ModesShift", spec := "modesShift", inPlace := ["math/bits.Add64", "internal/abi.NoEscape", "internal/bytealg.MakeNoZero"], unfollowed := true, recurses := true, named := ["math/bits.overflowError", "internal/strconv.uint64pow10", "math/bits.deBruijn32tab", "math/bits.deBruijn64tab"], apart := false, laid := [("math/bits.deBruijn32tab", laid_math_bits_deBruijn32tab), ("math/bits.deBruijn64tab", laid_math_bits_deBruijn64tab), ("internal/strconv.uint64pow10", laid_internal_strconv_uint64pow10)], narrowed := true }
def ModesShiftUptoSaid : Prop := modesShiftUptoRow.holds Tryz.pinned (OpenSpec.upto modesShiftSpec)

/-- 'gussetlaw22.ModesInterlace', WHERE WHAT IT READS IS OF BULK AT MOST 1048576: true; the input reads as it did. -/
def modesInterlaceUptoRow : OpenClaim := { program := "ytfjhnollamkdcaagreatdoor", sum := "3d190179bcf40d25ba9b32c827605ed07dee172e3eba09b7deef1a712cd67fe4", func := "gusset/gussetlaw22.ModesInterlace", spec := "modesInterlace", inPlace := ["math/bits.Add64", "internal/abi.NoEscape", "internal/bytealg.MakeNoZero"], unfollowed := true, recurses := true, named := ["math/bits.overflowError", "internal/strconv.uint64pow10", "math/bits.deBruijn32tab", "math/bits.deBruijn64tab"], apart := false, laid := [("math/bits.deBruijn32tab", laid_math_bits_deBruijn32tab), ("math/bits.deBruijn64tab", laid_math_bits_deBruijn64tab), ("internal/strconv.uint64pow10", laid_internal_strconv_uint64pow10)], narrowed := true }
def ModesInterlaceUptoSaid : Prop := modesInterlaceUptoRow.holds Tryz.pinned (OpenSpec.upto modesInterlaceSpec)

/-- 'gussetlaw22.ModesInertia', WHERE WHAT IT READS IS OF BULK AT MOST 1048576: true; the input reads as it did. -/
def modesInertiaUptoRow : OpenClaim := { program := "ytfjhnollamkdcaagreatdoor", sum := "3d190179bcf40d25ba9b32c827605ed07dee172e3eba09b7deef1a712cd67fe4", func := "gusset/gussetlaw22.ModesInertia", spec := "modesInertia", inPlace := ["math/bits.Add64", "internal/abi.NoEscape", "internal/bytealg.MakeNoZero"], unfollowed := true, recurses := true, named := ["math/bits.overflowError", "internal/strconv.uint64pow10", "math/bits.deBruijn32tab", "math/bits.deBruijn64tab"], apart := false, laid := [("math/bits.deBruijn32tab", laid_math_bits_deBruijn32tab), ("math/bits.deBruijn64tab", laid_math_bits_deBruijn64tab), ("internal/strconv.uint64pow10", laid_internal_strconv_uint64pow10)], narrowed := true }
def ModesInertiaUptoSaid : Prop := modesInertiaUptoRow.holds Tryz.pinned (OpenSpec.upto modesInertiaSpec)

/-- 'gussetlaw22.ModesQuotient', WHERE WHAT IT READS IS OF BULK AT MOST 1048576: true; the input reads as it did. -/
def modesQuotientUptoRow : OpenClaim := { program := "ytfjhnollamkdcaagreatdoor", sum := "3d190179bcf40d25ba9b32c827605ed07dee172e3eba09b7deef1a712cd67fe4", func := "gusset/gussetlaw22.ModesQuotient", spec := "modesQuotient", inPlace := ["math/bits.Add64", "internal/abi.NoEscape", "internal/bytealg.MakeNoZero"], unfollowed := true, recurses := true, named := ["math/bits.overflowError", "internal/strconv.uint64pow10", "math/bits.deBruijn32tab", "math/bits.deBruijn64tab"], apart := false, laid := [("math/bits.deBruijn32tab", laid_math_bits_deBruijn32tab), ("math/bits.deBruijn64tab", laid_math_bits_deBruijn64tab), ("internal/strconv.uint64pow10", laid_internal_strconv_uint64pow10)], narrowed := true }
def ModesQuotientUptoSaid : Prop := modesQuotientUptoRow.holds Tryz.pinned (OpenSpec.upto modesQuotientSpec)

end Rows
end Go.Proofs.YtfjhnollamkdcaaGreatDoor
