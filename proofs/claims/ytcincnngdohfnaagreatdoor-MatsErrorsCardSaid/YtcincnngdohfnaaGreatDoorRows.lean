/-
  NARROWER THAN 'FOR EVERY INPUT', by the rows' own cells (each row's printed sentence says how): MatsForms: laid · MatsMakes: laid · MatsPlays: laid · MatsRing: laid · MatsApply: laid · MatsErrors: laid · MatsParts: laid · MatsKnown: laid.
  DERIVED. THE GIVEN ROWS OF THIS SEAT. 8 by the template 'for every input the law returns true; each argument reads behind the call as it read before'; 0 by the template 'total and deterministic' (their statements: YtcincnngdohfnaaGreatDoorTotals.lean).
  GIVEN WITH THE SEED: the statements are not yours to turn. If you find one false, say at which input.
  Laid BY PROGRAM, IN A SANDBOX (cutbox-rows.mjs): the forced cells as the released guide's own fill.sh prints them over the translation 53fd4973ebf982de… (all of the seat's roots in one cut). By AI agents, Wed Nov 11 2026. No macro, syntax, notation, axiom, sorry.
-/
import Derived.Test.YtcincnngdohfnaaGreatDoorChecked
import GoSem.Claim
import GoSem.ClaimJoined
import GoSem.ClaimMapViews
import Derived.JoinedTies
import Derived.KernelRfl
namespace Go.Proofs.YtcincnngdohfnaaGreatDoor
/- THE CELL 'sum', in the pinned program and in every row, IS THE sha256 OF THE DUMP (.gsa) THAT YtcincnngdohfnaaGreatDoorProg.lean LOADS. Nothing in Lean hashes anything: it is a label: what it is worth is what the hold of that sum in a sandbox is worth. -/
noncomputable def Tryz.pinned : Pinned := { name := "ytcincnngdohfnaagreatdoor", sum := "53fd4973ebf982debdd3a05164dd91ad24c603b0872ee8f1bfb99bf7970e6664", checked := Tryz.checked }
namespace Rows
def none {H : Type} : Left H := { results := [], args := [] }

/- WHAT THE LISTED PACKAGE-LEVEL VARIABLES READ AS WHEN THE CALL BEGINS. Each datum BY PROGRAM (the guide's laid-datum.mjs) off the statement by which the dump's own 'gosem.cut.vars' lays the variable. In a bare row this is a premise. The card (YtcincnngdohfnaaGreatDoorCards.lean) ties it to the program's text. -/
def laid_math_bits_deBruijn32tab {H : Type} : DataW H := .agg [.lit (.int .u8 0), .lit (.int .u8 1), .lit (.int .u8 28), .lit (.int .u8 2), .lit (.int .u8 29), .lit (.int .u8 14), .lit (.int .u8 24), .lit (.int .u8 3), .lit (.int .u8 30), .lit (.int .u8 22), .lit (.int .u8 20), .lit (.int .u8 15), .lit (.int .u8 25), .lit (.int .u8 17), .lit (.int .u8 4), .lit (.int .u8 8), .lit (.int .u8 31), .lit (.int .u8 27), .lit (.int .u8 13), .lit (.int .u8 23), .lit (.int .u8 21), .lit (.int .u8 19), .lit (.int .u8 16), .lit (.int .u8 7), .lit (.int .u8 26), .lit (.int .u8 12), .lit (.int .u8 18), .lit (.int .u8 6), .lit (.int .u8 11), .lit (.int .u8 5), .lit (.int .u8 10), .lit (.int .u8 9)]
def laid_math_bits_deBruijn64tab {H : Type} : DataW H := .agg [.lit (.int .u8 0), .lit (.int .u8 1), .lit (.int .u8 56), .lit (.int .u8 2), .lit (.int .u8 57), .lit (.int .u8 49), .lit (.int .u8 28), .lit (.int .u8 3), .lit (.int .u8 61), .lit (.int .u8 58), .lit (.int .u8 42), .lit (.int .u8 50), .lit (.int .u8 38), .lit (.int .u8 29), .lit (.int .u8 17), .lit (.int .u8 4), .lit (.int .u8 62), .lit (.int .u8 47), .lit (.int .u8 59), .lit (.int .u8 36), .lit (.int .u8 45), .lit (.int .u8 43), .lit (.int .u8 51), .lit (.int .u8 22), .lit (.int .u8 53), .lit (.int .u8 39), .lit (.int .u8 33), .lit (.int .u8 30), .lit (.int .u8 24), .lit (.int .u8 18), .lit (.int .u8 12), .lit (.int .u8 5), .lit (.int .u8 63), .lit (.int .u8 55), .lit (.int .u8 48), .lit (.int .u8 27), .lit (.int .u8 60), .lit (.int .u8 41), .lit (.int .u8 37), .lit (.int .u8 16), .lit (.int .u8 46), .lit (.int .u8 35), .lit (.int .u8 44), .lit (.int .u8 21), .lit (.int .u8 52), .lit (.int .u8 32), .lit (.int .u8 23), .lit (.int .u8 11), .lit (.int .u8 54), .lit (.int .u8 26), .lit (.int .u8 40), .lit (.int .u8 15), .lit (.int .u8 34), .lit (.int .u8 20), .lit (.int .u8 31), .lit (.int .u8 10), .lit (.int .u8 25), .lit (.int .u8 14), .lit (.int .u8 19), .lit (.int .u8 9), .lit (.int .u8 13), .lit (.int .u8 8), .lit (.int .u8 7), .lit (.int .u8 6)]
def laid_internal_strconv_uint64pow10 {H : Type} : DataW H := .agg [.lit (.int .u64 1), .lit (.int .u64 10), .lit (.int .u64 100), .lit (.int .u64 1000), .lit (.int .u64 10000), .lit (.int .u64 100000), .lit (.int .u64 1000000), .lit (.int .u64 10000000), .lit (.int .u64 100000000), .lit (.int .u64 1000000000), .lit (.int .u64 10000000000), .lit (.int .u64 100000000000), .lit (.int .u64 1000000000000), .lit (.int .u64 10000000000000), .lit (.int .u64 100000000000000), .lit (.int .u64 1000000000000000), .lit (.int .u64 10000000000000000), .lit (.int .u64 100000000000000000), .lit (.int .u64 1000000000000000000), .lit (.int .u64 10000000000000000000)]

/-- 'gussetlaw13.MatsForms': WHATEVER THE INPUT: true; the input reads as it did. -/
def matsFormsSpec : ChangeSpec := { name := "matsForms", fn := fun _ => fun
  | [d1, d2, d3, d4] => { results := [.lit (.bool true)], args := [d1, d2, d3, d4] }
  | _ => none }
def matsFormsRow : OpenClaim := { program := "ytcincnngdohfnaagreatdoor", sum := "53fd4973ebf982debdd3a05164dd91ad24c603b0872ee8f1bfb99bf7970e6664", func := "gusset/gussetlaw13.MatsForms", spec := "matsForms", inPlace := ["math/bits.Add64", "internal/abi.NoEscape", "internal/bytealg.MakeNoZero"], unfollowed := true, recurses := true, named := ["math/bits.overflowError", "internal/strconv.uint64pow10", "math/bits.deBruijn32tab", "math/bits.deBruijn64tab"], apart := false, laid := [("math/bits.deBruijn32tab", laid_math_bits_deBruijn32tab), ("math/bits.deBruijn64tab", laid_math_bits_deBruijn64tab), ("internal/strconv.uint64pow10", laid_internal_strconv_uint64pow10)] }
def MatsFormsSaid : Prop := matsFormsRow.holds Tryz.pinned (OpenSpec.ofChange matsFormsSpec)

/-- ITS FALSE NEIGHBOUR: 'it returns false'. Refute it at one input. -/
def matsFormsWrong : ChangeSpec := { name := "matsForms", fn := fun _ => fun
  | [d1, d2, d3, d4] => { results := [.lit (.bool false)], args := [d1, d2, d3, d4] }
  | _ => none }
def MatsFormsWrongFalsely : Prop := matsFormsRow.holds Tryz.pinned (OpenSpec.ofChange matsFormsWrong)

/-- 'gussetlaw13.MatsMakes': WHATEVER THE INPUT: true; the input reads as it did. -/
def matsMakesSpec : ChangeSpec := { name := "matsMakes", fn := fun _ => fun
  | [d1, d2, d3] => { results := [.lit (.bool true)], args := [d1, d2, d3] }
  | _ => none }
def matsMakesRow : OpenClaim := { program := "ytcincnngdohfnaagreatdoor", sum := "53fd4973ebf982debdd3a05164dd91ad24c603b0872ee8f1bfb99bf7970e6664", func := "gusset/gussetlaw13.MatsMakes", spec := "matsMakes", inPlace := ["math/bits.Add64", "internal/abi.NoEscape", "internal/bytealg.MakeNoZero"], unfollowed := true, recurses := true, named := ["math/bits.overflowError", "internal/strconv.uint64pow10", "math/bits.deBruijn32tab", "math/bits.deBruijn64tab"], apart := false, laid := [("math/bits.deBruijn32tab", laid_math_bits_deBruijn32tab), ("math/bits.deBruijn64tab", laid_math_bits_deBruijn64tab), ("internal/strconv.uint64pow10", laid_internal_strconv_uint64pow10)] }
def MatsMakesSaid : Prop := matsMakesRow.holds Tryz.pinned (OpenSpec.ofChange matsMakesSpec)

/-- ITS FALSE NEIGHBOUR: 'it returns false'. Refute it at one input. -/
def matsMakesWrong : ChangeSpec := { name := "matsMakes", fn := fun _ => fun
  | [d1, d2, d3] => { results := [.lit (.bool false)], args := [d1, d2, d3] }
  | _ => none }
def MatsMakesWrongFalsely : Prop := matsMakesRow.holds Tryz.pinned (OpenSpec.ofChange matsMakesWrong)

/-- 'gussetlaw13.MatsPlays': WHATEVER THE INPUT: true; the input reads as it did. -/
def matsPlaysSpec : ChangeSpec := { name := "matsPlays", fn := fun _ => fun
  | [d1, d2, d3] => { results := [.lit (.bool true)], args := [d1, d2, d3] }
  | _ => none }
def matsPlaysRow : OpenClaim := { program := "ytcincnngdohfnaagreatdoor", sum := "53fd4973ebf982debdd3a05164dd91ad24c603b0872ee8f1bfb99bf7970e6664", func := "gusset/gussetlaw13.MatsPlays", spec := "matsPlays", inPlace := ["math/bits.Add64", "internal/abi.NoEscape", "internal/bytealg.MakeNoZero"], unfollowed := true, recurses := true, named := ["math/bits.overflowError", "internal/strconv.uint64pow10", "math/bits.deBruijn32tab", "math/bits.deBruijn64tab"], apart := false, laid := [("math/bits.deBruijn32tab", laid_math_bits_deBruijn32tab), ("math/bits.deBruijn64tab", laid_math_bits_deBruijn64tab), ("internal/strconv.uint64pow10", laid_internal_strconv_uint64pow10)] }
def MatsPlaysSaid : Prop := matsPlaysRow.holds Tryz.pinned (OpenSpec.ofChange matsPlaysSpec)

/-- ITS FALSE NEIGHBOUR: 'it returns false'. Refute it at one input. -/
def matsPlaysWrong : ChangeSpec := { name := "matsPlays", fn := fun _ => fun
  | [d1, d2, d3] => { results := [.lit (.bool false)], args := [d1, d2, d3] }
  | _ => none }
def MatsPlaysWrongFalsely : Prop := matsPlaysRow.holds Tryz.pinned (OpenSpec.ofChange matsPlaysWrong)

/-- 'gussetlaw13.MatsRing': WHATEVER THE INPUT: true; the input reads as it did. -/
def matsRingSpec : ChangeSpec := { name := "matsRing", fn := fun _ => fun
  | [d1, d2, d3, d4, d5, d6, d7, d8] => { results := [.lit (.bool true)], args := [d1, d2, d3, d4, d5, d6, d7, d8] }
  | _ => none }
def matsRingRow : OpenClaim := { program := "ytcincnngdohfnaagreatdoor", sum := "53fd4973ebf982debdd3a05164dd91ad24c603b0872ee8f1bfb99bf7970e6664", func := "gusset/gussetlaw13.MatsRing", spec := "matsRing", inPlace := ["math/bits.Add64", "internal/abi.NoEscape", "internal/bytealg.MakeNoZero"], unfollowed := true, recurses := true, named := ["math/bits.overflowError", "internal/strconv.uint64pow10", "math/bits.deBruijn32tab", "math/bits.deBruijn64tab"], apart := false, laid := [("math/bits.deBruijn32tab", laid_math_bits_deBruijn32tab), ("math/bits.deBruijn64tab", laid_math_bits_deBruijn64tab), ("internal/strconv.uint64pow10", laid_internal_strconv_uint64pow10)] }
def MatsRingSaid : Prop := matsRingRow.holds Tryz.pinned (OpenSpec.ofChange matsRingSpec)

/-- ITS FALSE NEIGHBOUR: 'it returns false'. Refute it at one input. -/
def matsRingWrong : ChangeSpec := { name := "matsRing", fn := fun _ => fun
  | [d1, d2, d3, d4, d5, d6, d7, d8] => { results := [.lit (.bool false)], args := [d1, d2, d3, d4, d5, d6, d7, d8] }
  | _ => none }
def MatsRingWrongFalsely : Prop := matsRingRow.holds Tryz.pinned (OpenSpec.ofChange matsRingWrong)

/-- 'gussetlaw13.MatsApply': WHATEVER THE INPUT: true; the input reads as it did. -/
def matsApplySpec : ChangeSpec := { name := "matsApply", fn := fun _ => fun
  | [d1, d2, d3] => { results := [.lit (.bool true)], args := [d1, d2, d3] }
  | _ => none }
def matsApplyRow : OpenClaim := { program := "ytcincnngdohfnaagreatdoor", sum := "53fd4973ebf982debdd3a05164dd91ad24c603b0872ee8f1bfb99bf7970e6664", func := "gusset/gussetlaw13.MatsApply", spec := "matsApply", inPlace := ["math/bits.Add64", "internal/abi.NoEscape", "internal/bytealg.MakeNoZero"], unfollowed := true, recurses := true, named := ["math/bits.overflowError", "internal/strconv.uint64pow10", "math/bits.deBruijn32tab", "math/bits.deBruijn64tab"], apart := false, laid := [("math/bits.deBruijn32tab", laid_math_bits_deBruijn32tab), ("math/bits.deBruijn64tab", laid_math_bits_deBruijn64tab), ("internal/strconv.uint64pow10", laid_internal_strconv_uint64pow10)] }
def MatsApplySaid : Prop := matsApplyRow.holds Tryz.pinned (OpenSpec.ofChange matsApplySpec)

/-- ITS FALSE NEIGHBOUR: 'it returns false'. Refute it at one input. -/
def matsApplyWrong : ChangeSpec := { name := "matsApply", fn := fun _ => fun
  | [d1, d2, d3] => { results := [.lit (.bool false)], args := [d1, d2, d3] }
  | _ => none }
def MatsApplyWrongFalsely : Prop := matsApplyRow.holds Tryz.pinned (OpenSpec.ofChange matsApplyWrong)

/-- 'gussetlaw13.MatsErrors': WHATEVER THE INPUT: true; the input reads as it did. -/
def matsErrorsSpec : ChangeSpec := { name := "matsErrors", fn := fun _ => fun
  | [d1, d2, d3, d4, d5] => { results := [.lit (.bool true)], args := [d1, d2, d3, d4, d5] }
  | _ => none }
def matsErrorsRow : OpenClaim := { program := "ytcincnngdohfnaagreatdoor", sum := "53fd4973ebf982debdd3a05164dd91ad24c603b0872ee8f1bfb99bf7970e6664", func := "gusset/gussetlaw13.MatsErrors", spec := "matsErrors", inPlace := ["math/bits.Add64", "internal/abi.NoEscape", "internal/bytealg.MakeNoZero"], unfollowed := true, recurses := true, named := ["math/bits.overflowError", "internal/strconv.uint64pow10", "math/bits.deBruijn32tab", "math/bits.deBruijn64tab"], apart := false, laid := [("math/bits.deBruijn32tab", laid_math_bits_deBruijn32tab), ("math/bits.deBruijn64tab", laid_math_bits_deBruijn64tab), ("internal/strconv.uint64pow10", laid_internal_strconv_uint64pow10)] }
def MatsErrorsSaid : Prop := matsErrorsRow.holds Tryz.pinned (OpenSpec.ofChange matsErrorsSpec)

/-- ITS FALSE NEIGHBOUR: 'it returns false'. Refute it at one input. -/
def matsErrorsWrong : ChangeSpec := { name := "matsErrors", fn := fun _ => fun
  | [d1, d2, d3, d4, d5] => { results := [.lit (.bool false)], args := [d1, d2, d3, d4, d5] }
  | _ => none }
def MatsErrorsWrongFalsely : Prop := matsErrorsRow.holds Tryz.pinned (OpenSpec.ofChange matsErrorsWrong)

/-- 'gussetlaw13.MatsParts': WHATEVER THE INPUT: true; the input reads as it did. -/
def matsPartsSpec : ChangeSpec := { name := "matsParts", fn := fun _ => fun
  | [d1, d2, d3, d4] => { results := [.lit (.bool true)], args := [d1, d2, d3, d4] }
  | _ => none }
def matsPartsRow : OpenClaim := { program := "ytcincnngdohfnaagreatdoor", sum := "53fd4973ebf982debdd3a05164dd91ad24c603b0872ee8f1bfb99bf7970e6664", func := "gusset/gussetlaw13.MatsParts", spec := "matsParts", inPlace := ["math/bits.Add64", "internal/abi.NoEscape", "internal/bytealg.MakeNoZero"], unfollowed := true, recurses := true, named := ["math/bits.overflowError", "internal/strconv.uint64pow10", "math/bits.deBruijn32tab", "math/bits.deBruijn64tab"], apart := false, laid := [("math/bits.deBruijn32tab", laid_math_bits_deBruijn32tab), ("math/bits.deBruijn64tab", laid_math_bits_deBruijn64tab), ("internal/strconv.uint64pow10", laid_internal_strconv_uint64pow10)] }
def MatsPartsSaid : Prop := matsPartsRow.holds Tryz.pinned (OpenSpec.ofChange matsPartsSpec)

/-- ITS FALSE NEIGHBOUR: 'it returns false'. Refute it at one input. -/
def matsPartsWrong : ChangeSpec := { name := "matsParts", fn := fun _ => fun
  | [d1, d2, d3, d4] => { results := [.lit (.bool false)], args := [d1, d2, d3, d4] }
  | _ => none }
def MatsPartsWrongFalsely : Prop := matsPartsRow.holds Tryz.pinned (OpenSpec.ofChange matsPartsWrong)

/-- 'gussetlaw13.MatsKnown': WHATEVER THE INPUT: true; the input reads as it did. -/
def matsKnownSpec : ChangeSpec := { name := "matsKnown", fn := fun _ => fun
  | [] => { results := [.lit (.bool true)], args := [] }
  | _ => none }
def matsKnownRow : OpenClaim := { program := "ytcincnngdohfnaagreatdoor", sum := "53fd4973ebf982debdd3a05164dd91ad24c603b0872ee8f1bfb99bf7970e6664", func := "gusset/gussetlaw13.MatsKnown", spec := "matsKnown", inPlace := ["math/bits.Add64", "internal/abi.NoEscape", "internal/bytealg.MakeNoZero"], unfollowed := true, recurses := true, named := ["math/bits.overflowError", "internal/strconv.uint64pow10", "math/bits.deBruijn32tab", "math/bits.deBruijn64tab"], apart := false, laid := [("math/bits.deBruijn32tab", laid_math_bits_deBruijn32tab), ("math/bits.deBruijn64tab", laid_math_bits_deBruijn64tab), ("internal/strconv.uint64pow10", laid_internal_strconv_uint64pow10)] }
def MatsKnownSaid : Prop := matsKnownRow.holds Tryz.pinned (OpenSpec.ofChange matsKnownSpec)

/-- ITS FALSE NEIGHBOUR: 'it returns false'. Refute it at one input. -/
def matsKnownWrong : ChangeSpec := { name := "matsKnown", fn := fun _ => fun
  | [] => { results := [.lit (.bool false)], args := [] }
  | _ => none }
def MatsKnownWrongFalsely : Prop := matsKnownRow.holds Tryz.pinned (OpenSpec.ofChange matsKnownWrong)

/- THE SECOND FORM. 'bulk': how many values and letters a reading holds, each counted each time it is reached (what is shared counts as often as it is met; a slice's spare places count too). A statement '..UptoSaid' is the law's where the arguments, and the package variables that the reading takes, are together of bulk at most 1048576: NARROWER than '..Said'. Prove '..Said' where nothing that the law and all that it calls make is longer than what came in: it says more and counts as full. Else prove '..UptoSaid'. A law counts once. -/
mutual
def uptoBulk {H : Type} : DataW H → Nat
  | .lit (.string bytes) => bytes.length + 1
  | .lit _ => 1
  | .nil => 1
  | .ptr d => uptoBulk d + 1
  | .slice elems spare => uptoBulkAll elems + uptoBulkAll spare + 1
  | .agg parts => uptoBulkAll parts + 1
  | .iface _ d => uptoBulk d + 1
  | .map entries => uptoBulkEntries entries + 1
  | .held _ => 1
def uptoBulkAll {H : Type} : List (DataW H) → Nat
  | [] => 0
  | d :: r => uptoBulk d + uptoBulkAll r
def uptoBulkEntries {H : Type} : List (Lit × DataW H) → Nat
  | [] => 0
  | x :: r => uptoBulkEntry x + uptoBulkEntries r
def uptoBulkEntry {H : Type} : Lit × DataW H → Nat
  | (.string bytes, d) => bytes.length + uptoBulk d + 1
  | (_, d) => uptoBulk d + 1
 end
def uptoSmall : (H : Type) → List (DataW H) → Bool := fun _ ds => decide (uptoBulkAll ds ≤ 1048576)
def OpenSpec.upto (s : _root_.Go.ChangeSpec) : _root_.Go.OpenSpec := { _root_.Go.OpenSpec.ofChange s with cond := some uptoSmall }

/-- 'gussetlaw13.MatsForms', WHERE WHAT IT READS IS OF BULK AT MOST 1048576: true; the input reads as it did. -/
def matsFormsUptoRow : OpenClaim := { program := "ytcincnngdohfnaagreatdoor", sum := "53fd4973ebf982debdd3a05164dd91ad24c603b0872ee8f1bfb99bf7970e6664", func := "gusset/gussetlaw13.MatsForms", spec := "matsForms", inPlace := ["math/bits.Add64", "internal/abi.NoEscape", "internal/bytealg.MakeNoZero"], unfollowed := true, recurses := true, named := ["math/bits.overflowError", "internal/strconv.uint64pow10", "math/bits.deBruijn32tab", "math/bits.deBruijn64tab"], apart := false, laid := [("math/bits.deBruijn32tab", laid_math_bits_deBruijn32tab), ("math/bits.deBruijn64tab", laid_math_bits_deBruijn64tab), ("internal/strconv.uint64pow10", laid_internal_strconv_uint64pow10)], narrowed := true }
def MatsFormsUptoSaid : Prop := matsFormsUptoRow.holds Tryz.pinned (OpenSpec.upto matsFormsSpec)

/-- 'gussetlaw13.MatsMakes', WHERE WHAT IT READS IS OF BULK AT MOST 1048576: true; the input reads as it did. -/
def matsMakesUptoRow : OpenClaim := { program := "ytcincnngdohfnaagreatdoor", sum := "53fd4973ebf982debdd3a05164dd91ad24c603b0872ee8f1bfb99bf7970e6664", func := "gusset/gussetlaw13.MatsMakes", spec := "matsMakes", inPlace := ["math/bits.Add64", "internal/abi.NoEscape", "internal/bytealg.MakeNoZero"], unfollowed := true, recurses := true, named := ["math/bits.overflowError", "internal/strconv.uint64pow10", "math/bits.deBruijn32tab", "math/bits.deBruijn64tab"], apart := false, laid := [("math/bits.deBruijn32tab", laid_math_bits_deBruijn32tab), ("math/bits.deBruijn64tab", laid_math_bits_deBruijn64tab), ("internal/strconv.uint64pow10", laid_internal_strconv_uint64pow10)], narrowed := true }
def MatsMakesUptoSaid : Prop := matsMakesUptoRow.holds Tryz.pinned (OpenSpec.upto matsMakesSpec)

/-- 'gussetlaw13.MatsPlays', WHERE WHAT IT READS IS OF BULK AT MOST 1048576: true; the input reads as it did. -/
def matsPlaysUptoRow : OpenClaim := { program := "ytcincnngdohfnaagreatdoor", sum := "53fd4973ebf982debdd3a05164dd91ad24c603b0872ee8f1bfb99bf7970e6664", func := "gusset/gussetlaw13.MatsPlays", spec := "matsPlays", inPlace := ["math/bits.Add64", "internal/abi.NoEscape", "internal/bytealg.MakeNoZero"], unfollowed := true, recurses := true, named := ["math/bits.overflowError", "internal/strconv.uint64pow10", "math/bits.deBruijn32tab", "math/bits.deBruijn64tab"], apart := false, laid := [("math/bits.deBruijn32tab", laid_math_bits_deBruijn32tab), ("math/bits.deBruijn64tab", laid_math_bits_deBruijn64tab), ("internal/strconv.uint64pow10", laid_internal_strconv_uint64pow10)], narrowed := true }
def MatsPlaysUptoSaid : Prop := matsPlaysUptoRow.holds Tryz.pinned (OpenSpec.upto matsPlaysSpec)

/-- 'gussetlaw13.MatsRing', WHERE WHAT IT READS IS OF BULK AT MOST 1048576: true; the input reads as it did. -/
def matsRingUptoRow : OpenClaim := { program := "ytcincnngdohfnaagreatdoor", sum := "53fd4973ebf982debdd3a05164dd91ad24c603b0872ee8f1bfb99bf7970e6664", func := "gusset/gussetlaw13.MatsRing", spec := "matsRing", inPlace := ["math/bits.Add64", "internal/abi.NoEscape", "internal/bytealg.MakeNoZero"], unfollowed := true, recurses := true, named := ["math/bits.overflowError", "internal/strconv.uint64pow10", "math/bits.deBruijn32tab", "math/bits.deBruijn64tab"], apart := false, laid := [("math/bits.deBruijn32tab", laid_math_bits_deBruijn32tab), ("math/bits.deBruijn64tab", laid_math_bits_deBruijn64tab), ("internal/strconv.uint64pow10", laid_internal_strconv_uint64pow10)], narrowed := true }
def MatsRingUptoSaid : Prop := matsRingUptoRow.holds Tryz.pinned (OpenSpec.upto matsRingSpec)

/-- 'gussetlaw13.MatsApply', WHERE WHAT IT READS IS OF BULK AT MOST 1048576: true; the input reads as it did. -/
def matsApplyUptoRow : OpenClaim := { program := "ytcincnngdohfnaagreatdoor", sum := "53fd4973ebf982debdd3a05164dd91ad24c603b0872ee8f1bfb99bf7970e6664", func := "gusset/gussetlaw13.MatsApply", spec := "matsApply", inPlace := ["math/bits.Add64", "internal/abi.NoEscape", "internal/bytealg.MakeNoZero"], unfollowed := true, recurses := true, named := ["math/bits.overflowError", "internal/strconv.uint64pow10", "math/bits.deBruijn32tab", "math/bits.deBruijn64tab"], apart := false, laid := [("math/bits.deBruijn32tab", laid_math_bits_deBruijn32tab), ("math/bits.deBruijn64tab", laid_math_bits_deBruijn64tab), ("internal/strconv.uint64pow10", laid_internal_strconv_uint64pow10)], narrowed := true }
def MatsApplyUptoSaid : Prop := matsApplyUptoRow.holds Tryz.pinned (OpenSpec.upto matsApplySpec)

/-- 'gussetlaw13.MatsErrors', WHERE WHAT IT READS IS OF BULK AT MOST 1048576: true; the input reads as it did. -/
def matsErrorsUptoRow : OpenClaim := { program := "ytcincnngdohfnaagreatdoor", sum := "53fd4973ebf982debdd3a05164dd91ad24c603b0872ee8f1bfb99bf7970e6664", func := "gusset/gussetlaw13.MatsErrors", spec := "matsErrors", inPlace := ["math/bits.Add64", "internal/abi.NoEscape", "internal/bytealg.MakeNoZero"], unfollowed := true, recurses := true, named := ["math/bits.overflowError", "internal/strconv.uint64pow10", "math/bits.deBruijn32tab", "math/bits.deBruijn64tab"], apart := false, laid := [("math/bits.deBruijn32tab", laid_math_bits_deBruijn32tab), ("math/bits.deBruijn64tab", laid_math_bits_deBruijn64tab), ("internal/strconv.uint64pow10", laid_internal_strconv_uint64pow10)], narrowed := true }
def MatsErrorsUptoSaid : Prop := matsErrorsUptoRow.holds Tryz.pinned (OpenSpec.upto matsErrorsSpec)

/-- 'gussetlaw13.MatsParts', WHERE WHAT IT READS IS OF BULK AT MOST 1048576: true; the input reads as it did. -/
def matsPartsUptoRow : OpenClaim := { program := "ytcincnngdohfnaagreatdoor", sum := "53fd4973ebf982debdd3a05164dd91ad24c603b0872ee8f1bfb99bf7970e6664", func := "gusset/gussetlaw13.MatsParts", spec := "matsParts", inPlace := ["math/bits.Add64", "internal/abi.NoEscape", "internal/bytealg.MakeNoZero"], unfollowed := true, recurses := true, named := ["math/bits.overflowError", "internal/strconv.uint64pow10", "math/bits.deBruijn32tab", "math/bits.deBruijn64tab"], apart := false, laid := [("math/bits.deBruijn32tab", laid_math_bits_deBruijn32tab), ("math/bits.deBruijn64tab", laid_math_bits_deBruijn64tab), ("internal/strconv.uint64pow10", laid_internal_strconv_uint64pow10)], narrowed := true }
def MatsPartsUptoSaid : Prop := matsPartsUptoRow.holds Tryz.pinned (OpenSpec.upto matsPartsSpec)

/-- 'gussetlaw13.MatsKnown', WHERE WHAT IT READS IS OF BULK AT MOST 1048576: true; the input reads as it did. -/
def matsKnownUptoRow : OpenClaim := { program := "ytcincnngdohfnaagreatdoor", sum := "53fd4973ebf982debdd3a05164dd91ad24c603b0872ee8f1bfb99bf7970e6664", func := "gusset/gussetlaw13.MatsKnown", spec := "matsKnown", inPlace := ["math/bits.Add64", "internal/abi.NoEscape", "internal/bytealg.MakeNoZero"], unfollowed := true, recurses := true, named := ["math/bits.overflowError", "internal/strconv.uint64pow10", "math/bits.deBruijn32tab", "math/bits.deBruijn64tab"], apart := false, laid := [("math/bits.deBruijn32tab", laid_math_bits_deBruijn32tab), ("math/bits.deBruijn64tab", laid_math_bits_deBruijn64tab), ("internal/strconv.uint64pow10", laid_internal_strconv_uint64pow10)], narrowed := true }
def MatsKnownUptoSaid : Prop := matsKnownUptoRow.holds Tryz.pinned (OpenSpec.upto matsKnownSpec)

end Rows
end Go.Proofs.YtcincnngdohfnaaGreatDoor
