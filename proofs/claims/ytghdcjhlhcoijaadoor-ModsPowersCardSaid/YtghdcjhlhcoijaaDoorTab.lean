/- The table of types of this translation. -/
import Derived.Test.YtghdcjhlhcoijaaDoorSxP
import Derived.Test.YtghdcjhlhcoijaaDoorRows
import Derived.KernelRfl
namespace Go.Proofs.YtghdcjhlhcoijaaDoor
open Go.Sx
set_option maxRecDepth 100000
def ti1 : TI := { kind := .other, size := 1, bytes := 8, zero := [.val .nilFunc] }
theorem tok1 : TOK Tryd.prog 1 ti1 := TOK.of (z := .nilFunc) ⟨_, Tryd.underlying1, rfl⟩ (by kernel_rfl) (by kernel_rfl) (by kernel_rfl) (by kernel_rfl) (by kernel_rfl)
def ti2 : TI := { kind := .int .i64, size := 1, bytes := 8, zero := [.val (.int .i64 0)] }
theorem tok2 : TOK Tryd.prog 2 ti2 := TOK.of (z := (.int .i64 0)) (by kernel_rfl : Tryd.prog.underlying 2 = some (.int .i64)) (by kernel_rfl) (by kernel_rfl) (by kernel_rfl) (by kernel_rfl) (by kernel_rfl)
def ti3 : TI := { kind := .int .i64, size := 1, bytes := 8, zero := [.val (.int .i64 0)] }
theorem tok3 : TOK Tryd.prog 3 ti3 := TOK.of (z := (.int .i64 0)) (by kernel_rfl : Tryd.prog.underlying 3 = some (.int .i64)) (by kernel_rfl) (by kernel_rfl) (by kernel_rfl) (by kernel_rfl) (by kernel_rfl)
def ti4 : TI := { kind := .bool, size := 1, bytes := 1, zero := [.val (.bool false)] }
theorem tok4 : TOK Tryd.prog 4 ti4 := TOK.of (z := (.bool false)) (by kernel_rfl : Tryd.prog.underlying 4 = some (.bool)) (by kernel_rfl) (by kernel_rfl) (by kernel_rfl) (by kernel_rfl) (by kernel_rfl)
def ti5 : TI := { kind := .int .u8, size := 1, bytes := 1, zero := [.val (.int .u8 0)] }
theorem tok5 : TOK Tryd.prog 5 ti5 := TOK.of (z := (.int .u8 0)) (by kernel_rfl : Tryd.prog.underlying 5 = some (.int .u8)) (by kernel_rfl) (by kernel_rfl) (by kernel_rfl) (by kernel_rfl) (by kernel_rfl)
def ti9 : TI := { kind := .str, size := 1, bytes := 16, zero := [.val (.string .empty)] }
theorem tok9 : TOK Tryd.prog 9 ti9 := TOK.of (z := (.string .empty)) (by kernel_rfl : Tryd.prog.underlying 9 = some (.string)) (by kernel_rfl) (by kernel_rfl) (by kernel_rfl) (by kernel_rfl) (by kernel_rfl)
def ti12 : TI := { kind := .int .u64, size := 1, bytes := 8, zero := [.val (.int .u64 0)] }
theorem tok12 : TOK Tryd.prog 12 ti12 := TOK.of (z := (.int .u64 0)) (by kernel_rfl : Tryd.prog.underlying 12 = some (.int .u64)) (by kernel_rfl) (by kernel_rfl) (by kernel_rfl) (by kernel_rfl) (by kernel_rfl)
def ti13 : TI := { kind := .agg [(0, 9, 1), (1, 12, 1)], size := 2, bytes := 24, zero := [.val (.string .empty), .val (.int .u64 0)] }
theorem tok13 : TOK Tryd.prog 13 ti13 := TOK.of (z := .agg #[(.string .empty), (.int .u64 0)]) ⟨by kernel_rfl, by kernel_rfl, by kernel_rfl⟩ (by kernel_rfl) (by kernel_rfl) (by kernel_rfl) (by kernel_rfl) (by kernel_rfl)
def ti21 : TI := { kind := .int .i32, size := 1, bytes := 4, zero := [.val (.int .i32 0)] }
theorem tok21 : TOK Tryd.prog 21 ti21 := TOK.of (z := (.int .i32 0)) (by kernel_rfl : Tryd.prog.underlying 21 = some (.int .i32)) (by kernel_rfl) (by kernel_rfl) (by kernel_rfl) (by kernel_rfl) (by kernel_rfl)
def ti22 : TI := { kind := .int .u32, size := 1, bytes := 4, zero := [.val (.int .u32 0)] }
theorem tok22 : TOK Tryd.prog 22 ti22 := TOK.of (z := (.int .u32 0)) (by kernel_rfl : Tryd.prog.underlying 22 = some (.int .u32)) (by kernel_rfl) (by kernel_rfl) (by kernel_rfl) (by kernel_rfl) (by kernel_rfl)
def ti23 : TI := { kind := .int .i64, size := 1, bytes := 8, zero := [.val (.int .i64 0)] }
theorem tok23 : TOK Tryd.prog 23 ti23 := TOK.of (z := (.int .i64 0)) (by kernel_rfl : Tryd.prog.underlying 23 = some (.int .i64)) (by kernel_rfl) (by kernel_rfl) (by kernel_rfl) (by kernel_rfl) (by kernel_rfl)
def ti25 : TI := { kind := .other, size := 1, bytes := 8, zero := [.val .nilFunc] }
theorem tok25 : TOK Tryd.prog 25 ti25 := TOK.of (z := .nilFunc) ⟨_, Tryd.underlying25, rfl⟩ (by kernel_rfl) (by kernel_rfl) (by kernel_rfl) (by kernel_rfl) (by kernel_rfl)
def ti26 : TI := { kind := .other, size := 1, bytes := 8, zero := [.val .nilFunc] }
theorem tok26 : TOK Tryd.prog 26 ti26 := TOK.of (z := .nilFunc) ⟨_, Tryd.underlying26, rfl⟩ (by kernel_rfl) (by kernel_rfl) (by kernel_rfl) (by kernel_rfl) (by kernel_rfl)
def ti27 : TI := { kind := .other, size := 1, bytes := 8, zero := [.val .nilFunc] }
theorem tok27 : TOK Tryd.prog 27 ti27 := TOK.of (z := .nilFunc) ⟨_, Tryd.underlying27, rfl⟩ (by kernel_rfl) (by kernel_rfl) (by kernel_rfl) (by kernel_rfl) (by kernel_rfl)
def ti28 : TI := { kind := .int .u64, size := 1, bytes := 8, zero := [.val (.int .u64 0)] }
theorem tok28 : TOK Tryd.prog 28 ti28 := TOK.of (z := (.int .u64 0)) (by kernel_rfl : Tryd.prog.underlying 28 = some (.int .u64)) (by kernel_rfl) (by kernel_rfl) (by kernel_rfl) (by kernel_rfl) (by kernel_rfl)
def ti30 : TI := { kind := .other, size := 1, bytes := 8, zero := [.val .nilFunc] }
theorem tok30 : TOK Tryd.prog 30 ti30 := TOK.of (z := .nilFunc) ⟨_, Tryd.underlying30, rfl⟩ (by kernel_rfl) (by kernel_rfl) (by kernel_rfl) (by kernel_rfl) (by kernel_rfl)
def ti31 : TI := { kind := .other, size := 1, bytes := 8, zero := [.val .nilFunc] }
theorem tok31 : TOK Tryd.prog 31 ti31 := TOK.of (z := .nilFunc) ⟨_, Tryd.underlying31, rfl⟩ (by kernel_rfl) (by kernel_rfl) (by kernel_rfl) (by kernel_rfl) (by kernel_rfl)
def ti32 : TI := { kind := .other, size := 1, bytes := 8, zero := [.val .nilFunc] }
theorem tok32 : TOK Tryd.prog 32 ti32 := TOK.of (z := .nilFunc) ⟨_, Tryd.underlying32, rfl⟩ (by kernel_rfl) (by kernel_rfl) (by kernel_rfl) (by kernel_rfl) (by kernel_rfl)
def ti33 : TI := { kind := .other, size := 1, bytes := 8, zero := [.val .nilFunc] }
theorem tok33 : TOK Tryd.prog 33 ti33 := TOK.of (z := .nilFunc) ⟨_, Tryd.underlying33, rfl⟩ (by kernel_rfl) (by kernel_rfl) (by kernel_rfl) (by kernel_rfl) (by kernel_rfl)
def ti34 : TI := { kind := .other, size := 1, bytes := 8, zero := [.val .nilFunc] }
theorem tok34 : TOK Tryd.prog 34 ti34 := TOK.of (z := .nilFunc) ⟨_, Tryd.underlying34, rfl⟩ (by kernel_rfl) (by kernel_rfl) (by kernel_rfl) (by kernel_rfl) (by kernel_rfl)
def ti35 : TI := { kind := .other, size := 1, bytes := 8, zero := [.val .nilFunc] }
theorem tok35 : TOK Tryd.prog 35 ti35 := TOK.of (z := .nilFunc) ⟨_, Tryd.underlying35, rfl⟩ (by kernel_rfl) (by kernel_rfl) (by kernel_rfl) (by kernel_rfl) (by kernel_rfl)
def ti36 : TI := { kind := .other, size := 1, bytes := 8, zero := [.val .nilFunc] }
theorem tok36 : TOK Tryd.prog 36 ti36 := TOK.of (z := .nilFunc) ⟨_, Tryd.underlying36, rfl⟩ (by kernel_rfl) (by kernel_rfl) (by kernel_rfl) (by kernel_rfl) (by kernel_rfl)
def ti37 : TI := { kind := .int .u64, size := 1, bytes := 8, zero := [.val (.int .u64 0)] }
theorem tok37 : TOK Tryd.prog 37 ti37 := TOK.of (z := (.int .u64 0)) (by kernel_rfl : Tryd.prog.underlying 37 = some (.int .u64)) (by kernel_rfl) (by kernel_rfl) (by kernel_rfl) (by kernel_rfl) (by kernel_rfl)
def ti38 : TI := { kind := .other, size := 1, bytes := 8, zero := [.val .nilFunc] }
theorem tok38 : TOK Tryd.prog 38 ti38 := TOK.of (z := .nilFunc) ⟨_, Tryd.underlying38, rfl⟩ (by kernel_rfl) (by kernel_rfl) (by kernel_rfl) (by kernel_rfl) (by kernel_rfl)
def ti39 : TI := { kind := .slc 22, size := 1, bytes := 24, zero := [.val (.slice none 0 0)] }
theorem tok39 : TOK Tryd.prog 39 ti39 := TOK.of (z := (.slice none 0 0)) (by kernel_rfl : Tryd.prog.underlying 39 = some (.slice 22)) (by kernel_rfl) (by kernel_rfl) (by kernel_rfl) (by kernel_rfl) (by kernel_rfl)
def ti40 : TI := { kind := .agg [(0, 4, 1), (1, 39, 1)], size := 2, bytes := 32, zero := [.val (.bool false), .val (.slice none 0 0)] }
theorem tok40 : TOK Tryd.prog 40 ti40 := TOK.of (z := .agg #[(.bool false), (.slice none 0 0)]) ⟨by kernel_rfl, by kernel_rfl, by kernel_rfl⟩ (by kernel_rfl) (by kernel_rfl) (by kernel_rfl) (by kernel_rfl) (by kernel_rfl)
def ti41 : TI := { kind := .agg [(0, 4, 1), (1, 39, 1)], size := 2, bytes := 32, zero := [.val (.bool false), .val (.slice none 0 0)] }
theorem tok41 : TOK Tryd.prog 41 ti41 := TOK.of (z := .agg #[(.bool false), (.slice none 0 0)]) ⟨by kernel_rfl, by kernel_rfl, by kernel_rfl⟩ (by kernel_rfl) (by kernel_rfl) (by kernel_rfl) (by kernel_rfl) (by kernel_rfl)
def ti42 : TI := { kind := .agg [(0, 41, 2), (2, 39, 1)], size := 3, bytes := 56, zero := [.val (.bool false), .val (.slice none 0 0), .val (.slice none 0 0)] }
theorem tok42 : TOK Tryd.prog 42 ti42 := TOK.of (z := .agg #[(.bool false), (.slice none 0 0), (.slice none 0 0)]) ⟨by kernel_rfl, by kernel_rfl, by kernel_rfl⟩ (by kernel_rfl) (by kernel_rfl) (by kernel_rfl) (by kernel_rfl) (by kernel_rfl)
def ti43 : TI := { kind := .agg [(0, 41, 2), (2, 39, 1)], size := 3, bytes := 56, zero := [.val (.bool false), .val (.slice none 0 0), .val (.slice none 0 0)] }
theorem tok43 : TOK Tryd.prog 43 ti43 := TOK.of (z := .agg #[(.bool false), (.slice none 0 0), (.slice none 0 0)]) ⟨by kernel_rfl, by kernel_rfl, by kernel_rfl⟩ (by kernel_rfl) (by kernel_rfl) (by kernel_rfl) (by kernel_rfl) (by kernel_rfl)
def ti44 : TI := { kind := .agg [(0, 28, 1), (1, 9, 1)], size := 2, bytes := 24, zero := [.nat 0] }
theorem tok44 : TOK Tryd.prog 44 ti44 := TOK.of (z := .agg #[(.int .u64 0), (.string .empty)]) ⟨by kernel_rfl, by kernel_rfl, by kernel_rfl⟩ (by kernel_rfl) (by kernel_rfl) (by kernel_rfl) (by kernel_rfl) (by kernel_rfl)
def ti45 : TI := { kind := .agg [(0, 28, 1), (1, 9, 1)], size := 2, bytes := 24, zero := [.nat 0] }
theorem tok45 : TOK Tryd.prog 45 ti45 := TOK.of (z := .agg #[(.int .u64 0), (.string .empty)]) ⟨by kernel_rfl, by kernel_rfl, by kernel_rfl⟩ (by kernel_rfl) (by kernel_rfl) (by kernel_rfl) (by kernel_rfl) (by kernel_rfl)
def ti46 : TI := { kind := .agg [(0, 45, 2)], size := 2, bytes := 24, zero := [.nat 0] }
theorem tok46 : TOK Tryd.prog 46 ti46 := TOK.of (z := .agg #[(.int .u64 0), (.string .empty)]) ⟨by kernel_rfl, by kernel_rfl, by kernel_rfl⟩ (by kernel_rfl) (by kernel_rfl) (by kernel_rfl) (by kernel_rfl) (by kernel_rfl)
def ti47 : TI := { kind := .agg [(0, 45, 2)], size := 2, bytes := 24, zero := [.nat 0] }
theorem tok47 : TOK Tryd.prog 47 ti47 := TOK.of (z := .agg #[(.int .u64 0), (.string .empty)]) ⟨by kernel_rfl, by kernel_rfl, by kernel_rfl⟩ (by kernel_rfl) (by kernel_rfl) (by kernel_rfl) (by kernel_rfl) (by kernel_rfl)
def ti48 : TI := { kind := .agg [(0, 47, 2), (2, 4, 1)], size := 3, bytes := 32, zero := [.int 0] }
theorem tok48 : TOK Tryd.prog 48 ti48 := TOK.of (z := .agg #[(.int .u64 0), (.string .empty), (.bool false)]) ⟨by kernel_rfl, by kernel_rfl, by kernel_rfl⟩ (by kernel_rfl) (by kernel_rfl) (by kernel_rfl) (by kernel_rfl) (by kernel_rfl)
def ti49 : TI := { kind := .agg [(0, 47, 2), (2, 4, 1)], size := 3, bytes := 32, zero := [.int 0] }
theorem tok49 : TOK Tryd.prog 49 ti49 := TOK.of (z := .agg #[(.int .u64 0), (.string .empty), (.bool false)]) ⟨by kernel_rfl, by kernel_rfl, by kernel_rfl⟩ (by kernel_rfl) (by kernel_rfl) (by kernel_rfl) (by kernel_rfl) (by kernel_rfl)
def ti50 : TI := { kind := .other, size := 1, bytes := 8, zero := [.val .nilFunc] }
theorem tok50 : TOK Tryd.prog 50 ti50 := TOK.of (z := .nilFunc) ⟨_, Tryd.underlying50, rfl⟩ (by kernel_rfl) (by kernel_rfl) (by kernel_rfl) (by kernel_rfl) (by kernel_rfl)
def ti51 : TI := { kind := .other, size := 1, bytes := 8, zero := [.val .nilFunc] }
theorem tok51 : TOK Tryd.prog 51 ti51 := TOK.of (z := .nilFunc) ⟨_, Tryd.underlying51, rfl⟩ (by kernel_rfl) (by kernel_rfl) (by kernel_rfl) (by kernel_rfl) (by kernel_rfl)
def ti52 : TI := { kind := .other, size := 1, bytes := 8, zero := [.val .nilFunc] }
theorem tok52 : TOK Tryd.prog 52 ti52 := TOK.of (z := .nilFunc) ⟨_, Tryd.underlying52, rfl⟩ (by kernel_rfl) (by kernel_rfl) (by kernel_rfl) (by kernel_rfl) (by kernel_rfl)
def ti53 : TI := { kind := .other, size := 1, bytes := 8, zero := [.val .nilFunc] }
theorem tok53 : TOK Tryd.prog 53 ti53 := TOK.of (z := .nilFunc) ⟨_, Tryd.underlying53, rfl⟩ (by kernel_rfl) (by kernel_rfl) (by kernel_rfl) (by kernel_rfl) (by kernel_rfl)
def ti54 : TI := { kind := .agg [(0, 49, 3), (3, 45, 2)], size := 5, bytes := 56, zero := [.frac 0] }
theorem tok54 : TOK Tryd.prog 54 ti54 := TOK.of (z := .agg #[(.int .u64 0), (.string .empty), (.bool false), (.int .u64 0), (.string .empty)]) ⟨by kernel_rfl, by kernel_rfl, by kernel_rfl⟩ (by kernel_rfl) (by kernel_rfl) (by kernel_rfl) (by kernel_rfl) (by kernel_rfl)
def ti55 : TI := { kind := .agg [(0, 49, 3), (3, 45, 2)], size := 5, bytes := 56, zero := [.frac 0] }
theorem tok55 : TOK Tryd.prog 55 ti55 := TOK.of (z := .agg #[(.int .u64 0), (.string .empty), (.bool false), (.int .u64 0), (.string .empty)]) ⟨by kernel_rfl, by kernel_rfl, by kernel_rfl⟩ (by kernel_rfl) (by kernel_rfl) (by kernel_rfl) (by kernel_rfl) (by kernel_rfl)
def ti56 : TI := { kind := .other, size := 1, bytes := 8, zero := [.val .nilFunc] }
theorem tok56 : TOK Tryd.prog 56 ti56 := TOK.of (z := .nilFunc) ⟨_, Tryd.underlying56, rfl⟩ (by kernel_rfl) (by kernel_rfl) (by kernel_rfl) (by kernel_rfl) (by kernel_rfl)
def ti57 : TI := { kind := .other, size := 1, bytes := 8, zero := [.val .nilFunc] }
theorem tok57 : TOK Tryd.prog 57 ti57 := TOK.of (z := .nilFunc) ⟨_, Tryd.underlying57, rfl⟩ (by kernel_rfl) (by kernel_rfl) (by kernel_rfl) (by kernel_rfl) (by kernel_rfl)
def ti58 : TI := { kind := .other, size := 1, bytes := 8, zero := [.val .nilFunc] }
theorem tok58 : TOK Tryd.prog 58 ti58 := TOK.of (z := .nilFunc) ⟨_, Tryd.underlying58, rfl⟩ (by kernel_rfl) (by kernel_rfl) (by kernel_rfl) (by kernel_rfl) (by kernel_rfl)
def ti59 : TI := { kind := .other, size := 1, bytes := 8, zero := [.val .nilFunc] }
theorem tok59 : TOK Tryd.prog 59 ti59 := TOK.of (z := .nilFunc) ⟨_, Tryd.underlying59, rfl⟩ (by kernel_rfl) (by kernel_rfl) (by kernel_rfl) (by kernel_rfl) (by kernel_rfl)
def ti60 : TI := { kind := .arr 18 22, size := 18, bytes := 72, zero := [.val (.int .u32 0), .val (.int .u32 0), .val (.int .u32 0), .val (.int .u32 0), .val (.int .u32 0), .val (.int .u32 0), .val (.int .u32 0), .val (.int .u32 0), .val (.int .u32 0), .val (.int .u32 0), .val (.int .u32 0), .val (.int .u32 0), .val (.int .u32 0), .val (.int .u32 0), .val (.int .u32 0), .val (.int .u32 0), .val (.int .u32 0), .val (.int .u32 0)] }
theorem tok60 : TOK Tryd.prog 60 ti60 := TOK.of (z := .agg #[(.int .u32 0), (.int .u32 0), (.int .u32 0), (.int .u32 0), (.int .u32 0), (.int .u32 0), (.int .u32 0), (.int .u32 0), (.int .u32 0), (.int .u32 0), (.int .u32 0), (.int .u32 0), (.int .u32 0), (.int .u32 0), (.int .u32 0), (.int .u32 0), (.int .u32 0), (.int .u32 0)]) (by kernel_rfl : Tryd.prog.underlying 60 = some (.array 18 22)) (by kernel_rfl) (by kernel_rfl) (by kernel_rfl) (by kernel_rfl) (by kernel_rfl)
def ti61 : TI := { kind := .other, size := 1, bytes := 8, zero := [.val .nilFunc] }
theorem tok61 : TOK Tryd.prog 61 ti61 := TOK.of (z := .nilFunc) ⟨_, Tryd.underlying61, rfl⟩ (by kernel_rfl) (by kernel_rfl) (by kernel_rfl) (by kernel_rfl) (by kernel_rfl)
def ti62 : TI := { kind := .arr 3 22, size := 3, bytes := 12, zero := [.val (.int .u32 0), .val (.int .u32 0), .val (.int .u32 0)] }
theorem tok62 : TOK Tryd.prog 62 ti62 := TOK.of (z := .agg #[(.int .u32 0), (.int .u32 0), (.int .u32 0)]) (by kernel_rfl : Tryd.prog.underlying 62 = some (.array 3 22)) (by kernel_rfl) (by kernel_rfl) (by kernel_rfl) (by kernel_rfl) (by kernel_rfl)
def ti63 : TI := { kind := .other, size := 1, bytes := 8, zero := [.val .nilFunc] }
theorem tok63 : TOK Tryd.prog 63 ti63 := TOK.of (z := .nilFunc) ⟨_, Tryd.underlying63, rfl⟩ (by kernel_rfl) (by kernel_rfl) (by kernel_rfl) (by kernel_rfl) (by kernel_rfl)
def ti64 : TI := { kind := .other, size := 1, bytes := 8, zero := [.val .nilFunc] }
theorem tok64 : TOK Tryd.prog 64 ti64 := TOK.of (z := .nilFunc) ⟨_, Tryd.underlying64, rfl⟩ (by kernel_rfl) (by kernel_rfl) (by kernel_rfl) (by kernel_rfl) (by kernel_rfl)
def ti65 : TI := { kind := .slc 3, size := 1, bytes := 24, zero := [.val (.slice none 0 0)] }
theorem tok65 : TOK Tryd.prog 65 ti65 := TOK.of (z := (.slice none 0 0)) (by kernel_rfl : Tryd.prog.underlying 65 = some (.slice 3)) (by kernel_rfl) (by kernel_rfl) (by kernel_rfl) (by kernel_rfl) (by kernel_rfl)
def ti66 : TI := { kind := .slc 3, size := 1, bytes := 24, zero := [.val (.slice none 0 0)] }
theorem tok66 : TOK Tryd.prog 66 ti66 := TOK.of (z := (.slice none 0 0)) (by kernel_rfl : Tryd.prog.underlying 66 = some (.slice 3)) (by kernel_rfl) (by kernel_rfl) (by kernel_rfl) (by kernel_rfl) (by kernel_rfl)
def ti67 : TI := { kind := .agg [(0, 4, 1), (1, 66, 1)], size := 2, bytes := 32, zero := [.val (.bool false), .val (.slice none 0 0)] }
theorem tok67 : TOK Tryd.prog 67 ti67 := TOK.of (z := .agg #[(.bool false), (.slice none 0 0)]) ⟨by kernel_rfl, by kernel_rfl, by kernel_rfl⟩ (by kernel_rfl) (by kernel_rfl) (by kernel_rfl) (by kernel_rfl) (by kernel_rfl)
def ti68 : TI := { kind := .agg [(0, 4, 1), (1, 66, 1)], size := 2, bytes := 32, zero := [.val (.bool false), .val (.slice none 0 0)] }
theorem tok68 : TOK Tryd.prog 68 ti68 := TOK.of (z := .agg #[(.bool false), (.slice none 0 0)]) ⟨by kernel_rfl, by kernel_rfl, by kernel_rfl⟩ (by kernel_rfl) (by kernel_rfl) (by kernel_rfl) (by kernel_rfl) (by kernel_rfl)
def ti70 : TI := { kind := .other, size := 1, bytes := 8, zero := [.val .nilFunc] }
theorem tok70 : TOK Tryd.prog 70 ti70 := TOK.of (z := .nilFunc) ⟨_, Tryd.underlying70, rfl⟩ (by kernel_rfl) (by kernel_rfl) (by kernel_rfl) (by kernel_rfl) (by kernel_rfl)
def ti71 : TI := { kind := .other, size := 1, bytes := 8, zero := [.val .nilFunc] }
theorem tok71 : TOK Tryd.prog 71 ti71 := TOK.of (z := .nilFunc) ⟨_, Tryd.underlying71, rfl⟩ (by kernel_rfl) (by kernel_rfl) (by kernel_rfl) (by kernel_rfl) (by kernel_rfl)
def ti72 : TI := { kind := .other, size := 1, bytes := 8, zero := [.val .nilFunc] }
theorem tok72 : TOK Tryd.prog 72 ti72 := TOK.of (z := .nilFunc) ⟨_, Tryd.underlying72, rfl⟩ (by kernel_rfl) (by kernel_rfl) (by kernel_rfl) (by kernel_rfl) (by kernel_rfl)
def ti73 : TI := { kind := .other, size := 1, bytes := 8, zero := [.val .nilFunc] }
theorem tok73 : TOK Tryd.prog 73 ti73 := TOK.of (z := .nilFunc) ⟨_, Tryd.underlying73, rfl⟩ (by kernel_rfl) (by kernel_rfl) (by kernel_rfl) (by kernel_rfl) (by kernel_rfl)
def ti74 : TI := { kind := .other, size := 1, bytes := 8, zero := [.val .nilFunc] }
theorem tok74 : TOK Tryd.prog 74 ti74 := TOK.of (z := .nilFunc) ⟨_, Tryd.underlying74, rfl⟩ (by kernel_rfl) (by kernel_rfl) (by kernel_rfl) (by kernel_rfl) (by kernel_rfl)
def ti75 : TI := { kind := .other, size := 1, bytes := 8, zero := [.val .nilFunc] }
theorem tok75 : TOK Tryd.prog 75 ti75 := TOK.of (z := .nilFunc) ⟨_, Tryd.underlying75, rfl⟩ (by kernel_rfl) (by kernel_rfl) (by kernel_rfl) (by kernel_rfl) (by kernel_rfl)
def ti77 : TI := { kind := .other, size := 1, bytes := 8, zero := [.val .nilFunc] }
theorem tok77 : TOK Tryd.prog 77 ti77 := TOK.of (z := .nilFunc) ⟨_, Tryd.underlying77, rfl⟩ (by kernel_rfl) (by kernel_rfl) (by kernel_rfl) (by kernel_rfl) (by kernel_rfl)
def ti78 : TI := { kind := .other, size := 1, bytes := 8, zero := [.val .nilFunc] }
theorem tok78 : TOK Tryd.prog 78 ti78 := TOK.of (z := .nilFunc) ⟨_, Tryd.underlying78, rfl⟩ (by kernel_rfl) (by kernel_rfl) (by kernel_rfl) (by kernel_rfl) (by kernel_rfl)
def ti80 : TI := { kind := .other, size := 1, bytes := 8, zero := [.val .nilFunc] }
theorem tok80 : TOK Tryd.prog 80 ti80 := TOK.of (z := .nilFunc) ⟨_, Tryd.underlying80, rfl⟩ (by kernel_rfl) (by kernel_rfl) (by kernel_rfl) (by kernel_rfl) (by kernel_rfl)
def ti81 : TI := { kind := .other, size := 1, bytes := 8, zero := [.val .nilFunc] }
theorem tok81 : TOK Tryd.prog 81 ti81 := TOK.of (z := .nilFunc) ⟨_, Tryd.underlying81, rfl⟩ (by kernel_rfl) (by kernel_rfl) (by kernel_rfl) (by kernel_rfl) (by kernel_rfl)
def ti82 : TI := { kind := .other, size := 1, bytes := 8, zero := [.val .nilFunc] }
theorem tok82 : TOK Tryd.prog 82 ti82 := TOK.of (z := .nilFunc) ⟨_, Tryd.underlying82, rfl⟩ (by kernel_rfl) (by kernel_rfl) (by kernel_rfl) (by kernel_rfl) (by kernel_rfl)
def ti84 : TI := { kind := .other, size := 1, bytes := 8, zero := [.val .nilFunc] }
theorem tok84 : TOK Tryd.prog 84 ti84 := TOK.of (z := .nilFunc) ⟨_, Tryd.underlying84, rfl⟩ (by kernel_rfl) (by kernel_rfl) (by kernel_rfl) (by kernel_rfl) (by kernel_rfl)
def ti85 : TI := { kind := .other, size := 1, bytes := 8, zero := [.val .nilFunc] }
theorem tok85 : TOK Tryd.prog 85 ti85 := TOK.of (z := .nilFunc) ⟨_, Tryd.underlying85, rfl⟩ (by kernel_rfl) (by kernel_rfl) (by kernel_rfl) (by kernel_rfl) (by kernel_rfl)
def ti86 : TI := { kind := .other, size := 1, bytes := 8, zero := [.val .nilFunc] }
theorem tok86 : TOK Tryd.prog 86 ti86 := TOK.of (z := .nilFunc) ⟨_, Tryd.underlying86, rfl⟩ (by kernel_rfl) (by kernel_rfl) (by kernel_rfl) (by kernel_rfl) (by kernel_rfl)
def ti87 : TI := { kind := .other, size := 1, bytes := 8, zero := [.val .nilFunc] }
theorem tok87 : TOK Tryd.prog 87 ti87 := TOK.of (z := .nilFunc) ⟨_, Tryd.underlying87, rfl⟩ (by kernel_rfl) (by kernel_rfl) (by kernel_rfl) (by kernel_rfl) (by kernel_rfl)
def ti88 : TI := { kind := .other, size := 1, bytes := 8, zero := [.val .nilFunc] }
theorem tok88 : TOK Tryd.prog 88 ti88 := TOK.of (z := .nilFunc) ⟨_, Tryd.underlying88, rfl⟩ (by kernel_rfl) (by kernel_rfl) (by kernel_rfl) (by kernel_rfl) (by kernel_rfl)
def ti89 : TI := { kind := .other, size := 1, bytes := 8, zero := [.val .nilFunc] }
theorem tok89 : TOK Tryd.prog 89 ti89 := TOK.of (z := .nilFunc) ⟨_, Tryd.underlying89, rfl⟩ (by kernel_rfl) (by kernel_rfl) (by kernel_rfl) (by kernel_rfl) (by kernel_rfl)
def ti90 : TI := { kind := .other, size := 1, bytes := 8, zero := [.val .nilFunc] }
theorem tok90 : TOK Tryd.prog 90 ti90 := TOK.of (z := .nilFunc) ⟨_, Tryd.underlying90, rfl⟩ (by kernel_rfl) (by kernel_rfl) (by kernel_rfl) (by kernel_rfl) (by kernel_rfl)
def ti91 : TI := { kind := .other, size := 1, bytes := 8, zero := [.val .nilFunc] }
theorem tok91 : TOK Tryd.prog 91 ti91 := TOK.of (z := .nilFunc) ⟨_, Tryd.underlying91, rfl⟩ (by kernel_rfl) (by kernel_rfl) (by kernel_rfl) (by kernel_rfl) (by kernel_rfl)
def ti92 : TI := { kind := .other, size := 1, bytes := 8, zero := [.val .nilFunc] }
theorem tok92 : TOK Tryd.prog 92 ti92 := TOK.of (z := .nilFunc) ⟨_, Tryd.underlying92, rfl⟩ (by kernel_rfl) (by kernel_rfl) (by kernel_rfl) (by kernel_rfl) (by kernel_rfl)
def ti93 : TI := { kind := .arr 32 5, size := 32, bytes := 32, zero := [.val (.int .u8 0), .val (.int .u8 0), .val (.int .u8 0), .val (.int .u8 0), .val (.int .u8 0), .val (.int .u8 0), .val (.int .u8 0), .val (.int .u8 0), .val (.int .u8 0), .val (.int .u8 0), .val (.int .u8 0), .val (.int .u8 0), .val (.int .u8 0), .val (.int .u8 0), .val (.int .u8 0), .val (.int .u8 0), .val (.int .u8 0), .val (.int .u8 0), .val (.int .u8 0), .val (.int .u8 0), .val (.int .u8 0), .val (.int .u8 0), .val (.int .u8 0), .val (.int .u8 0), .val (.int .u8 0), .val (.int .u8 0), .val (.int .u8 0), .val (.int .u8 0), .val (.int .u8 0), .val (.int .u8 0), .val (.int .u8 0), .val (.int .u8 0)] }
theorem tok93 : TOK Tryd.prog 93 ti93 := TOK.of (z := .agg #[(.int .u8 0), (.int .u8 0), (.int .u8 0), (.int .u8 0), (.int .u8 0), (.int .u8 0), (.int .u8 0), (.int .u8 0), (.int .u8 0), (.int .u8 0), (.int .u8 0), (.int .u8 0), (.int .u8 0), (.int .u8 0), (.int .u8 0), (.int .u8 0), (.int .u8 0), (.int .u8 0), (.int .u8 0), (.int .u8 0), (.int .u8 0), (.int .u8 0), (.int .u8 0), (.int .u8 0), (.int .u8 0), (.int .u8 0), (.int .u8 0), (.int .u8 0), (.int .u8 0), (.int .u8 0), (.int .u8 0), (.int .u8 0)]) (by kernel_rfl : Tryd.prog.underlying 93 = some (.array 32 5)) (by kernel_rfl) (by kernel_rfl) (by kernel_rfl) (by kernel_rfl) (by kernel_rfl)
def ti94 : TI := { kind := .other, size := 1, bytes := 8, zero := [.val .nilFunc] }
theorem tok94 : TOK Tryd.prog 94 ti94 := TOK.of (z := .nilFunc) ⟨_, Tryd.underlying94, rfl⟩ (by kernel_rfl) (by kernel_rfl) (by kernel_rfl) (by kernel_rfl) (by kernel_rfl)
def ti95 : TI := { kind := .other, size := 1, bytes := 8, zero := [.val .nilFunc] }
theorem tok95 : TOK Tryd.prog 95 ti95 := TOK.of (z := .nilFunc) ⟨_, Tryd.underlying95, rfl⟩ (by kernel_rfl) (by kernel_rfl) (by kernel_rfl) (by kernel_rfl) (by kernel_rfl)
def ti96 : TI := { kind := .other, size := 1, bytes := 8, zero := [.val .nilFunc] }
theorem tok96 : TOK Tryd.prog 96 ti96 := TOK.of (z := .nilFunc) ⟨_, Tryd.underlying96, rfl⟩ (by kernel_rfl) (by kernel_rfl) (by kernel_rfl) (by kernel_rfl) (by kernel_rfl)
def ti98 : TI := { kind := .other, size := 1, bytes := 8, zero := [.val .nilFunc] }
theorem tok98 : TOK Tryd.prog 98 ti98 := TOK.of (z := .nilFunc) ⟨_, Tryd.underlying98, rfl⟩ (by kernel_rfl) (by kernel_rfl) (by kernel_rfl) (by kernel_rfl) (by kernel_rfl)
def ti99 : TI := { kind := .other, size := 1, bytes := 8, zero := [.val .nilFunc] }
theorem tok99 : TOK Tryd.prog 99 ti99 := TOK.of (z := .nilFunc) ⟨_, Tryd.underlying99, rfl⟩ (by kernel_rfl) (by kernel_rfl) (by kernel_rfl) (by kernel_rfl) (by kernel_rfl)
def ti100 : TI := { kind := .other, size := 1, bytes := 8, zero := [.val .nilFunc] }
theorem tok100 : TOK Tryd.prog 100 ti100 := TOK.of (z := .nilFunc) ⟨_, Tryd.underlying100, rfl⟩ (by kernel_rfl) (by kernel_rfl) (by kernel_rfl) (by kernel_rfl) (by kernel_rfl)
def ti102 : TI := { kind := .other, size := 1, bytes := 8, zero := [.val .nilFunc] }
theorem tok102 : TOK Tryd.prog 102 ti102 := TOK.of (z := .nilFunc) ⟨_, Tryd.underlying102, rfl⟩ (by kernel_rfl) (by kernel_rfl) (by kernel_rfl) (by kernel_rfl) (by kernel_rfl)
def ti103 : TI := { kind := .other, size := 1, bytes := 8, zero := [.val .nilFunc] }
theorem tok103 : TOK Tryd.prog 103 ti103 := TOK.of (z := .nilFunc) ⟨_, Tryd.underlying103, rfl⟩ (by kernel_rfl) (by kernel_rfl) (by kernel_rfl) (by kernel_rfl) (by kernel_rfl)
def ti105 : TI := { kind := .other, size := 1, bytes := 8, zero := [.val .nilFunc] }
theorem tok105 : TOK Tryd.prog 105 ti105 := TOK.of (z := .nilFunc) ⟨_, Tryd.underlying105, rfl⟩ (by kernel_rfl) (by kernel_rfl) (by kernel_rfl) (by kernel_rfl) (by kernel_rfl)
def ti107 : TI := { kind := .other, size := 1, bytes := 8, zero := [.val .nilFunc] }
theorem tok107 : TOK Tryd.prog 107 ti107 := TOK.of (z := .nilFunc) ⟨_, Tryd.underlying107, rfl⟩ (by kernel_rfl) (by kernel_rfl) (by kernel_rfl) (by kernel_rfl) (by kernel_rfl)
def ti108 : TI := { kind := .other, size := 1, bytes := 8, zero := [.val .nilFunc] }
theorem tok108 : TOK Tryd.prog 108 ti108 := TOK.of (z := .nilFunc) ⟨_, Tryd.underlying108, rfl⟩ (by kernel_rfl) (by kernel_rfl) (by kernel_rfl) (by kernel_rfl) (by kernel_rfl)
def ti110 : TI := { kind := .other, size := 1, bytes := 8, zero := [.val .nilFunc] }
theorem tok110 : TOK Tryd.prog 110 ti110 := TOK.of (z := .nilFunc) ⟨_, Tryd.underlying110, rfl⟩ (by kernel_rfl) (by kernel_rfl) (by kernel_rfl) (by kernel_rfl) (by kernel_rfl)
def ti111 : TI := { kind := .other, size := 1, bytes := 8, zero := [.val .nilFunc] }
theorem tok111 : TOK Tryd.prog 111 ti111 := TOK.of (z := .nilFunc) ⟨_, Tryd.underlying111, rfl⟩ (by kernel_rfl) (by kernel_rfl) (by kernel_rfl) (by kernel_rfl) (by kernel_rfl)
def ti112 : TI := { kind := .other, size := 1, bytes := 8, zero := [.val .nilFunc] }
theorem tok112 : TOK Tryd.prog 112 ti112 := TOK.of (z := .nilFunc) ⟨_, Tryd.underlying112, rfl⟩ (by kernel_rfl) (by kernel_rfl) (by kernel_rfl) (by kernel_rfl) (by kernel_rfl)
def ti113 : TI := { kind := .other, size := 1, bytes := 8, zero := [.val .nilFunc] }
theorem tok113 : TOK Tryd.prog 113 ti113 := TOK.of (z := .nilFunc) ⟨_, Tryd.underlying113, rfl⟩ (by kernel_rfl) (by kernel_rfl) (by kernel_rfl) (by kernel_rfl) (by kernel_rfl)
def ti115 : TI := { kind := .other, size := 1, bytes := 8, zero := [.val .nilFunc] }
theorem tok115 : TOK Tryd.prog 115 ti115 := TOK.of (z := .nilFunc) ⟨_, Tryd.underlying115, rfl⟩ (by kernel_rfl) (by kernel_rfl) (by kernel_rfl) (by kernel_rfl) (by kernel_rfl)
def ti116 : TI := { kind := .other, size := 1, bytes := 8, zero := [.val .nilFunc] }
theorem tok116 : TOK Tryd.prog 116 ti116 := TOK.of (z := .nilFunc) ⟨_, Tryd.underlying116, rfl⟩ (by kernel_rfl) (by kernel_rfl) (by kernel_rfl) (by kernel_rfl) (by kernel_rfl)
def ti117 : TI := { kind := .other, size := 1, bytes := 8, zero := [.val .nilFunc] }
theorem tok117 : TOK Tryd.prog 117 ti117 := TOK.of (z := .nilFunc) ⟨_, Tryd.underlying117, rfl⟩ (by kernel_rfl) (by kernel_rfl) (by kernel_rfl) (by kernel_rfl) (by kernel_rfl)
def ti118 : TI := { kind := .other, size := 1, bytes := 8, zero := [.val .nilFunc] }
theorem tok118 : TOK Tryd.prog 118 ti118 := TOK.of (z := .nilFunc) ⟨_, Tryd.underlying118, rfl⟩ (by kernel_rfl) (by kernel_rfl) (by kernel_rfl) (by kernel_rfl) (by kernel_rfl)
def ti120 : TI := { kind := .other, size := 1, bytes := 8, zero := [.val .nilFunc] }
theorem tok120 : TOK Tryd.prog 120 ti120 := TOK.of (z := .nilFunc) ⟨_, Tryd.underlying120, rfl⟩ (by kernel_rfl) (by kernel_rfl) (by kernel_rfl) (by kernel_rfl) (by kernel_rfl)
def ti122 : TI := { kind := .other, size := 1, bytes := 8, zero := [.val .nilFunc] }
theorem tok122 : TOK Tryd.prog 122 ti122 := TOK.of (z := .nilFunc) ⟨_, Tryd.underlying122, rfl⟩ (by kernel_rfl) (by kernel_rfl) (by kernel_rfl) (by kernel_rfl) (by kernel_rfl)
def ti123 : TI := { kind := .other, size := 1, bytes := 8, zero := [.val .nilFunc] }
theorem tok123 : TOK Tryd.prog 123 ti123 := TOK.of (z := .nilFunc) ⟨_, Tryd.underlying123, rfl⟩ (by kernel_rfl) (by kernel_rfl) (by kernel_rfl) (by kernel_rfl) (by kernel_rfl)
def ti124 : TI := { kind := .slc 5, size := 1, bytes := 24, zero := [.val (.slice none 0 0)] }
theorem tok124 : TOK Tryd.prog 124 ti124 := TOK.of (z := (.slice none 0 0)) (by kernel_rfl : Tryd.prog.underlying 124 = some (.slice 5)) (by kernel_rfl) (by kernel_rfl) (by kernel_rfl) (by kernel_rfl) (by kernel_rfl)
def ti125 : TI := { kind := .other, size := 1, bytes := 8, zero := [.val .nilFunc] }
theorem tok125 : TOK Tryd.prog 125 ti125 := TOK.of (z := .nilFunc) ⟨_, Tryd.underlying125, rfl⟩ (by kernel_rfl) (by kernel_rfl) (by kernel_rfl) (by kernel_rfl) (by kernel_rfl)
def ti126 : TI := { kind := .other, size := 1, bytes := 8, zero := [.val .nilFunc] }
theorem tok126 : TOK Tryd.prog 126 ti126 := TOK.of (z := .nilFunc) ⟨_, Tryd.underlying126, rfl⟩ (by kernel_rfl) (by kernel_rfl) (by kernel_rfl) (by kernel_rfl) (by kernel_rfl)
def ti127 : TI := { kind := .other, size := 1, bytes := 8, zero := [.val .nilFunc] }
theorem tok127 : TOK Tryd.prog 127 ti127 := TOK.of (z := .nilFunc) ⟨_, Tryd.underlying127, rfl⟩ (by kernel_rfl) (by kernel_rfl) (by kernel_rfl) (by kernel_rfl) (by kernel_rfl)
def ti128 : TI := { kind := .other, size := 1, bytes := 8, zero := [.val .nilFunc] }
theorem tok128 : TOK Tryd.prog 128 ti128 := TOK.of (z := .nilFunc) ⟨_, Tryd.underlying128, rfl⟩ (by kernel_rfl) (by kernel_rfl) (by kernel_rfl) (by kernel_rfl) (by kernel_rfl)
def ti129 : TI := { kind := .other, size := 1, bytes := 8, zero := [.val .nilFunc] }
theorem tok129 : TOK Tryd.prog 129 ti129 := TOK.of (z := .nilFunc) ⟨_, Tryd.underlying129, rfl⟩ (by kernel_rfl) (by kernel_rfl) (by kernel_rfl) (by kernel_rfl) (by kernel_rfl)
def ti130 : TI := { kind := .other, size := 1, bytes := 8, zero := [.val .nilFunc] }
theorem tok130 : TOK Tryd.prog 130 ti130 := TOK.of (z := .nilFunc) ⟨_, Tryd.underlying130, rfl⟩ (by kernel_rfl) (by kernel_rfl) (by kernel_rfl) (by kernel_rfl) (by kernel_rfl)
def ti131 : TI := { kind := .other, size := 1, bytes := 8, zero := [.val .nilFunc] }
theorem tok131 : TOK Tryd.prog 131 ti131 := TOK.of (z := .nilFunc) ⟨_, Tryd.underlying131, rfl⟩ (by kernel_rfl) (by kernel_rfl) (by kernel_rfl) (by kernel_rfl) (by kernel_rfl)
def ti132 : TI := { kind := .other, size := 1, bytes := 8, zero := [.val .nilFunc] }
theorem tok132 : TOK Tryd.prog 132 ti132 := TOK.of (z := .nilFunc) ⟨_, Tryd.underlying132, rfl⟩ (by kernel_rfl) (by kernel_rfl) (by kernel_rfl) (by kernel_rfl) (by kernel_rfl)
def ti133 : TI := { kind := .other, size := 1, bytes := 8, zero := [.val .nilFunc] }
theorem tok133 : TOK Tryd.prog 133 ti133 := TOK.of (z := .nilFunc) ⟨_, Tryd.underlying133, rfl⟩ (by kernel_rfl) (by kernel_rfl) (by kernel_rfl) (by kernel_rfl) (by kernel_rfl)
def ti137 : TI := { kind := .other, size := 1, bytes := 8, zero := [.val .nilFunc] }
theorem tok137 : TOK Tryd.prog 137 ti137 := TOK.of (z := .nilFunc) ⟨_, Tryd.underlying137, rfl⟩ (by kernel_rfl) (by kernel_rfl) (by kernel_rfl) (by kernel_rfl) (by kernel_rfl)
def ti143 : TI := { kind := .other, size := 1, bytes := 8, zero := [.val .nilFunc] }
theorem tok143 : TOK Tryd.prog 143 ti143 := TOK.of (z := .nilFunc) ⟨_, Tryd.underlying143, rfl⟩ (by kernel_rfl) (by kernel_rfl) (by kernel_rfl) (by kernel_rfl) (by kernel_rfl)
def ti146 : TI := { kind := .other, size := 1, bytes := 8, zero := [.val .nilFunc] }
theorem tok146 : TOK Tryd.prog 146 ti146 := TOK.of (z := .nilFunc) ⟨_, Tryd.underlying146, rfl⟩ (by kernel_rfl) (by kernel_rfl) (by kernel_rfl) (by kernel_rfl) (by kernel_rfl)
def ti147 : TI := { kind := .ptr 5, size := 1, bytes := 8, zero := [.val (.pointer none)] }
theorem tok147 : TOK Tryd.prog 147 ti147 := TOK.of (z := (.pointer none)) (by kernel_rfl : Tryd.prog.underlying 147 = some (.pointer 5)) (by kernel_rfl) (by kernel_rfl) (by kernel_rfl) (by kernel_rfl) (by kernel_rfl)
def ti152 : TI := { kind := .agg [(0, 9, 1)], size := 1, bytes := 16, zero := [.val (.string .empty)] }
theorem tok152 : TOK Tryd.prog 152 ti152 := TOK.of (z := .agg #[(.string .empty)]) ⟨by kernel_rfl, by kernel_rfl, by kernel_rfl⟩ (by kernel_rfl) (by kernel_rfl) (by kernel_rfl) (by kernel_rfl) (by kernel_rfl)
def tab : List (TypeId × TI) := [(1, ti1), (2, ti2), (3, ti3), (4, ti4), (5, ti5), (9, ti9), (12, ti12), (13, ti13), (21, ti21), (22, ti22), (23, ti23), (25, ti25), (26, ti26), (27, ti27), (28, ti28), (30, ti30), (31, ti31), (32, ti32), (33, ti33), (34, ti34), (35, ti35), (36, ti36), (37, ti37), (38, ti38), (39, ti39), (40, ti40), (41, ti41), (42, ti42), (43, ti43), (44, ti44), (45, ti45), (46, ti46), (47, ti47), (48, ti48), (49, ti49), (50, ti50), (51, ti51), (52, ti52), (53, ti53), (54, ti54), (55, ti55), (56, ti56), (57, ti57), (58, ti58), (59, ti59), (60, ti60), (61, ti61), (62, ti62), (63, ti63), (64, ti64), (65, ti65), (66, ti66), (67, ti67), (68, ti68), (70, ti70), (71, ti71), (72, ti72), (73, ti73), (74, ti74), (75, ti75), (77, ti77), (78, ti78), (80, ti80), (81, ti81), (82, ti82), (84, ti84), (85, ti85), (86, ti86), (87, ti87), (88, ti88), (89, ti89), (90, ti90), (91, ti91), (92, ti92), (93, ti93), (94, ti94), (95, ti95), (96, ti96), (98, ti98), (99, ti99), (100, ti100), (102, ti102), (103, ti103), (105, ti105), (107, ti107), (108, ti108), (110, ti110), (111, ti111), (112, ti112), (113, ti113), (115, ti115), (116, ti116), (117, ti117), (118, ti118), (120, ti120), (122, ti122), (123, ti123), (124, ti124), (125, ti125), (126, ti126), (127, ti127), (128, ti128), (129, ti129), (130, ti130), (131, ti131), (132, ti132), (133, ti133), (137, ti137), (143, ti143), (146, ti146), (147, ti147), (152, ti152)]
theorem tabOK : TabOK Tryd.prog tab := ⟨tok1, tok2, tok3, tok4, tok5, tok9, tok12, tok13, tok21, tok22, tok23, tok25, tok26, tok27, tok28, tok30, tok31, tok32, tok33, tok34, tok35, tok36, tok37, tok38, tok39, tok40, tok41, tok42, tok43, tok44, tok45, tok46, tok47, tok48, tok49, tok50, tok51, tok52, tok53, tok54, tok55, tok56, tok57, tok58, tok59, tok60, tok61, tok62, tok63, tok64, tok65, tok66, tok67, tok68, tok70, tok71, tok72, tok73, tok74, tok75, tok77, tok78, tok80, tok81, tok82, tok84, tok85, tok86, tok87, tok88, tok89, tok90, tok91, tok92, tok93, tok94, tok95, tok96, tok98, tok99, tok100, tok102, tok103, tok105, tok107, tok108, tok110, tok111, tok112, tok113, tok115, tok116, tok117, tok118, tok120, tok122, tok123, tok124, tok125, tok126, tok127, tok128, tok129, tok130, tok131, tok132, tok133, tok137, tok143, tok146, tok147, tok152, trivial⟩
theorem mixedOK : Tryd.prog.follows .mixedOrders = true := by kernel_rfl
def good : List TypeId := [45, 47, 49, 55]
theorem goodOK : GoodOK Tryd.prog good := by
  have h : good.all (fun t => !Tryd.prog.stoodInHeld t && (Tryd.prog.fieldsOf t).toList.all (fun f => f.name != "_")) = true := by kernel_rfl
  intro t ht; have := List.all_eq_true.1 h t ht; simpa using this
end Go.Proofs.YtghdcjhlhcoijaaDoor
