/- The texts Tab, Cg, Da, Db, Ch, Ck, Cm, Cl, Ea, Eb, Ec, Ed, Ee, Ef. -/
import Derived.Test.YtkpfineikahgfaaGreatDoorRows
import Derived.KernelRfl
import Derived.Laws.Externs
import Derived.Shelf.Abstract
import Derived.Test.YtkpfineikahgfaaGreatDoorQLBareissAdjugate2
namespace Go.Proofs.YtkpfineikahgfaaGreatDoor
open Go.Sx
set_option maxRecDepth 100000
def ti1 : TI := { kind := .other, size := 1, bytes := 8, zero := [.val .nilFunc] }
theorem tok1 : TOK Tryz.prog 1 ti1 := TOK.of (z := .nilFunc) ⟨_, Tryz.underlying1, rfl⟩ (by kernel_rfl) (by kernel_rfl) (by kernel_rfl) (by kernel_rfl) (by kernel_rfl)
def ti2 : TI := { kind := .int .i64, size := 1, bytes := 8, zero := [.val (.int .i64 0)] }
theorem tiB2 : ti2.bytes = 8 := rfl
theorem tok2 : TOK Tryz.prog 2 ti2 := TOK.of (z := (.int .i64 0)) (by kernel_rfl : Tryz.prog.underlying 2 = some (.int .i64)) (by kernel_rfl) (by kernel_rfl) (by kernel_rfl) (by kernel_rfl) (by kernel_rfl)
def ti3 : TI := { kind := .int .i64, size := 1, bytes := 8, zero := [.val (.int .i64 0)] }
theorem tiB3 : ti3.bytes = 8 := rfl
theorem tok3 : TOK Tryz.prog 3 ti3 := TOK.of (z := (.int .i64 0)) (by kernel_rfl : Tryz.prog.underlying 3 = some (.int .i64)) (by kernel_rfl) (by kernel_rfl) (by kernel_rfl) (by kernel_rfl) (by kernel_rfl)
def ti4 : TI := { kind := .bool, size := 1, bytes := 1, zero := [.val (.bool false)] }
theorem tiB4 : ti4.bytes = 1 := rfl
theorem tok4 : TOK Tryz.prog 4 ti4 := TOK.of (z := (.bool false)) (by kernel_rfl : Tryz.prog.underlying 4 = some (.bool)) (by kernel_rfl) (by kernel_rfl) (by kernel_rfl) (by kernel_rfl) (by kernel_rfl)
def ti5 : TI := { kind := .int .u8, size := 1, bytes := 1, zero := [.val (.int .u8 0)] }
theorem tiB5 : ti5.bytes = 1 := rfl
theorem tok5 : TOK Tryz.prog 5 ti5 := TOK.of (z := (.int .u8 0)) (by kernel_rfl : Tryz.prog.underlying 5 = some (.int .u8)) (by kernel_rfl) (by kernel_rfl) (by kernel_rfl) (by kernel_rfl) (by kernel_rfl)
def ti9 : TI := { kind := .str, size := 1, bytes := 16, zero := [.val (.string .empty)] }
theorem tiB9 : ti9.bytes = 16 := rfl
theorem tok9 : TOK Tryz.prog 9 ti9 := TOK.of (z := (.string .empty)) (by kernel_rfl : Tryz.prog.underlying 9 = some (.string)) (by kernel_rfl) (by kernel_rfl) (by kernel_rfl) (by kernel_rfl) (by kernel_rfl)
def ti12 : TI := { kind := .int .u64, size := 1, bytes := 8, zero := [.val (.int .u64 0)] }
theorem tok12 : TOK Tryz.prog 12 ti12 := TOK.of (z := (.int .u64 0)) (by kernel_rfl : Tryz.prog.underlying 12 = some (.int .u64)) (by kernel_rfl) (by kernel_rfl) (by kernel_rfl) (by kernel_rfl) (by kernel_rfl)
def ti13 : TI := { kind := .agg [(0, 9, 1), (1, 12, 1)], size := 2, bytes := 24, zero := [.val (.string .empty), .val (.int .u64 0)] }
theorem tok13 : TOK Tryz.prog 13 ti13 := TOK.of (z := .agg #[(.string .empty), (.int .u64 0)]) ⟨by kernel_rfl, by kernel_rfl, by kernel_rfl⟩ (by kernel_rfl) (by kernel_rfl) (by kernel_rfl) (by kernel_rfl) (by kernel_rfl)
def ti21 : TI := { kind := .int .i32, size := 1, bytes := 4, zero := [.val (.int .i32 0)] }
theorem tok21 : TOK Tryz.prog 21 ti21 := TOK.of (z := (.int .i32 0)) (by kernel_rfl : Tryz.prog.underlying 21 = some (.int .i32)) (by kernel_rfl) (by kernel_rfl) (by kernel_rfl) (by kernel_rfl) (by kernel_rfl)
def ti22 : TI := { kind := .slc 97, size := 1, bytes := 24, zero := [.val (.slice none 0 0)] }
theorem tok22 : TOK Tryz.prog 22 ti22 := TOK.of (z := (.slice none 0 0)) (by kernel_rfl : Tryz.prog.underlying 22 = some (.slice 97)) (by kernel_rfl) (by kernel_rfl) (by kernel_rfl) (by kernel_rfl) (by kernel_rfl)
def ti23 : TI := { kind := .other, size := 1, bytes := 8, zero := [.val .nilFunc] }
theorem tok23 : TOK Tryz.prog 23 ti23 := TOK.of (z := .nilFunc) ⟨_, Tryz.underlying23, rfl⟩ (by kernel_rfl) (by kernel_rfl) (by kernel_rfl) (by kernel_rfl) (by kernel_rfl)
def ti24 : TI := { kind := .int .i64, size := 1, bytes := 8, zero := [.val (.int .i64 0)] }
theorem tok24 : TOK Tryz.prog 24 ti24 := TOK.of (z := (.int .i64 0)) (by kernel_rfl : Tryz.prog.underlying 24 = some (.int .i64)) (by kernel_rfl) (by kernel_rfl) (by kernel_rfl) (by kernel_rfl) (by kernel_rfl)
def ti25 : TI := { kind := .slc 38, size := 1, bytes := 24, zero := [.val (.slice none 0 0)] }
theorem tiB25 : ti25.bytes = 24 := rfl
theorem tok25 : TOK Tryz.prog 25 ti25 := TOK.of (z := (.slice none 0 0)) (by kernel_rfl : Tryz.prog.underlying 25 = some (.slice 38)) (by kernel_rfl) (by kernel_rfl) (by kernel_rfl) (by kernel_rfl) (by kernel_rfl)
def ti26 : TI := { kind := .agg [(0, 3, 1), (1, 3, 1), (2, 25, 1)], size := 3, bytes := 40, zero := [.val (.int .i64 0), .val (.int .i64 0), .val (.slice none 0 0)] }
theorem tok26 : TOK Tryz.prog 26 ti26 := TOK.of (z := .agg #[(.int .i64 0), (.int .i64 0), (.slice none 0 0)]) ⟨by kernel_rfl, by kernel_rfl, by kernel_rfl⟩ (by kernel_rfl) (by kernel_rfl) (by kernel_rfl) (by kernel_rfl) (by kernel_rfl)
def ti27 : TI := { kind := .agg [(0, 3, 1), (1, 3, 1), (2, 25, 1)], size := 3, bytes := 40, zero := [.val (.int .i64 0), .val (.int .i64 0), .val (.slice none 0 0)] }
theorem tiB27 : ti27.bytes = 40 := rfl
theorem tok27 : TOK Tryz.prog 27 ti27 := TOK.of (z := .agg #[(.int .i64 0), (.int .i64 0), (.slice none 0 0)]) ⟨by kernel_rfl, by kernel_rfl, by kernel_rfl⟩ (by kernel_rfl) (by kernel_rfl) (by kernel_rfl) (by kernel_rfl) (by kernel_rfl)
def ti29 : TI := { kind := .other, size := 1, bytes := 8, zero := [.val .nilFunc] }
theorem tok29 : TOK Tryz.prog 29 ti29 := TOK.of (z := .nilFunc) ⟨_, Tryz.underlying29, rfl⟩ (by kernel_rfl) (by kernel_rfl) (by kernel_rfl) (by kernel_rfl) (by kernel_rfl)
def ti30 : TI := { kind := .int .u64, size := 1, bytes := 8, zero := [.val (.int .u64 0)] }
theorem tiB30 : ti30.bytes = 8 := rfl
theorem tok30 : TOK Tryz.prog 30 ti30 := TOK.of (z := (.int .u64 0)) (by kernel_rfl : Tryz.prog.underlying 30 = some (.int .u64)) (by kernel_rfl) (by kernel_rfl) (by kernel_rfl) (by kernel_rfl) (by kernel_rfl)
def ti31 : TI := { kind := .agg [(0, 30, 1), (1, 9, 1)], size := 2, bytes := 24, zero := [.nat 0] }
theorem tok31 : TOK Tryz.prog 31 ti31 := TOK.of (z := .agg #[(.int .u64 0), (.string .empty)]) ⟨by kernel_rfl, by kernel_rfl, by kernel_rfl⟩ (by kernel_rfl) (by kernel_rfl) (by kernel_rfl) (by kernel_rfl) (by kernel_rfl)
def ti32 : TI := { kind := .agg [(0, 30, 1), (1, 9, 1)], size := 2, bytes := 24, zero := [.nat 0] }
theorem tiB32 : ti32.bytes = 24 := rfl
theorem tok32 : TOK Tryz.prog 32 ti32 := TOK.of (z := .agg #[(.int .u64 0), (.string .empty)]) ⟨by kernel_rfl, by kernel_rfl, by kernel_rfl⟩ (by kernel_rfl) (by kernel_rfl) (by kernel_rfl) (by kernel_rfl) (by kernel_rfl)
def ti33 : TI := { kind := .agg [(0, 32, 2)], size := 2, bytes := 24, zero := [.nat 0] }
theorem tok33 : TOK Tryz.prog 33 ti33 := TOK.of (z := .agg #[(.int .u64 0), (.string .empty)]) ⟨by kernel_rfl, by kernel_rfl, by kernel_rfl⟩ (by kernel_rfl) (by kernel_rfl) (by kernel_rfl) (by kernel_rfl) (by kernel_rfl)
def ti34 : TI := { kind := .agg [(0, 32, 2)], size := 2, bytes := 24, zero := [.nat 0] }
theorem tok34 : TOK Tryz.prog 34 ti34 := TOK.of (z := .agg #[(.int .u64 0), (.string .empty)]) ⟨by kernel_rfl, by kernel_rfl, by kernel_rfl⟩ (by kernel_rfl) (by kernel_rfl) (by kernel_rfl) (by kernel_rfl) (by kernel_rfl)
def ti35 : TI := { kind := .agg [(0, 34, 2), (2, 4, 1)], size := 3, bytes := 32, zero := [.int 0] }
theorem tok35 : TOK Tryz.prog 35 ti35 := TOK.of (z := .agg #[(.int .u64 0), (.string .empty), (.bool false)]) ⟨by kernel_rfl, by kernel_rfl, by kernel_rfl⟩ (by kernel_rfl) (by kernel_rfl) (by kernel_rfl) (by kernel_rfl) (by kernel_rfl)
def ti36 : TI := { kind := .agg [(0, 34, 2), (2, 4, 1)], size := 3, bytes := 32, zero := [.int 0] }
theorem tiB36 : ti36.bytes = 32 := rfl
theorem tok36 : TOK Tryz.prog 36 ti36 := TOK.of (z := .agg #[(.int .u64 0), (.string .empty), (.bool false)]) ⟨by kernel_rfl, by kernel_rfl, by kernel_rfl⟩ (by kernel_rfl) (by kernel_rfl) (by kernel_rfl) (by kernel_rfl) (by kernel_rfl)
def ti37 : TI := { kind := .agg [(0, 36, 3), (3, 32, 2)], size := 5, bytes := 56, zero := [.frac 0] }
theorem tok37 : TOK Tryz.prog 37 ti37 := TOK.of (z := .agg #[(.int .u64 0), (.string .empty), (.bool false), (.int .u64 0), (.string .empty)]) ⟨by kernel_rfl, by kernel_rfl, by kernel_rfl⟩ (by kernel_rfl) (by kernel_rfl) (by kernel_rfl) (by kernel_rfl) (by kernel_rfl)
def ti38 : TI := { kind := .agg [(0, 36, 3), (3, 32, 2)], size := 5, bytes := 56, zero := [.frac 0] }
theorem tiB38 : ti38.bytes = 56 := rfl
theorem tok38 : TOK Tryz.prog 38 ti38 := TOK.of (z := .agg #[(.int .u64 0), (.string .empty), (.bool false), (.int .u64 0), (.string .empty)]) ⟨by kernel_rfl, by kernel_rfl, by kernel_rfl⟩ (by kernel_rfl) (by kernel_rfl) (by kernel_rfl) (by kernel_rfl) (by kernel_rfl)
def ti39 : TI := { kind := .other, size := 1, bytes := 8, zero := [.val .nilFunc] }
theorem tok39 : TOK Tryz.prog 39 ti39 := TOK.of (z := .nilFunc) ⟨_, Tryz.underlying39, rfl⟩ (by kernel_rfl) (by kernel_rfl) (by kernel_rfl) (by kernel_rfl) (by kernel_rfl)
def ti40 : TI := { kind := .other, size := 1, bytes := 8, zero := [.val .nilFunc] }
theorem tok40 : TOK Tryz.prog 40 ti40 := TOK.of (z := .nilFunc) ⟨_, Tryz.underlying40, rfl⟩ (by kernel_rfl) (by kernel_rfl) (by kernel_rfl) (by kernel_rfl) (by kernel_rfl)
def ti41 : TI := { kind := .slc 38, size := 1, bytes := 24, zero := [.val (.slice none 0 0)] }
theorem tiB41 : ti41.bytes = 24 := rfl
theorem tok41 : TOK Tryz.prog 41 ti41 := TOK.of (z := (.slice none 0 0)) (by kernel_rfl : Tryz.prog.underlying 41 = some (.slice 38)) (by kernel_rfl) (by kernel_rfl) (by kernel_rfl) (by kernel_rfl) (by kernel_rfl)
def ti42 : TI := { kind := .other, size := 1, bytes := 8, zero := [.val .nilFunc] }
theorem tok42 : TOK Tryz.prog 42 ti42 := TOK.of (z := .nilFunc) ⟨_, Tryz.underlying42, rfl⟩ (by kernel_rfl) (by kernel_rfl) (by kernel_rfl) (by kernel_rfl) (by kernel_rfl)
def ti43 : TI := { kind := .other, size := 1, bytes := 8, zero := [.val .nilFunc] }
theorem tok43 : TOK Tryz.prog 43 ti43 := TOK.of (z := .nilFunc) ⟨_, Tryz.underlying43, rfl⟩ (by kernel_rfl) (by kernel_rfl) (by kernel_rfl) (by kernel_rfl) (by kernel_rfl)
def ti44 : TI := { kind := .other, size := 1, bytes := 8, zero := [.val .nilFunc] }
theorem tok44 : TOK Tryz.prog 44 ti44 := TOK.of (z := .nilFunc) ⟨_, Tryz.underlying44, rfl⟩ (by kernel_rfl) (by kernel_rfl) (by kernel_rfl) (by kernel_rfl) (by kernel_rfl)
def ti45 : TI := { kind := .other, size := 1, bytes := 8, zero := [.val .nilFunc] }
theorem tok45 : TOK Tryz.prog 45 ti45 := TOK.of (z := .nilFunc) ⟨_, Tryz.underlying45, rfl⟩ (by kernel_rfl) (by kernel_rfl) (by kernel_rfl) (by kernel_rfl) (by kernel_rfl)
def ti46 : TI := { kind := .other, size := 1, bytes := 8, zero := [.val .nilFunc] }
theorem tok46 : TOK Tryz.prog 46 ti46 := TOK.of (z := .nilFunc) ⟨_, Tryz.underlying46, rfl⟩ (by kernel_rfl) (by kernel_rfl) (by kernel_rfl) (by kernel_rfl) (by kernel_rfl)
def ti47 : TI := { kind := .slc 2, size := 1, bytes := 24, zero := [.val (.slice none 0 0)] }
theorem tok47 : TOK Tryz.prog 47 ti47 := TOK.of (z := (.slice none 0 0)) (by kernel_rfl : Tryz.prog.underlying 47 = some (.slice 2)) (by kernel_rfl) (by kernel_rfl) (by kernel_rfl) (by kernel_rfl) (by kernel_rfl)
def ti48 : TI := { kind := .agg [(0, 5, 1), (1, 5, 1), (2, 47, 1)], size := 3, bytes := 32, zero := [.val (.int .u8 0), .val (.int .u8 0), .val (.slice none 0 0)] }
theorem tok48 : TOK Tryz.prog 48 ti48 := TOK.of (z := .agg #[(.int .u8 0), (.int .u8 0), (.slice none 0 0)]) ⟨by kernel_rfl, by kernel_rfl, by kernel_rfl⟩ (by kernel_rfl) (by kernel_rfl) (by kernel_rfl) (by kernel_rfl) (by kernel_rfl)
def ti49 : TI := { kind := .agg [(0, 5, 1), (1, 5, 1), (2, 47, 1)], size := 3, bytes := 32, zero := [.val (.int .u8 0), .val (.int .u8 0), .val (.slice none 0 0)] }
theorem tok49 : TOK Tryz.prog 49 ti49 := TOK.of (z := .agg #[(.int .u8 0), (.int .u8 0), (.slice none 0 0)]) ⟨by kernel_rfl, by kernel_rfl, by kernel_rfl⟩ (by kernel_rfl) (by kernel_rfl) (by kernel_rfl) (by kernel_rfl) (by kernel_rfl)
def ti50 : TI := { kind := .other, size := 1, bytes := 8, zero := [.val .nilFunc] }
theorem tok50 : TOK Tryz.prog 50 ti50 := TOK.of (z := .nilFunc) ⟨_, Tryz.underlying50, rfl⟩ (by kernel_rfl) (by kernel_rfl) (by kernel_rfl) (by kernel_rfl) (by kernel_rfl)
def ti52 : TI := { kind := .other, size := 1, bytes := 8, zero := [.val .nilFunc] }
theorem tok52 : TOK Tryz.prog 52 ti52 := TOK.of (z := .nilFunc) ⟨_, Tryz.underlying52, rfl⟩ (by kernel_rfl) (by kernel_rfl) (by kernel_rfl) (by kernel_rfl) (by kernel_rfl)
def ti53 : TI := { kind := .slc 36, size := 1, bytes := 24, zero := [.val (.slice none 0 0)] }
theorem tok53 : TOK Tryz.prog 53 ti53 := TOK.of (z := (.slice none 0 0)) (by kernel_rfl : Tryz.prog.underlying 53 = some (.slice 36)) (by kernel_rfl) (by kernel_rfl) (by kernel_rfl) (by kernel_rfl) (by kernel_rfl)
def ti54 : TI := { kind := .agg [(0, 3, 1), (1, 3, 1), (2, 53, 1)], size := 3, bytes := 40, zero := [.val (.int .i64 0), .val (.int .i64 0), .val (.slice none 0 0)] }
theorem tok54 : TOK Tryz.prog 54 ti54 := TOK.of (z := .agg #[(.int .i64 0), (.int .i64 0), (.slice none 0 0)]) ⟨by kernel_rfl, by kernel_rfl, by kernel_rfl⟩ (by kernel_rfl) (by kernel_rfl) (by kernel_rfl) (by kernel_rfl) (by kernel_rfl)
def ti55 : TI := { kind := .agg [(0, 3, 1), (1, 3, 1), (2, 53, 1)], size := 3, bytes := 40, zero := [.val (.int .i64 0), .val (.int .i64 0), .val (.slice none 0 0)] }
theorem tok55 : TOK Tryz.prog 55 ti55 := TOK.of (z := .agg #[(.int .i64 0), (.int .i64 0), (.slice none 0 0)]) ⟨by kernel_rfl, by kernel_rfl, by kernel_rfl⟩ (by kernel_rfl) (by kernel_rfl) (by kernel_rfl) (by kernel_rfl) (by kernel_rfl)
def ti57 : TI := { kind := .other, size := 1, bytes := 8, zero := [.val .nilFunc] }
theorem tok57 : TOK Tryz.prog 57 ti57 := TOK.of (z := .nilFunc) ⟨_, Tryz.underlying57, rfl⟩ (by kernel_rfl) (by kernel_rfl) (by kernel_rfl) (by kernel_rfl) (by kernel_rfl)
def ti58 : TI := { kind := .other, size := 1, bytes := 8, zero := [.val .nilFunc] }
theorem tok58 : TOK Tryz.prog 58 ti58 := TOK.of (z := .nilFunc) ⟨_, Tryz.underlying58, rfl⟩ (by kernel_rfl) (by kernel_rfl) (by kernel_rfl) (by kernel_rfl) (by kernel_rfl)
def ti59 : TI := { kind := .other, size := 1, bytes := 8, zero := [.val .nilFunc] }
theorem tok59 : TOK Tryz.prog 59 ti59 := TOK.of (z := .nilFunc) ⟨_, Tryz.underlying59, rfl⟩ (by kernel_rfl) (by kernel_rfl) (by kernel_rfl) (by kernel_rfl) (by kernel_rfl)
def ti61 : TI := { kind := .other, size := 1, bytes := 8, zero := [.val .nilFunc] }
theorem tok61 : TOK Tryz.prog 61 ti61 := TOK.of (z := .nilFunc) ⟨_, Tryz.underlying61, rfl⟩ (by kernel_rfl) (by kernel_rfl) (by kernel_rfl) (by kernel_rfl) (by kernel_rfl)
def ti62 : TI := { kind := .slc 3, size := 1, bytes := 24, zero := [.val (.slice none 0 0)] }
theorem tiB62 : ti62.bytes = 24 := rfl
theorem tok62 : TOK Tryz.prog 62 ti62 := TOK.of (z := (.slice none 0 0)) (by kernel_rfl : Tryz.prog.underlying 62 = some (.slice 3)) (by kernel_rfl) (by kernel_rfl) (by kernel_rfl) (by kernel_rfl) (by kernel_rfl)
def ti63 : TI := { kind := .other, size := 1, bytes := 8, zero := [.val .nilFunc] }
theorem tok63 : TOK Tryz.prog 63 ti63 := TOK.of (z := .nilFunc) ⟨_, Tryz.underlying63, rfl⟩ (by kernel_rfl) (by kernel_rfl) (by kernel_rfl) (by kernel_rfl) (by kernel_rfl)
def ti64 : TI := { kind := .slc 164, size := 1, bytes := 24, zero := [.val (.slice none 0 0)] }
theorem tok64 : TOK Tryz.prog 64 ti64 := TOK.of (z := (.slice none 0 0)) (by kernel_rfl : Tryz.prog.underlying 64 = some (.slice 164)) (by kernel_rfl) (by kernel_rfl) (by kernel_rfl) (by kernel_rfl) (by kernel_rfl)
def ti65 : TI := { kind := .other, size := 1, bytes := 8, zero := [.val .nilFunc] }
theorem tok65 : TOK Tryz.prog 65 ti65 := TOK.of (z := .nilFunc) ⟨_, Tryz.underlying65, rfl⟩ (by kernel_rfl) (by kernel_rfl) (by kernel_rfl) (by kernel_rfl) (by kernel_rfl)
def ti66 : TI := { kind := .other, size := 1, bytes := 8, zero := [.val .nilFunc] }
theorem tok66 : TOK Tryz.prog 66 ti66 := TOK.of (z := .nilFunc) ⟨_, Tryz.underlying66, rfl⟩ (by kernel_rfl) (by kernel_rfl) (by kernel_rfl) (by kernel_rfl) (by kernel_rfl)
def ti67 : TI := { kind := .other, size := 1, bytes := 8, zero := [.val .nilFunc] }
theorem tok67 : TOK Tryz.prog 67 ti67 := TOK.of (z := .nilFunc) ⟨_, Tryz.underlying67, rfl⟩ (by kernel_rfl) (by kernel_rfl) (by kernel_rfl) (by kernel_rfl) (by kernel_rfl)
def ti68 : TI := { kind := .other, size := 1, bytes := 8, zero := [.val .nilFunc] }
theorem tok68 : TOK Tryz.prog 68 ti68 := TOK.of (z := .nilFunc) ⟨_, Tryz.underlying68, rfl⟩ (by kernel_rfl) (by kernel_rfl) (by kernel_rfl) (by kernel_rfl) (by kernel_rfl)
def ti69 : TI := { kind := .other, size := 1, bytes := 8, zero := [.val .nilFunc] }
theorem tok69 : TOK Tryz.prog 69 ti69 := TOK.of (z := .nilFunc) ⟨_, Tryz.underlying69, rfl⟩ (by kernel_rfl) (by kernel_rfl) (by kernel_rfl) (by kernel_rfl) (by kernel_rfl)
def ti70 : TI := { kind := .slc 3, size := 1, bytes := 24, zero := [.val (.slice none 0 0)] }
theorem tiB70 : ti70.bytes = 24 := rfl
theorem tok70 : TOK Tryz.prog 70 ti70 := TOK.of (z := (.slice none 0 0)) (by kernel_rfl : Tryz.prog.underlying 70 = some (.slice 3)) (by kernel_rfl) (by kernel_rfl) (by kernel_rfl) (by kernel_rfl) (by kernel_rfl)
def ti71 : TI := { kind := .agg [(0, 4, 1), (1, 70, 1)], size := 2, bytes := 32, zero := [.val (.bool false), .val (.slice none 0 0)] }
theorem tok71 : TOK Tryz.prog 71 ti71 := TOK.of (z := .agg #[(.bool false), (.slice none 0 0)]) ⟨by kernel_rfl, by kernel_rfl, by kernel_rfl⟩ (by kernel_rfl) (by kernel_rfl) (by kernel_rfl) (by kernel_rfl) (by kernel_rfl)
def ti72 : TI := { kind := .agg [(0, 4, 1), (1, 70, 1)], size := 2, bytes := 32, zero := [.val (.bool false), .val (.slice none 0 0)] }
theorem tiB72 : ti72.bytes = 32 := rfl
theorem tok72 : TOK Tryz.prog 72 ti72 := TOK.of (z := .agg #[(.bool false), (.slice none 0 0)]) ⟨by kernel_rfl, by kernel_rfl, by kernel_rfl⟩ (by kernel_rfl) (by kernel_rfl) (by kernel_rfl) (by kernel_rfl) (by kernel_rfl)
def ti73 : TI := { kind := .agg [(0, 72, 2), (2, 70, 1)], size := 3, bytes := 56, zero := [.val (.bool false), .val (.slice none 0 0), .val (.slice none 0 0)] }
theorem tok73 : TOK Tryz.prog 73 ti73 := TOK.of (z := .agg #[(.bool false), (.slice none 0 0), (.slice none 0 0)]) ⟨by kernel_rfl, by kernel_rfl, by kernel_rfl⟩ (by kernel_rfl) (by kernel_rfl) (by kernel_rfl) (by kernel_rfl) (by kernel_rfl)
def ti74 : TI := { kind := .agg [(0, 72, 2), (2, 70, 1)], size := 3, bytes := 56, zero := [.val (.bool false), .val (.slice none 0 0), .val (.slice none 0 0)] }
theorem tiB74 : ti74.bytes = 56 := rfl
theorem tok74 : TOK Tryz.prog 74 ti74 := TOK.of (z := .agg #[(.bool false), (.slice none 0 0), (.slice none 0 0)]) ⟨by kernel_rfl, by kernel_rfl, by kernel_rfl⟩ (by kernel_rfl) (by kernel_rfl) (by kernel_rfl) (by kernel_rfl) (by kernel_rfl)
def ti75 : TI := { kind := .other, size := 1, bytes := 8, zero := [.val .nilFunc] }
theorem tok75 : TOK Tryz.prog 75 ti75 := TOK.of (z := .nilFunc) ⟨_, Tryz.underlying75, rfl⟩ (by kernel_rfl) (by kernel_rfl) (by kernel_rfl) (by kernel_rfl) (by kernel_rfl)
def ti76 : TI := { kind := .other, size := 1, bytes := 8, zero := [.val .nilFunc] }
theorem tok76 : TOK Tryz.prog 76 ti76 := TOK.of (z := .nilFunc) ⟨_, Tryz.underlying76, rfl⟩ (by kernel_rfl) (by kernel_rfl) (by kernel_rfl) (by kernel_rfl) (by kernel_rfl)
def ti77 : TI := { kind := .other, size := 1, bytes := 8, zero := [.val .nilFunc] }
theorem tok77 : TOK Tryz.prog 77 ti77 := TOK.of (z := .nilFunc) ⟨_, Tryz.underlying77, rfl⟩ (by kernel_rfl) (by kernel_rfl) (by kernel_rfl) (by kernel_rfl) (by kernel_rfl)
def ti78 : TI := { kind := .other, size := 1, bytes := 8, zero := [.val .nilFunc] }
theorem tok78 : TOK Tryz.prog 78 ti78 := TOK.of (z := .nilFunc) ⟨_, Tryz.underlying78, rfl⟩ (by kernel_rfl) (by kernel_rfl) (by kernel_rfl) (by kernel_rfl) (by kernel_rfl)
def ti79 : TI := { kind := .other, size := 1, bytes := 8, zero := [.val .nilFunc] }
theorem tok79 : TOK Tryz.prog 79 ti79 := TOK.of (z := .nilFunc) ⟨_, Tryz.underlying79, rfl⟩ (by kernel_rfl) (by kernel_rfl) (by kernel_rfl) (by kernel_rfl) (by kernel_rfl)
def ti80 : TI := { kind := .other, size := 1, bytes := 8, zero := [.val .nilFunc] }
theorem tok80 : TOK Tryz.prog 80 ti80 := TOK.of (z := .nilFunc) ⟨_, Tryz.underlying80, rfl⟩ (by kernel_rfl) (by kernel_rfl) (by kernel_rfl) (by kernel_rfl) (by kernel_rfl)
def ti81 : TI := { kind := .other, size := 1, bytes := 8, zero := [.val .nilFunc] }
theorem tok81 : TOK Tryz.prog 81 ti81 := TOK.of (z := .nilFunc) ⟨_, Tryz.underlying81, rfl⟩ (by kernel_rfl) (by kernel_rfl) (by kernel_rfl) (by kernel_rfl) (by kernel_rfl)
def ti82 : TI := { kind := .other, size := 1, bytes := 8, zero := [.val .nilFunc] }
theorem tok82 : TOK Tryz.prog 82 ti82 := TOK.of (z := .nilFunc) ⟨_, Tryz.underlying82, rfl⟩ (by kernel_rfl) (by kernel_rfl) (by kernel_rfl) (by kernel_rfl) (by kernel_rfl)
def ti83 : TI := { kind := .other, size := 1, bytes := 8, zero := [.val .nilFunc] }
theorem tok83 : TOK Tryz.prog 83 ti83 := TOK.of (z := .nilFunc) ⟨_, Tryz.underlying83, rfl⟩ (by kernel_rfl) (by kernel_rfl) (by kernel_rfl) (by kernel_rfl) (by kernel_rfl)
def ti84 : TI := { kind := .other, size := 1, bytes := 8, zero := [.val .nilFunc] }
theorem tok84 : TOK Tryz.prog 84 ti84 := TOK.of (z := .nilFunc) ⟨_, Tryz.underlying84, rfl⟩ (by kernel_rfl) (by kernel_rfl) (by kernel_rfl) (by kernel_rfl) (by kernel_rfl)
def ti85 : TI := { kind := .other, size := 1, bytes := 8, zero := [.val .nilFunc] }
theorem tok85 : TOK Tryz.prog 85 ti85 := TOK.of (z := .nilFunc) ⟨_, Tryz.underlying85, rfl⟩ (by kernel_rfl) (by kernel_rfl) (by kernel_rfl) (by kernel_rfl) (by kernel_rfl)
def ti86 : TI := { kind := .other, size := 1, bytes := 8, zero := [.val .nilFunc] }
theorem tok86 : TOK Tryz.prog 86 ti86 := TOK.of (z := .nilFunc) ⟨_, Tryz.underlying86, rfl⟩ (by kernel_rfl) (by kernel_rfl) (by kernel_rfl) (by kernel_rfl) (by kernel_rfl)
def ti87 : TI := { kind := .slc 32, size := 1, bytes := 24, zero := [.val (.slice none 0 0)] }
theorem tok87 : TOK Tryz.prog 87 ti87 := TOK.of (z := (.slice none 0 0)) (by kernel_rfl : Tryz.prog.underlying 87 = some (.slice 32)) (by kernel_rfl) (by kernel_rfl) (by kernel_rfl) (by kernel_rfl) (by kernel_rfl)
def ti89 : TI := { kind := .other, size := 1, bytes := 8, zero := [.val .nilFunc] }
theorem tok89 : TOK Tryz.prog 89 ti89 := TOK.of (z := .nilFunc) ⟨_, Tryz.underlying89, rfl⟩ (by kernel_rfl) (by kernel_rfl) (by kernel_rfl) (by kernel_rfl) (by kernel_rfl)
def ti91 : TI := { kind := .other, size := 1, bytes := 8, zero := [.val .nilFunc] }
theorem tok91 : TOK Tryz.prog 91 ti91 := TOK.of (z := .nilFunc) ⟨_, Tryz.underlying91, rfl⟩ (by kernel_rfl) (by kernel_rfl) (by kernel_rfl) (by kernel_rfl) (by kernel_rfl)
def ti92 : TI := { kind := .other, size := 1, bytes := 8, zero := [.val .nilFunc] }
theorem tok92 : TOK Tryz.prog 92 ti92 := TOK.of (z := .nilFunc) ⟨_, Tryz.underlying92, rfl⟩ (by kernel_rfl) (by kernel_rfl) (by kernel_rfl) (by kernel_rfl) (by kernel_rfl)
def ti93 : TI := { kind := .other, size := 1, bytes := 8, zero := [.val .nilFunc] }
theorem tok93 : TOK Tryz.prog 93 ti93 := TOK.of (z := .nilFunc) ⟨_, Tryz.underlying93, rfl⟩ (by kernel_rfl) (by kernel_rfl) (by kernel_rfl) (by kernel_rfl) (by kernel_rfl)
def ti94 : TI := { kind := .other, size := 1, bytes := 8, zero := [.val .nilFunc] }
theorem tok94 : TOK Tryz.prog 94 ti94 := TOK.of (z := .nilFunc) ⟨_, Tryz.underlying94, rfl⟩ (by kernel_rfl) (by kernel_rfl) (by kernel_rfl) (by kernel_rfl) (by kernel_rfl)
def ti95 : TI := { kind := .int .u32, size := 1, bytes := 4, zero := [.val (.int .u32 0)] }
theorem tiB95 : ti95.bytes = 4 := rfl
theorem tok95 : TOK Tryz.prog 95 ti95 := TOK.of (z := (.int .u32 0)) (by kernel_rfl : Tryz.prog.underlying 95 = some (.int .u32)) (by kernel_rfl) (by kernel_rfl) (by kernel_rfl) (by kernel_rfl) (by kernel_rfl)
def ti96 : TI := { kind := .agg [(0, 2, 1), (1, 95, 1)], size := 2, bytes := 16, zero := [.val (.int .i64 0), .val (.int .u32 0)] }
theorem tok96 : TOK Tryz.prog 96 ti96 := TOK.of (z := .agg #[(.int .i64 0), (.int .u32 0)]) ⟨by kernel_rfl, by kernel_rfl, by kernel_rfl⟩ (by kernel_rfl) (by kernel_rfl) (by kernel_rfl) (by kernel_rfl) (by kernel_rfl)
def ti97 : TI := { kind := .agg [(0, 2, 1), (1, 95, 1)], size := 2, bytes := 16, zero := [.val (.int .i64 0), .val (.int .u32 0)] }
theorem tok97 : TOK Tryz.prog 97 ti97 := TOK.of (z := .agg #[(.int .i64 0), (.int .u32 0)]) ⟨by kernel_rfl, by kernel_rfl, by kernel_rfl⟩ (by kernel_rfl) (by kernel_rfl) (by kernel_rfl) (by kernel_rfl) (by kernel_rfl)
def ti98 : TI := { kind := .agg [(0, 5, 1), (1, 5, 1), (2, 22, 1)], size := 3, bytes := 32, zero := [.val (.int .u8 0), .val (.int .u8 0), .val (.slice none 0 0)] }
theorem tok98 : TOK Tryz.prog 98 ti98 := TOK.of (z := .agg #[(.int .u8 0), (.int .u8 0), (.slice none 0 0)]) ⟨by kernel_rfl, by kernel_rfl, by kernel_rfl⟩ (by kernel_rfl) (by kernel_rfl) (by kernel_rfl) (by kernel_rfl) (by kernel_rfl)
def ti99 : TI := { kind := .agg [(0, 5, 1), (1, 5, 1), (2, 22, 1)], size := 3, bytes := 32, zero := [.val (.int .u8 0), .val (.int .u8 0), .val (.slice none 0 0)] }
theorem tok99 : TOK Tryz.prog 99 ti99 := TOK.of (z := .agg #[(.int .u8 0), (.int .u8 0), (.slice none 0 0)]) ⟨by kernel_rfl, by kernel_rfl, by kernel_rfl⟩ (by kernel_rfl) (by kernel_rfl) (by kernel_rfl) (by kernel_rfl) (by kernel_rfl)
def ti100 : TI := { kind := .other, size := 1, bytes := 8, zero := [.val .nilFunc] }
theorem tok100 : TOK Tryz.prog 100 ti100 := TOK.of (z := .nilFunc) ⟨_, Tryz.underlying100, rfl⟩ (by kernel_rfl) (by kernel_rfl) (by kernel_rfl) (by kernel_rfl) (by kernel_rfl)
def ti101 : TI := { kind := .other, size := 1, bytes := 8, zero := [.val .nilFunc] }
theorem tok101 : TOK Tryz.prog 101 ti101 := TOK.of (z := .nilFunc) ⟨_, Tryz.underlying101, rfl⟩ (by kernel_rfl) (by kernel_rfl) (by kernel_rfl) (by kernel_rfl) (by kernel_rfl)
def ti102 : TI := { kind := .other, size := 1, bytes := 8, zero := [.val .nilFunc] }
theorem tok102 : TOK Tryz.prog 102 ti102 := TOK.of (z := .nilFunc) ⟨_, Tryz.underlying102, rfl⟩ (by kernel_rfl) (by kernel_rfl) (by kernel_rfl) (by kernel_rfl) (by kernel_rfl)
def ti103 : TI := { kind := .other, size := 1, bytes := 8, zero := [.val .nilFunc] }
theorem tok103 : TOK Tryz.prog 103 ti103 := TOK.of (z := .nilFunc) ⟨_, Tryz.underlying103, rfl⟩ (by kernel_rfl) (by kernel_rfl) (by kernel_rfl) (by kernel_rfl) (by kernel_rfl)
def ti104 : TI := { kind := .other, size := 1, bytes := 8, zero := [.val .nilFunc] }
theorem tok104 : TOK Tryz.prog 104 ti104 := TOK.of (z := .nilFunc) ⟨_, Tryz.underlying104, rfl⟩ (by kernel_rfl) (by kernel_rfl) (by kernel_rfl) (by kernel_rfl) (by kernel_rfl)
def ti105 : TI := { kind := .other, size := 1, bytes := 8, zero := [.val .nilFunc] }
theorem tok105 : TOK Tryz.prog 105 ti105 := TOK.of (z := .nilFunc) ⟨_, Tryz.underlying105, rfl⟩ (by kernel_rfl) (by kernel_rfl) (by kernel_rfl) (by kernel_rfl) (by kernel_rfl)
def ti106 : TI := { kind := .other, size := 1, bytes := 8, zero := [.val .nilFunc] }
theorem tok106 : TOK Tryz.prog 106 ti106 := TOK.of (z := .nilFunc) ⟨_, Tryz.underlying106, rfl⟩ (by kernel_rfl) (by kernel_rfl) (by kernel_rfl) (by kernel_rfl) (by kernel_rfl)
def ti107 : TI := { kind := .other, size := 1, bytes := 8, zero := [.val .nilFunc] }
theorem tok107 : TOK Tryz.prog 107 ti107 := TOK.of (z := .nilFunc) ⟨_, Tryz.underlying107, rfl⟩ (by kernel_rfl) (by kernel_rfl) (by kernel_rfl) (by kernel_rfl) (by kernel_rfl)
def ti108 : TI := { kind := .other, size := 1, bytes := 8, zero := [.val .nilFunc] }
theorem tok108 : TOK Tryz.prog 108 ti108 := TOK.of (z := .nilFunc) ⟨_, Tryz.underlying108, rfl⟩ (by kernel_rfl) (by kernel_rfl) (by kernel_rfl) (by kernel_rfl) (by kernel_rfl)
def ti110 : TI := { kind := .other, size := 1, bytes := 8, zero := [.val .nilFunc] }
theorem tok110 : TOK Tryz.prog 110 ti110 := TOK.of (z := .nilFunc) ⟨_, Tryz.underlying110, rfl⟩ (by kernel_rfl) (by kernel_rfl) (by kernel_rfl) (by kernel_rfl) (by kernel_rfl)
def ti111 : TI := { kind := .other, size := 1, bytes := 8, zero := [.val .nilFunc] }
theorem tok111 : TOK Tryz.prog 111 ti111 := TOK.of (z := .nilFunc) ⟨_, Tryz.underlying111, rfl⟩ (by kernel_rfl) (by kernel_rfl) (by kernel_rfl) (by kernel_rfl) (by kernel_rfl)
def ti112 : TI := { kind := .other, size := 1, bytes := 8, zero := [.val .nilFunc] }
theorem tok112 : TOK Tryz.prog 112 ti112 := TOK.of (z := .nilFunc) ⟨_, Tryz.underlying112, rfl⟩ (by kernel_rfl) (by kernel_rfl) (by kernel_rfl) (by kernel_rfl) (by kernel_rfl)
def ti113 : TI := { kind := .other, size := 1, bytes := 8, zero := [.val .nilFunc] }
theorem tok113 : TOK Tryz.prog 113 ti113 := TOK.of (z := .nilFunc) ⟨_, Tryz.underlying113, rfl⟩ (by kernel_rfl) (by kernel_rfl) (by kernel_rfl) (by kernel_rfl) (by kernel_rfl)
def ti114 : TI := { kind := .other, size := 1, bytes := 8, zero := [.val .nilFunc] }
theorem tok114 : TOK Tryz.prog 114 ti114 := TOK.of (z := .nilFunc) ⟨_, Tryz.underlying114, rfl⟩ (by kernel_rfl) (by kernel_rfl) (by kernel_rfl) (by kernel_rfl) (by kernel_rfl)
def ti115 : TI := { kind := .other, size := 1, bytes := 8, zero := [.val .nilFunc] }
theorem tok115 : TOK Tryz.prog 115 ti115 := TOK.of (z := .nilFunc) ⟨_, Tryz.underlying115, rfl⟩ (by kernel_rfl) (by kernel_rfl) (by kernel_rfl) (by kernel_rfl) (by kernel_rfl)
def ti116 : TI := { kind := .other, size := 1, bytes := 8, zero := [.val .nilFunc] }
theorem tok116 : TOK Tryz.prog 116 ti116 := TOK.of (z := .nilFunc) ⟨_, Tryz.underlying116, rfl⟩ (by kernel_rfl) (by kernel_rfl) (by kernel_rfl) (by kernel_rfl) (by kernel_rfl)
def ti117 : TI := { kind := .other, size := 1, bytes := 8, zero := [.val .nilFunc] }
theorem tok117 : TOK Tryz.prog 117 ti117 := TOK.of (z := .nilFunc) ⟨_, Tryz.underlying117, rfl⟩ (by kernel_rfl) (by kernel_rfl) (by kernel_rfl) (by kernel_rfl) (by kernel_rfl)
def ti118 : TI := { kind := .other, size := 1, bytes := 8, zero := [.val .nilFunc] }
theorem tok118 : TOK Tryz.prog 118 ti118 := TOK.of (z := .nilFunc) ⟨_, Tryz.underlying118, rfl⟩ (by kernel_rfl) (by kernel_rfl) (by kernel_rfl) (by kernel_rfl) (by kernel_rfl)
def ti120 : TI := { kind := .other, size := 1, bytes := 8, zero := [.val .nilFunc] }
theorem tok120 : TOK Tryz.prog 120 ti120 := TOK.of (z := .nilFunc) ⟨_, Tryz.underlying120, rfl⟩ (by kernel_rfl) (by kernel_rfl) (by kernel_rfl) (by kernel_rfl) (by kernel_rfl)
def ti121 : TI := { kind := .other, size := 1, bytes := 8, zero := [.val .nilFunc] }
theorem tok121 : TOK Tryz.prog 121 ti121 := TOK.of (z := .nilFunc) ⟨_, Tryz.underlying121, rfl⟩ (by kernel_rfl) (by kernel_rfl) (by kernel_rfl) (by kernel_rfl) (by kernel_rfl)
def ti122 : TI := { kind := .other, size := 1, bytes := 8, zero := [.val .nilFunc] }
theorem tok122 : TOK Tryz.prog 122 ti122 := TOK.of (z := .nilFunc) ⟨_, Tryz.underlying122, rfl⟩ (by kernel_rfl) (by kernel_rfl) (by kernel_rfl) (by kernel_rfl) (by kernel_rfl)
def ti123 : TI := { kind := .other, size := 1, bytes := 8, zero := [.val .nilFunc] }
theorem tok123 : TOK Tryz.prog 123 ti123 := TOK.of (z := .nilFunc) ⟨_, Tryz.underlying123, rfl⟩ (by kernel_rfl) (by kernel_rfl) (by kernel_rfl) (by kernel_rfl) (by kernel_rfl)
def ti124 : TI := { kind := .other, size := 1, bytes := 8, zero := [.val .nilFunc] }
theorem tok124 : TOK Tryz.prog 124 ti124 := TOK.of (z := .nilFunc) ⟨_, Tryz.underlying124, rfl⟩ (by kernel_rfl) (by kernel_rfl) (by kernel_rfl) (by kernel_rfl) (by kernel_rfl)
def ti125 : TI := { kind := .other, size := 1, bytes := 8, zero := [.val .nilFunc] }
theorem tok125 : TOK Tryz.prog 125 ti125 := TOK.of (z := .nilFunc) ⟨_, Tryz.underlying125, rfl⟩ (by kernel_rfl) (by kernel_rfl) (by kernel_rfl) (by kernel_rfl) (by kernel_rfl)
def ti126 : TI := { kind := .other, size := 1, bytes := 8, zero := [.val .nilFunc] }
theorem tok126 : TOK Tryz.prog 126 ti126 := TOK.of (z := .nilFunc) ⟨_, Tryz.underlying126, rfl⟩ (by kernel_rfl) (by kernel_rfl) (by kernel_rfl) (by kernel_rfl) (by kernel_rfl)
def ti127 : TI := { kind := .slc 41, size := 1, bytes := 24, zero := [.val (.slice none 0 0)] }
theorem tok127 : TOK Tryz.prog 127 ti127 := TOK.of (z := (.slice none 0 0)) (by kernel_rfl : Tryz.prog.underlying 127 = some (.slice 41)) (by kernel_rfl) (by kernel_rfl) (by kernel_rfl) (by kernel_rfl) (by kernel_rfl)
def ti128 : TI := { kind := .agg [(0, 41, 1), (1, 127, 1)], size := 2, bytes := 48, zero := [.val (.slice none 0 0), .val (.slice none 0 0)] }
theorem tok128 : TOK Tryz.prog 128 ti128 := TOK.of (z := .agg #[(.slice none 0 0), (.slice none 0 0)]) ⟨by kernel_rfl, by kernel_rfl, by kernel_rfl⟩ (by kernel_rfl) (by kernel_rfl) (by kernel_rfl) (by kernel_rfl) (by kernel_rfl)
def ti129 : TI := { kind := .agg [(0, 41, 1), (1, 127, 1)], size := 2, bytes := 48, zero := [.val (.slice none 0 0), .val (.slice none 0 0)] }
theorem tok129 : TOK Tryz.prog 129 ti129 := TOK.of (z := .agg #[(.slice none 0 0), (.slice none 0 0)]) ⟨by kernel_rfl, by kernel_rfl, by kernel_rfl⟩ (by kernel_rfl) (by kernel_rfl) (by kernel_rfl) (by kernel_rfl) (by kernel_rfl)
def ti131 : TI := { kind := .other, size := 1, bytes := 8, zero := [.val .nilFunc] }
theorem tok131 : TOK Tryz.prog 131 ti131 := TOK.of (z := .nilFunc) ⟨_, Tryz.underlying131, rfl⟩ (by kernel_rfl) (by kernel_rfl) (by kernel_rfl) (by kernel_rfl) (by kernel_rfl)
def ti132 : TI := { kind := .other, size := 1, bytes := 8, zero := [.val .nilFunc] }
theorem tok132 : TOK Tryz.prog 132 ti132 := TOK.of (z := .nilFunc) ⟨_, Tryz.underlying132, rfl⟩ (by kernel_rfl) (by kernel_rfl) (by kernel_rfl) (by kernel_rfl) (by kernel_rfl)
def ti133 : TI := { kind := .other, size := 1, bytes := 8, zero := [.val .nilFunc] }
theorem tok133 : TOK Tryz.prog 133 ti133 := TOK.of (z := .nilFunc) ⟨_, Tryz.underlying133, rfl⟩ (by kernel_rfl) (by kernel_rfl) (by kernel_rfl) (by kernel_rfl) (by kernel_rfl)
def ti134 : TI := { kind := .other, size := 1, bytes := 8, zero := [.val .nilFunc] }
theorem tok134 : TOK Tryz.prog 134 ti134 := TOK.of (z := .nilFunc) ⟨_, Tryz.underlying134, rfl⟩ (by kernel_rfl) (by kernel_rfl) (by kernel_rfl) (by kernel_rfl) (by kernel_rfl)
def ti135 : TI := { kind := .other, size := 1, bytes := 8, zero := [.val .nilFunc] }
theorem tok135 : TOK Tryz.prog 135 ti135 := TOK.of (z := .nilFunc) ⟨_, Tryz.underlying135, rfl⟩ (by kernel_rfl) (by kernel_rfl) (by kernel_rfl) (by kernel_rfl) (by kernel_rfl)
def ti136 : TI := { kind := .other, size := 1, bytes := 8, zero := [.val .nilFunc] }
theorem tok136 : TOK Tryz.prog 136 ti136 := TOK.of (z := .nilFunc) ⟨_, Tryz.underlying136, rfl⟩ (by kernel_rfl) (by kernel_rfl) (by kernel_rfl) (by kernel_rfl) (by kernel_rfl)
def ti137 : TI := { kind := .other, size := 1, bytes := 8, zero := [.val .nilFunc] }
theorem tok137 : TOK Tryz.prog 137 ti137 := TOK.of (z := .nilFunc) ⟨_, Tryz.underlying137, rfl⟩ (by kernel_rfl) (by kernel_rfl) (by kernel_rfl) (by kernel_rfl) (by kernel_rfl)
def ti138 : TI := { kind := .other, size := 1, bytes := 8, zero := [.val .nilFunc] }
theorem tok138 : TOK Tryz.prog 138 ti138 := TOK.of (z := .nilFunc) ⟨_, Tryz.underlying138, rfl⟩ (by kernel_rfl) (by kernel_rfl) (by kernel_rfl) (by kernel_rfl) (by kernel_rfl)
def ti139 : TI := { kind := .other, size := 1, bytes := 8, zero := [.val .nilFunc] }
theorem tok139 : TOK Tryz.prog 139 ti139 := TOK.of (z := .nilFunc) ⟨_, Tryz.underlying139, rfl⟩ (by kernel_rfl) (by kernel_rfl) (by kernel_rfl) (by kernel_rfl) (by kernel_rfl)
def ti140 : TI := { kind := .other, size := 1, bytes := 8, zero := [.val .nilFunc] }
theorem tok140 : TOK Tryz.prog 140 ti140 := TOK.of (z := .nilFunc) ⟨_, Tryz.underlying140, rfl⟩ (by kernel_rfl) (by kernel_rfl) (by kernel_rfl) (by kernel_rfl) (by kernel_rfl)
def ti141 : TI := { kind := .other, size := 1, bytes := 8, zero := [.val .nilFunc] }
theorem tok141 : TOK Tryz.prog 141 ti141 := TOK.of (z := .nilFunc) ⟨_, Tryz.underlying141, rfl⟩ (by kernel_rfl) (by kernel_rfl) (by kernel_rfl) (by kernel_rfl) (by kernel_rfl)
def ti142 : TI := { kind := .other, size := 1, bytes := 8, zero := [.val .nilFunc] }
theorem tok142 : TOK Tryz.prog 142 ti142 := TOK.of (z := .nilFunc) ⟨_, Tryz.underlying142, rfl⟩ (by kernel_rfl) (by kernel_rfl) (by kernel_rfl) (by kernel_rfl) (by kernel_rfl)
def ti143 : TI := { kind := .other, size := 1, bytes := 8, zero := [.val .nilFunc] }
theorem tok143 : TOK Tryz.prog 143 ti143 := TOK.of (z := .nilFunc) ⟨_, Tryz.underlying143, rfl⟩ (by kernel_rfl) (by kernel_rfl) (by kernel_rfl) (by kernel_rfl) (by kernel_rfl)
def ti144 : TI := { kind := .other, size := 1, bytes := 8, zero := [.val .nilFunc] }
theorem tok144 : TOK Tryz.prog 144 ti144 := TOK.of (z := .nilFunc) ⟨_, Tryz.underlying144, rfl⟩ (by kernel_rfl) (by kernel_rfl) (by kernel_rfl) (by kernel_rfl) (by kernel_rfl)
def ti145 : TI := { kind := .slc 49, size := 1, bytes := 24, zero := [.val (.slice none 0 0)] }
theorem tok145 : TOK Tryz.prog 145 ti145 := TOK.of (z := (.slice none 0 0)) (by kernel_rfl : Tryz.prog.underlying 145 = some (.slice 49)) (by kernel_rfl) (by kernel_rfl) (by kernel_rfl) (by kernel_rfl) (by kernel_rfl)
def ti146 : TI := { kind := .other, size := 1, bytes := 8, zero := [.val .nilFunc] }
theorem tok146 : TOK Tryz.prog 146 ti146 := TOK.of (z := .nilFunc) ⟨_, Tryz.underlying146, rfl⟩ (by kernel_rfl) (by kernel_rfl) (by kernel_rfl) (by kernel_rfl) (by kernel_rfl)
def ti147 : TI := { kind := .other, size := 1, bytes := 8, zero := [.val .nilFunc] }
theorem tok147 : TOK Tryz.prog 147 ti147 := TOK.of (z := .nilFunc) ⟨_, Tryz.underlying147, rfl⟩ (by kernel_rfl) (by kernel_rfl) (by kernel_rfl) (by kernel_rfl) (by kernel_rfl)
def ti148 : TI := { kind := .agg [(0, 55, 3), (3, 36, 3), (6, 3, 1)], size := 7, bytes := 80, zero := [.val (.int .i64 0), .val (.int .i64 0), .val (.slice none 0 0), .int 0, .val (.int .i64 0)] }
theorem tok148 : TOK Tryz.prog 148 ti148 := TOK.of (z := .agg #[(.int .i64 0), (.int .i64 0), (.slice none 0 0), (.int .u64 0), (.string .empty), (.bool false), (.int .i64 0)]) ⟨by kernel_rfl, by kernel_rfl, by kernel_rfl⟩ (by kernel_rfl) (by kernel_rfl) (by kernel_rfl) (by kernel_rfl) (by kernel_rfl)
def ti149 : TI := { kind := .agg [(0, 55, 3), (3, 36, 3), (6, 3, 1)], size := 7, bytes := 80, zero := [.val (.int .i64 0), .val (.int .i64 0), .val (.slice none 0 0), .int 0, .val (.int .i64 0)] }
theorem tok149 : TOK Tryz.prog 149 ti149 := TOK.of (z := .agg #[(.int .i64 0), (.int .i64 0), (.slice none 0 0), (.int .u64 0), (.string .empty), (.bool false), (.int .i64 0)]) ⟨by kernel_rfl, by kernel_rfl, by kernel_rfl⟩ (by kernel_rfl) (by kernel_rfl) (by kernel_rfl) (by kernel_rfl) (by kernel_rfl)
def ti150 : TI := { kind := .other, size := 1, bytes := 8, zero := [.val .nilFunc] }
theorem tok150 : TOK Tryz.prog 150 ti150 := TOK.of (z := .nilFunc) ⟨_, Tryz.underlying150, rfl⟩ (by kernel_rfl) (by kernel_rfl) (by kernel_rfl) (by kernel_rfl) (by kernel_rfl)
def ti151 : TI := { kind := .other, size := 1, bytes := 8, zero := [.val .nilFunc] }
theorem tok151 : TOK Tryz.prog 151 ti151 := TOK.of (z := .nilFunc) ⟨_, Tryz.underlying151, rfl⟩ (by kernel_rfl) (by kernel_rfl) (by kernel_rfl) (by kernel_rfl) (by kernel_rfl)
def ti152 : TI := { kind := .other, size := 1, bytes := 8, zero := [.val .nilFunc] }
theorem tok152 : TOK Tryz.prog 152 ti152 := TOK.of (z := .nilFunc) ⟨_, Tryz.underlying152, rfl⟩ (by kernel_rfl) (by kernel_rfl) (by kernel_rfl) (by kernel_rfl) (by kernel_rfl)
def ti153 : TI := { kind := .other, size := 1, bytes := 8, zero := [.val .nilFunc] }
theorem tok153 : TOK Tryz.prog 153 ti153 := TOK.of (z := .nilFunc) ⟨_, Tryz.underlying153, rfl⟩ (by kernel_rfl) (by kernel_rfl) (by kernel_rfl) (by kernel_rfl) (by kernel_rfl)
def ti154 : TI := { kind := .other, size := 1, bytes := 8, zero := [.val .nilFunc] }
theorem tok154 : TOK Tryz.prog 154 ti154 := TOK.of (z := .nilFunc) ⟨_, Tryz.underlying154, rfl⟩ (by kernel_rfl) (by kernel_rfl) (by kernel_rfl) (by kernel_rfl) (by kernel_rfl)
def ti155 : TI := { kind := .other, size := 1, bytes := 8, zero := [.val .nilFunc] }
theorem tok155 : TOK Tryz.prog 155 ti155 := TOK.of (z := .nilFunc) ⟨_, Tryz.underlying155, rfl⟩ (by kernel_rfl) (by kernel_rfl) (by kernel_rfl) (by kernel_rfl) (by kernel_rfl)
def ti156 : TI := { kind := .other, size := 1, bytes := 8, zero := [.val .nilFunc] }
theorem tok156 : TOK Tryz.prog 156 ti156 := TOK.of (z := .nilFunc) ⟨_, Tryz.underlying156, rfl⟩ (by kernel_rfl) (by kernel_rfl) (by kernel_rfl) (by kernel_rfl) (by kernel_rfl)
def ti157 : TI := { kind := .other, size := 1, bytes := 8, zero := [.val .nilFunc] }
theorem tok157 : TOK Tryz.prog 157 ti157 := TOK.of (z := .nilFunc) ⟨_, Tryz.underlying157, rfl⟩ (by kernel_rfl) (by kernel_rfl) (by kernel_rfl) (by kernel_rfl) (by kernel_rfl)
def ti158 : TI := { kind := .other, size := 1, bytes := 8, zero := [.val .nilFunc] }
theorem tok158 : TOK Tryz.prog 158 ti158 := TOK.of (z := .nilFunc) ⟨_, Tryz.underlying158, rfl⟩ (by kernel_rfl) (by kernel_rfl) (by kernel_rfl) (by kernel_rfl) (by kernel_rfl)
def ti159 : TI := { kind := .other, size := 1, bytes := 8, zero := [.val .nilFunc] }
theorem tok159 : TOK Tryz.prog 159 ti159 := TOK.of (z := .nilFunc) ⟨_, Tryz.underlying159, rfl⟩ (by kernel_rfl) (by kernel_rfl) (by kernel_rfl) (by kernel_rfl) (by kernel_rfl)
def ti160 : TI := { kind := .other, size := 1, bytes := 8, zero := [.val .nilFunc] }
theorem tok160 : TOK Tryz.prog 160 ti160 := TOK.of (z := .nilFunc) ⟨_, Tryz.underlying160, rfl⟩ (by kernel_rfl) (by kernel_rfl) (by kernel_rfl) (by kernel_rfl) (by kernel_rfl)
def ti161 : TI := { kind := .other, size := 1, bytes := 8, zero := [.val .nilFunc] }
theorem tok161 : TOK Tryz.prog 161 ti161 := TOK.of (z := .nilFunc) ⟨_, Tryz.underlying161, rfl⟩ (by kernel_rfl) (by kernel_rfl) (by kernel_rfl) (by kernel_rfl) (by kernel_rfl)
def ti162 : TI := { kind := .agg [(0, 3, 1), (1, 64, 1)], size := 2, bytes := 32, zero := [.val (.int .i64 0), .val (.slice none 0 0)] }
theorem tok162 : TOK Tryz.prog 162 ti162 := TOK.of (z := .agg #[(.int .i64 0), (.slice none 0 0)]) ⟨by kernel_rfl, by kernel_rfl, by kernel_rfl⟩ (by kernel_rfl) (by kernel_rfl) (by kernel_rfl) (by kernel_rfl) (by kernel_rfl)
def ti163 : TI := { kind := .agg [(0, 3, 1), (1, 64, 1)], size := 2, bytes := 32, zero := [.val (.int .i64 0), .val (.slice none 0 0)] }
theorem tok163 : TOK Tryz.prog 163 ti163 := TOK.of (z := .agg #[(.int .i64 0), (.slice none 0 0)]) ⟨by kernel_rfl, by kernel_rfl, by kernel_rfl⟩ (by kernel_rfl) (by kernel_rfl) (by kernel_rfl) (by kernel_rfl) (by kernel_rfl)
def ti164 : TI := { kind := .slc 74, size := 1, bytes := 24, zero := [.val (.slice none 0 0)] }
theorem tiB164 : ti164.bytes = 24 := rfl
theorem tok164 : TOK Tryz.prog 164 ti164 := TOK.of (z := (.slice none 0 0)) (by kernel_rfl : Tryz.prog.underlying 164 = some (.slice 74)) (by kernel_rfl) (by kernel_rfl) (by kernel_rfl) (by kernel_rfl) (by kernel_rfl)
def ti165 : TI := { kind := .other, size := 1, bytes := 8, zero := [.val .nilFunc] }
theorem tok165 : TOK Tryz.prog 165 ti165 := TOK.of (z := .nilFunc) ⟨_, Tryz.underlying165, rfl⟩ (by kernel_rfl) (by kernel_rfl) (by kernel_rfl) (by kernel_rfl) (by kernel_rfl)
def ti166 : TI := { kind := .other, size := 1, bytes := 8, zero := [.val .nilFunc] }
theorem tok166 : TOK Tryz.prog 166 ti166 := TOK.of (z := .nilFunc) ⟨_, Tryz.underlying166, rfl⟩ (by kernel_rfl) (by kernel_rfl) (by kernel_rfl) (by kernel_rfl) (by kernel_rfl)
def ti167 : TI := { kind := .other, size := 1, bytes := 8, zero := [.val .nilFunc] }
theorem tok167 : TOK Tryz.prog 167 ti167 := TOK.of (z := .nilFunc) ⟨_, Tryz.underlying167, rfl⟩ (by kernel_rfl) (by kernel_rfl) (by kernel_rfl) (by kernel_rfl) (by kernel_rfl)
def ti168 : TI := { kind := .other, size := 1, bytes := 8, zero := [.val .nilFunc] }
theorem tok168 : TOK Tryz.prog 168 ti168 := TOK.of (z := .nilFunc) ⟨_, Tryz.underlying168, rfl⟩ (by kernel_rfl) (by kernel_rfl) (by kernel_rfl) (by kernel_rfl) (by kernel_rfl)
def ti169 : TI := { kind := .other, size := 1, bytes := 8, zero := [.val .nilFunc] }
theorem tok169 : TOK Tryz.prog 169 ti169 := TOK.of (z := .nilFunc) ⟨_, Tryz.underlying169, rfl⟩ (by kernel_rfl) (by kernel_rfl) (by kernel_rfl) (by kernel_rfl) (by kernel_rfl)
def ti170 : TI := { kind := .other, size := 1, bytes := 8, zero := [.val .nilFunc] }
theorem tok170 : TOK Tryz.prog 170 ti170 := TOK.of (z := .nilFunc) ⟨_, Tryz.underlying170, rfl⟩ (by kernel_rfl) (by kernel_rfl) (by kernel_rfl) (by kernel_rfl) (by kernel_rfl)
def ti171 : TI := { kind := .other, size := 1, bytes := 8, zero := [.val .nilFunc] }
theorem tok171 : TOK Tryz.prog 171 ti171 := TOK.of (z := .nilFunc) ⟨_, Tryz.underlying171, rfl⟩ (by kernel_rfl) (by kernel_rfl) (by kernel_rfl) (by kernel_rfl) (by kernel_rfl)
def ti172 : TI := { kind := .other, size := 1, bytes := 8, zero := [.val .nilFunc] }
theorem tok172 : TOK Tryz.prog 172 ti172 := TOK.of (z := .nilFunc) ⟨_, Tryz.underlying172, rfl⟩ (by kernel_rfl) (by kernel_rfl) (by kernel_rfl) (by kernel_rfl) (by kernel_rfl)
def ti173 : TI := { kind := .other, size := 1, bytes := 8, zero := [.val .nilFunc] }
theorem tok173 : TOK Tryz.prog 173 ti173 := TOK.of (z := .nilFunc) ⟨_, Tryz.underlying173, rfl⟩ (by kernel_rfl) (by kernel_rfl) (by kernel_rfl) (by kernel_rfl) (by kernel_rfl)
def ti174 : TI := { kind := .other, size := 1, bytes := 8, zero := [.val .nilFunc] }
theorem tok174 : TOK Tryz.prog 174 ti174 := TOK.of (z := .nilFunc) ⟨_, Tryz.underlying174, rfl⟩ (by kernel_rfl) (by kernel_rfl) (by kernel_rfl) (by kernel_rfl) (by kernel_rfl)
def ti175 : TI := { kind := .other, size := 1, bytes := 8, zero := [.val .nilFunc] }
theorem tok175 : TOK Tryz.prog 175 ti175 := TOK.of (z := .nilFunc) ⟨_, Tryz.underlying175, rfl⟩ (by kernel_rfl) (by kernel_rfl) (by kernel_rfl) (by kernel_rfl) (by kernel_rfl)
def ti176 : TI := { kind := .other, size := 1, bytes := 8, zero := [.val .nilFunc] }
theorem tok176 : TOK Tryz.prog 176 ti176 := TOK.of (z := .nilFunc) ⟨_, Tryz.underlying176, rfl⟩ (by kernel_rfl) (by kernel_rfl) (by kernel_rfl) (by kernel_rfl) (by kernel_rfl)
def ti177 : TI := { kind := .slc 95, size := 1, bytes := 24, zero := [.val (.slice none 0 0)] }
theorem tok177 : TOK Tryz.prog 177 ti177 := TOK.of (z := (.slice none 0 0)) (by kernel_rfl : Tryz.prog.underlying 177 = some (.slice 95)) (by kernel_rfl) (by kernel_rfl) (by kernel_rfl) (by kernel_rfl) (by kernel_rfl)
def ti178 : TI := { kind := .other, size := 1, bytes := 8, zero := [.val .nilFunc] }
theorem tok178 : TOK Tryz.prog 178 ti178 := TOK.of (z := .nilFunc) ⟨_, Tryz.underlying178, rfl⟩ (by kernel_rfl) (by kernel_rfl) (by kernel_rfl) (by kernel_rfl) (by kernel_rfl)
def ti179 : TI := { kind := .other, size := 1, bytes := 8, zero := [.val .nilFunc] }
theorem tok179 : TOK Tryz.prog 179 ti179 := TOK.of (z := .nilFunc) ⟨_, Tryz.underlying179, rfl⟩ (by kernel_rfl) (by kernel_rfl) (by kernel_rfl) (by kernel_rfl) (by kernel_rfl)
def ti180 : TI := { kind := .other, size := 1, bytes := 8, zero := [.val .nilFunc] }
theorem tok180 : TOK Tryz.prog 180 ti180 := TOK.of (z := .nilFunc) ⟨_, Tryz.underlying180, rfl⟩ (by kernel_rfl) (by kernel_rfl) (by kernel_rfl) (by kernel_rfl) (by kernel_rfl)
def ti181 : TI := { kind := .other, size := 1, bytes := 8, zero := [.val .nilFunc] }
theorem tok181 : TOK Tryz.prog 181 ti181 := TOK.of (z := .nilFunc) ⟨_, Tryz.underlying181, rfl⟩ (by kernel_rfl) (by kernel_rfl) (by kernel_rfl) (by kernel_rfl) (by kernel_rfl)
def ti182 : TI := { kind := .other, size := 1, bytes := 8, zero := [.val .nilFunc] }
theorem tok182 : TOK Tryz.prog 182 ti182 := TOK.of (z := .nilFunc) ⟨_, Tryz.underlying182, rfl⟩ (by kernel_rfl) (by kernel_rfl) (by kernel_rfl) (by kernel_rfl) (by kernel_rfl)
def ti183 : TI := { kind := .other, size := 1, bytes := 8, zero := [.val .nilFunc] }
theorem tok183 : TOK Tryz.prog 183 ti183 := TOK.of (z := .nilFunc) ⟨_, Tryz.underlying183, rfl⟩ (by kernel_rfl) (by kernel_rfl) (by kernel_rfl) (by kernel_rfl) (by kernel_rfl)
def ti184 : TI := { kind := .other, size := 1, bytes := 8, zero := [.val .nilFunc] }
theorem tok184 : TOK Tryz.prog 184 ti184 := TOK.of (z := .nilFunc) ⟨_, Tryz.underlying184, rfl⟩ (by kernel_rfl) (by kernel_rfl) (by kernel_rfl) (by kernel_rfl) (by kernel_rfl)
def ti185 : TI := { kind := .other, size := 1, bytes := 8, zero := [.val .nilFunc] }
theorem tok185 : TOK Tryz.prog 185 ti185 := TOK.of (z := .nilFunc) ⟨_, Tryz.underlying185, rfl⟩ (by kernel_rfl) (by kernel_rfl) (by kernel_rfl) (by kernel_rfl) (by kernel_rfl)
def ti186 : TI := { kind := .other, size := 1, bytes := 8, zero := [.val .nilFunc] }
theorem tok186 : TOK Tryz.prog 186 ti186 := TOK.of (z := .nilFunc) ⟨_, Tryz.underlying186, rfl⟩ (by kernel_rfl) (by kernel_rfl) (by kernel_rfl) (by kernel_rfl) (by kernel_rfl)
def ti187 : TI := { kind := .other, size := 1, bytes := 8, zero := [.val .nilFunc] }
theorem tok187 : TOK Tryz.prog 187 ti187 := TOK.of (z := .nilFunc) ⟨_, Tryz.underlying187, rfl⟩ (by kernel_rfl) (by kernel_rfl) (by kernel_rfl) (by kernel_rfl) (by kernel_rfl)
def ti188 : TI := { kind := .other, size := 1, bytes := 8, zero := [.val .nilFunc] }
theorem tok188 : TOK Tryz.prog 188 ti188 := TOK.of (z := .nilFunc) ⟨_, Tryz.underlying188, rfl⟩ (by kernel_rfl) (by kernel_rfl) (by kernel_rfl) (by kernel_rfl) (by kernel_rfl)
def ti189 : TI := { kind := .other, size := 1, bytes := 8, zero := [.val .nilFunc] }
theorem tok189 : TOK Tryz.prog 189 ti189 := TOK.of (z := .nilFunc) ⟨_, Tryz.underlying189, rfl⟩ (by kernel_rfl) (by kernel_rfl) (by kernel_rfl) (by kernel_rfl) (by kernel_rfl)
def ti191 : TI := { kind := .other, size := 1, bytes := 8, zero := [.val .nilFunc] }
theorem tok191 : TOK Tryz.prog 191 ti191 := TOK.of (z := .nilFunc) ⟨_, Tryz.underlying191, rfl⟩ (by kernel_rfl) (by kernel_rfl) (by kernel_rfl) (by kernel_rfl) (by kernel_rfl)
def ti192 : TI := { kind := .other, size := 1, bytes := 8, zero := [.val .nilFunc] }
theorem tok192 : TOK Tryz.prog 192 ti192 := TOK.of (z := .nilFunc) ⟨_, Tryz.underlying192, rfl⟩ (by kernel_rfl) (by kernel_rfl) (by kernel_rfl) (by kernel_rfl) (by kernel_rfl)
def ti193 : TI := { kind := .other, size := 1, bytes := 8, zero := [.val .nilFunc] }
theorem tok193 : TOK Tryz.prog 193 ti193 := TOK.of (z := .nilFunc) ⟨_, Tryz.underlying193, rfl⟩ (by kernel_rfl) (by kernel_rfl) (by kernel_rfl) (by kernel_rfl) (by kernel_rfl)
def ti194 : TI := { kind := .other, size := 1, bytes := 8, zero := [.val .nilFunc] }
theorem tok194 : TOK Tryz.prog 194 ti194 := TOK.of (z := .nilFunc) ⟨_, Tryz.underlying194, rfl⟩ (by kernel_rfl) (by kernel_rfl) (by kernel_rfl) (by kernel_rfl) (by kernel_rfl)
def ti195 : TI := { kind := .other, size := 1, bytes := 8, zero := [.val .nilFunc] }
theorem tok195 : TOK Tryz.prog 195 ti195 := TOK.of (z := .nilFunc) ⟨_, Tryz.underlying195, rfl⟩ (by kernel_rfl) (by kernel_rfl) (by kernel_rfl) (by kernel_rfl) (by kernel_rfl)
def ti196 : TI := { kind := .other, size := 1, bytes := 8, zero := [.val .nilFunc] }
theorem tok196 : TOK Tryz.prog 196 ti196 := TOK.of (z := .nilFunc) ⟨_, Tryz.underlying196, rfl⟩ (by kernel_rfl) (by kernel_rfl) (by kernel_rfl) (by kernel_rfl) (by kernel_rfl)
def ti197 : TI := { kind := .other, size := 1, bytes := 8, zero := [.val .nilFunc] }
theorem tok197 : TOK Tryz.prog 197 ti197 := TOK.of (z := .nilFunc) ⟨_, Tryz.underlying197, rfl⟩ (by kernel_rfl) (by kernel_rfl) (by kernel_rfl) (by kernel_rfl) (by kernel_rfl)
def ti198 : TI := { kind := .other, size := 1, bytes := 8, zero := [.val .nilFunc] }
theorem tok198 : TOK Tryz.prog 198 ti198 := TOK.of (z := .nilFunc) ⟨_, Tryz.underlying198, rfl⟩ (by kernel_rfl) (by kernel_rfl) (by kernel_rfl) (by kernel_rfl) (by kernel_rfl)
def ti199 : TI := { kind := .other, size := 1, bytes := 8, zero := [.val .nilFunc] }
theorem tok199 : TOK Tryz.prog 199 ti199 := TOK.of (z := .nilFunc) ⟨_, Tryz.underlying199, rfl⟩ (by kernel_rfl) (by kernel_rfl) (by kernel_rfl) (by kernel_rfl) (by kernel_rfl)
def ti200 : TI := { kind := .other, size := 1, bytes := 8, zero := [.val .nilFunc] }
theorem tok200 : TOK Tryz.prog 200 ti200 := TOK.of (z := .nilFunc) ⟨_, Tryz.underlying200, rfl⟩ (by kernel_rfl) (by kernel_rfl) (by kernel_rfl) (by kernel_rfl) (by kernel_rfl)
def ti201 : TI := { kind := .other, size := 1, bytes := 8, zero := [.val .nilFunc] }
theorem tok201 : TOK Tryz.prog 201 ti201 := TOK.of (z := .nilFunc) ⟨_, Tryz.underlying201, rfl⟩ (by kernel_rfl) (by kernel_rfl) (by kernel_rfl) (by kernel_rfl) (by kernel_rfl)
def ti202 : TI := { kind := .slc 24, size := 1, bytes := 24, zero := [.val (.slice none 0 0)] }
theorem tok202 : TOK Tryz.prog 202 ti202 := TOK.of (z := (.slice none 0 0)) (by kernel_rfl : Tryz.prog.underlying 202 = some (.slice 24)) (by kernel_rfl) (by kernel_rfl) (by kernel_rfl) (by kernel_rfl) (by kernel_rfl)
def ti203 : TI := { kind := .other, size := 1, bytes := 8, zero := [.val .nilFunc] }
theorem tok203 : TOK Tryz.prog 203 ti203 := TOK.of (z := .nilFunc) ⟨_, Tryz.underlying203, rfl⟩ (by kernel_rfl) (by kernel_rfl) (by kernel_rfl) (by kernel_rfl) (by kernel_rfl)
def ti204 : TI := { kind := .other, size := 1, bytes := 8, zero := [.val .nilFunc] }
theorem tok204 : TOK Tryz.prog 204 ti204 := TOK.of (z := .nilFunc) ⟨_, Tryz.underlying204, rfl⟩ (by kernel_rfl) (by kernel_rfl) (by kernel_rfl) (by kernel_rfl) (by kernel_rfl)
def ti205 : TI := { kind := .other, size := 1, bytes := 8, zero := [.val .nilFunc] }
theorem tok205 : TOK Tryz.prog 205 ti205 := TOK.of (z := .nilFunc) ⟨_, Tryz.underlying205, rfl⟩ (by kernel_rfl) (by kernel_rfl) (by kernel_rfl) (by kernel_rfl) (by kernel_rfl)
def ti206 : TI := { kind := .other, size := 1, bytes := 8, zero := [.val .nilFunc] }
theorem tok206 : TOK Tryz.prog 206 ti206 := TOK.of (z := .nilFunc) ⟨_, Tryz.underlying206, rfl⟩ (by kernel_rfl) (by kernel_rfl) (by kernel_rfl) (by kernel_rfl) (by kernel_rfl)
def ti207 : TI := { kind := .other, size := 1, bytes := 8, zero := [.val .nilFunc] }
theorem tok207 : TOK Tryz.prog 207 ti207 := TOK.of (z := .nilFunc) ⟨_, Tryz.underlying207, rfl⟩ (by kernel_rfl) (by kernel_rfl) (by kernel_rfl) (by kernel_rfl) (by kernel_rfl)
def ti208 : TI := { kind := .other, size := 1, bytes := 8, zero := [.val .nilFunc] }
theorem tok208 : TOK Tryz.prog 208 ti208 := TOK.of (z := .nilFunc) ⟨_, Tryz.underlying208, rfl⟩ (by kernel_rfl) (by kernel_rfl) (by kernel_rfl) (by kernel_rfl) (by kernel_rfl)
def ti210 : TI := { kind := .other, size := 1, bytes := 8, zero := [.val .nilFunc] }
theorem tok210 : TOK Tryz.prog 210 ti210 := TOK.of (z := .nilFunc) ⟨_, Tryz.underlying210, rfl⟩ (by kernel_rfl) (by kernel_rfl) (by kernel_rfl) (by kernel_rfl) (by kernel_rfl)
def ti211 : TI := { kind := .ptr 216, size := 1, bytes := 8, zero := [.val (.pointer none)] }
theorem tok211 : TOK Tryz.prog 211 ti211 := TOK.of (z := (.pointer none)) (by kernel_rfl : Tryz.prog.underlying 211 = some (.pointer 216)) (by kernel_rfl) (by kernel_rfl) (by kernel_rfl) (by kernel_rfl) (by kernel_rfl)
def ti212 : TI := { kind := .other, size := 1, bytes := 8, zero := [.val .nilFunc] }
theorem tok212 : TOK Tryz.prog 212 ti212 := TOK.of (z := .nilFunc) ⟨_, Tryz.underlying212, rfl⟩ (by kernel_rfl) (by kernel_rfl) (by kernel_rfl) (by kernel_rfl) (by kernel_rfl)
def ti213 : TI := { kind := .other, size := 1, bytes := 8, zero := [.val .nilFunc] }
theorem tok213 : TOK Tryz.prog 213 ti213 := TOK.of (z := .nilFunc) ⟨_, Tryz.underlying213, rfl⟩ (by kernel_rfl) (by kernel_rfl) (by kernel_rfl) (by kernel_rfl) (by kernel_rfl)
def ti214 : TI := { kind := .slc 25, size := 1, bytes := 24, zero := [.val (.slice none 0 0)] }
theorem tok214 : TOK Tryz.prog 214 ti214 := TOK.of (z := (.slice none 0 0)) (by kernel_rfl : Tryz.prog.underlying 214 = some (.slice 25)) (by kernel_rfl) (by kernel_rfl) (by kernel_rfl) (by kernel_rfl) (by kernel_rfl)
def ti215 : TI := { kind := .agg [(0, 214, 1), (1, 3, 1), (2, 62, 1), (3, 38, 5)], size := 8, bytes := 112, zero := [.val (.slice none 0 0), .val (.int .i64 0), .val (.slice none 0 0), .frac 0] }
theorem tok215 : TOK Tryz.prog 215 ti215 := TOK.of (z := .agg #[(.slice none 0 0), (.int .i64 0), (.slice none 0 0), (.int .u64 0), (.string .empty), (.bool false), (.int .u64 0), (.string .empty)]) ⟨by kernel_rfl, by kernel_rfl, by kernel_rfl⟩ (by kernel_rfl) (by kernel_rfl) (by kernel_rfl) (by kernel_rfl) (by kernel_rfl)
def ti216 : TI := { kind := .agg [(0, 214, 1), (1, 3, 1), (2, 62, 1), (3, 38, 5)], size := 8, bytes := 112, zero := [.val (.slice none 0 0), .val (.int .i64 0), .val (.slice none 0 0), .frac 0] }
theorem tok216 : TOK Tryz.prog 216 ti216 := TOK.of (z := .agg #[(.slice none 0 0), (.int .i64 0), (.slice none 0 0), (.int .u64 0), (.string .empty), (.bool false), (.int .u64 0), (.string .empty)]) ⟨by kernel_rfl, by kernel_rfl, by kernel_rfl⟩ (by kernel_rfl) (by kernel_rfl) (by kernel_rfl) (by kernel_rfl) (by kernel_rfl)
def ti217 : TI := { kind := .other, size := 1, bytes := 8, zero := [.val .nilFunc] }
theorem tok217 : TOK Tryz.prog 217 ti217 := TOK.of (z := .nilFunc) ⟨_, Tryz.underlying217, rfl⟩ (by kernel_rfl) (by kernel_rfl) (by kernel_rfl) (by kernel_rfl) (by kernel_rfl)
def ti218 : TI := { kind := .other, size := 1, bytes := 8, zero := [.val .nilFunc] }
theorem tok218 : TOK Tryz.prog 218 ti218 := TOK.of (z := .nilFunc) ⟨_, Tryz.underlying218, rfl⟩ (by kernel_rfl) (by kernel_rfl) (by kernel_rfl) (by kernel_rfl) (by kernel_rfl)
def ti219 : TI := { kind := .other, size := 1, bytes := 8, zero := [.val .nilFunc] }
theorem tok219 : TOK Tryz.prog 219 ti219 := TOK.of (z := .nilFunc) ⟨_, Tryz.underlying219, rfl⟩ (by kernel_rfl) (by kernel_rfl) (by kernel_rfl) (by kernel_rfl) (by kernel_rfl)
def ti220 : TI := { kind := .other, size := 1, bytes := 8, zero := [.val .nilFunc] }
theorem tok220 : TOK Tryz.prog 220 ti220 := TOK.of (z := .nilFunc) ⟨_, Tryz.underlying220, rfl⟩ (by kernel_rfl) (by kernel_rfl) (by kernel_rfl) (by kernel_rfl) (by kernel_rfl)
def ti221 : TI := { kind := .other, size := 1, bytes := 8, zero := [.val .nilFunc] }
theorem tok221 : TOK Tryz.prog 221 ti221 := TOK.of (z := .nilFunc) ⟨_, Tryz.underlying221, rfl⟩ (by kernel_rfl) (by kernel_rfl) (by kernel_rfl) (by kernel_rfl) (by kernel_rfl)
def ti222 : TI := { kind := .other, size := 1, bytes := 8, zero := [.val .nilFunc] }
theorem tok222 : TOK Tryz.prog 222 ti222 := TOK.of (z := .nilFunc) ⟨_, Tryz.underlying222, rfl⟩ (by kernel_rfl) (by kernel_rfl) (by kernel_rfl) (by kernel_rfl) (by kernel_rfl)
def ti223 : TI := { kind := .slc 9, size := 1, bytes := 24, zero := [.val (.slice none 0 0)] }
theorem tok223 : TOK Tryz.prog 223 ti223 := TOK.of (z := (.slice none 0 0)) (by kernel_rfl : Tryz.prog.underlying 223 = some (.slice 9)) (by kernel_rfl) (by kernel_rfl) (by kernel_rfl) (by kernel_rfl) (by kernel_rfl)
def ti224 : TI := { kind := .other, size := 1, bytes := 8, zero := [.val .nilFunc] }
theorem tok224 : TOK Tryz.prog 224 ti224 := TOK.of (z := .nilFunc) ⟨_, Tryz.underlying224, rfl⟩ (by kernel_rfl) (by kernel_rfl) (by kernel_rfl) (by kernel_rfl) (by kernel_rfl)
def ti225 : TI := { kind := .agg [(0, 38, 5)], size := 5, bytes := 56, zero := [.frac 0] }
theorem tok225 : TOK Tryz.prog 225 ti225 := TOK.of (z := .agg #[(.int .u64 0), (.string .empty), (.bool false), (.int .u64 0), (.string .empty)]) ⟨by kernel_rfl, by kernel_rfl, by kernel_rfl⟩ (by kernel_rfl) (by kernel_rfl) (by kernel_rfl) (by kernel_rfl) (by kernel_rfl)
def ti226 : TI := { kind := .agg [(0, 38, 5)], size := 5, bytes := 56, zero := [.frac 0] }
theorem tok226 : TOK Tryz.prog 226 ti226 := TOK.of (z := .agg #[(.int .u64 0), (.string .empty), (.bool false), (.int .u64 0), (.string .empty)]) ⟨by kernel_rfl, by kernel_rfl, by kernel_rfl⟩ (by kernel_rfl) (by kernel_rfl) (by kernel_rfl) (by kernel_rfl) (by kernel_rfl)
def ti227 : TI := { kind := .other, size := 1, bytes := 8, zero := [.val .nilFunc] }
theorem tok227 : TOK Tryz.prog 227 ti227 := TOK.of (z := .nilFunc) ⟨_, Tryz.underlying227, rfl⟩ (by kernel_rfl) (by kernel_rfl) (by kernel_rfl) (by kernel_rfl) (by kernel_rfl)
def ti228 : TI := { kind := .other, size := 1, bytes := 8, zero := [.val .nilFunc] }
theorem tok228 : TOK Tryz.prog 228 ti228 := TOK.of (z := .nilFunc) ⟨_, Tryz.underlying228, rfl⟩ (by kernel_rfl) (by kernel_rfl) (by kernel_rfl) (by kernel_rfl) (by kernel_rfl)
def ti229 : TI := { kind := .other, size := 1, bytes := 8, zero := [.val .nilFunc] }
theorem tok229 : TOK Tryz.prog 229 ti229 := TOK.of (z := .nilFunc) ⟨_, Tryz.underlying229, rfl⟩ (by kernel_rfl) (by kernel_rfl) (by kernel_rfl) (by kernel_rfl) (by kernel_rfl)
def ti231 : TI := { kind := .other, size := 1, bytes := 8, zero := [.val .nilFunc] }
theorem tok231 : TOK Tryz.prog 231 ti231 := TOK.of (z := .nilFunc) ⟨_, Tryz.underlying231, rfl⟩ (by kernel_rfl) (by kernel_rfl) (by kernel_rfl) (by kernel_rfl) (by kernel_rfl)
def ti233 : TI := { kind := .other, size := 1, bytes := 8, zero := [.val .nilFunc] }
theorem tok233 : TOK Tryz.prog 233 ti233 := TOK.of (z := .nilFunc) ⟨_, Tryz.underlying233, rfl⟩ (by kernel_rfl) (by kernel_rfl) (by kernel_rfl) (by kernel_rfl) (by kernel_rfl)
def ti234 : TI := { kind := .other, size := 1, bytes := 8, zero := [.val .nilFunc] }
theorem tok234 : TOK Tryz.prog 234 ti234 := TOK.of (z := .nilFunc) ⟨_, Tryz.underlying234, rfl⟩ (by kernel_rfl) (by kernel_rfl) (by kernel_rfl) (by kernel_rfl) (by kernel_rfl)
def ti235 : TI := { kind := .other, size := 1, bytes := 8, zero := [.val .nilFunc] }
theorem tok235 : TOK Tryz.prog 235 ti235 := TOK.of (z := .nilFunc) ⟨_, Tryz.underlying235, rfl⟩ (by kernel_rfl) (by kernel_rfl) (by kernel_rfl) (by kernel_rfl) (by kernel_rfl)
def ti236 : TI := { kind := .other, size := 1, bytes := 8, zero := [.val .nilFunc] }
theorem tok236 : TOK Tryz.prog 236 ti236 := TOK.of (z := .nilFunc) ⟨_, Tryz.underlying236, rfl⟩ (by kernel_rfl) (by kernel_rfl) (by kernel_rfl) (by kernel_rfl) (by kernel_rfl)
def ti237 : TI := { kind := .other, size := 1, bytes := 8, zero := [.val .nilFunc] }
theorem tok237 : TOK Tryz.prog 237 ti237 := TOK.of (z := .nilFunc) ⟨_, Tryz.underlying237, rfl⟩ (by kernel_rfl) (by kernel_rfl) (by kernel_rfl) (by kernel_rfl) (by kernel_rfl)
def ti238 : TI := { kind := .other, size := 1, bytes := 8, zero := [.val .nilFunc] }
theorem tok238 : TOK Tryz.prog 238 ti238 := TOK.of (z := .nilFunc) ⟨_, Tryz.underlying238, rfl⟩ (by kernel_rfl) (by kernel_rfl) (by kernel_rfl) (by kernel_rfl) (by kernel_rfl)
def ti239 : TI := { kind := .other, size := 1, bytes := 8, zero := [.val .nilFunc] }
theorem tok239 : TOK Tryz.prog 239 ti239 := TOK.of (z := .nilFunc) ⟨_, Tryz.underlying239, rfl⟩ (by kernel_rfl) (by kernel_rfl) (by kernel_rfl) (by kernel_rfl) (by kernel_rfl)
def ti240 : TI := { kind := .other, size := 1, bytes := 8, zero := [.val .nilFunc] }
theorem tok240 : TOK Tryz.prog 240 ti240 := TOK.of (z := .nilFunc) ⟨_, Tryz.underlying240, rfl⟩ (by kernel_rfl) (by kernel_rfl) (by kernel_rfl) (by kernel_rfl) (by kernel_rfl)
def ti241 : TI := { kind := .other, size := 1, bytes := 8, zero := [.val .nilFunc] }
theorem tok241 : TOK Tryz.prog 241 ti241 := TOK.of (z := .nilFunc) ⟨_, Tryz.underlying241, rfl⟩ (by kernel_rfl) (by kernel_rfl) (by kernel_rfl) (by kernel_rfl) (by kernel_rfl)
def ti242 : TI := { kind := .other, size := 1, bytes := 8, zero := [.val .nilFunc] }
theorem tok242 : TOK Tryz.prog 242 ti242 := TOK.of (z := .nilFunc) ⟨_, Tryz.underlying242, rfl⟩ (by kernel_rfl) (by kernel_rfl) (by kernel_rfl) (by kernel_rfl) (by kernel_rfl)
def ti243 : TI := { kind := .other, size := 1, bytes := 8, zero := [.val .nilFunc] }
theorem tok243 : TOK Tryz.prog 243 ti243 := TOK.of (z := .nilFunc) ⟨_, Tryz.underlying243, rfl⟩ (by kernel_rfl) (by kernel_rfl) (by kernel_rfl) (by kernel_rfl) (by kernel_rfl)
def ti244 : TI := { kind := .other, size := 1, bytes := 8, zero := [.val .nilFunc] }
theorem tok244 : TOK Tryz.prog 244 ti244 := TOK.of (z := .nilFunc) ⟨_, Tryz.underlying244, rfl⟩ (by kernel_rfl) (by kernel_rfl) (by kernel_rfl) (by kernel_rfl) (by kernel_rfl)
def ti246 : TI := { kind := .other, size := 1, bytes := 8, zero := [.val .nilFunc] }
theorem tok246 : TOK Tryz.prog 246 ti246 := TOK.of (z := .nilFunc) ⟨_, Tryz.underlying246, rfl⟩ (by kernel_rfl) (by kernel_rfl) (by kernel_rfl) (by kernel_rfl) (by kernel_rfl)
def ti247 : TI := { kind := .other, size := 1, bytes := 8, zero := [.val .nilFunc] }
theorem tok247 : TOK Tryz.prog 247 ti247 := TOK.of (z := .nilFunc) ⟨_, Tryz.underlying247, rfl⟩ (by kernel_rfl) (by kernel_rfl) (by kernel_rfl) (by kernel_rfl) (by kernel_rfl)
def ti248 : TI := { kind := .other, size := 1, bytes := 8, zero := [.val .nilFunc] }
theorem tok248 : TOK Tryz.prog 248 ti248 := TOK.of (z := .nilFunc) ⟨_, Tryz.underlying248, rfl⟩ (by kernel_rfl) (by kernel_rfl) (by kernel_rfl) (by kernel_rfl) (by kernel_rfl)
def ti249 : TI := { kind := .int .u64, size := 1, bytes := 8, zero := [.val (.int .u64 0)] }
theorem tok249 : TOK Tryz.prog 249 ti249 := TOK.of (z := (.int .u64 0)) (by kernel_rfl : Tryz.prog.underlying 249 = some (.int .u64)) (by kernel_rfl) (by kernel_rfl) (by kernel_rfl) (by kernel_rfl) (by kernel_rfl)
def ti250 : TI := { kind := .other, size := 1, bytes := 8, zero := [.val .nilFunc] }
theorem tok250 : TOK Tryz.prog 250 ti250 := TOK.of (z := .nilFunc) ⟨_, Tryz.underlying250, rfl⟩ (by kernel_rfl) (by kernel_rfl) (by kernel_rfl) (by kernel_rfl) (by kernel_rfl)
def ti251 : TI := { kind := .other, size := 1, bytes := 8, zero := [.val .nilFunc] }
theorem tok251 : TOK Tryz.prog 251 ti251 := TOK.of (z := .nilFunc) ⟨_, Tryz.underlying251, rfl⟩ (by kernel_rfl) (by kernel_rfl) (by kernel_rfl) (by kernel_rfl) (by kernel_rfl)
def ti252 : TI := { kind := .slc 99, size := 1, bytes := 24, zero := [.val (.slice none 0 0)] }
theorem tok252 : TOK Tryz.prog 252 ti252 := TOK.of (z := (.slice none 0 0)) (by kernel_rfl : Tryz.prog.underlying 252 = some (.slice 99)) (by kernel_rfl) (by kernel_rfl) (by kernel_rfl) (by kernel_rfl) (by kernel_rfl)
def ti253 : TI := { kind := .other, size := 1, bytes := 8, zero := [.val .nilFunc] }
theorem tok253 : TOK Tryz.prog 253 ti253 := TOK.of (z := .nilFunc) ⟨_, Tryz.underlying253, rfl⟩ (by kernel_rfl) (by kernel_rfl) (by kernel_rfl) (by kernel_rfl) (by kernel_rfl)
def ti254 : TI := { kind := .other, size := 1, bytes := 8, zero := [.val .nilFunc] }
theorem tok254 : TOK Tryz.prog 254 ti254 := TOK.of (z := .nilFunc) ⟨_, Tryz.underlying254, rfl⟩ (by kernel_rfl) (by kernel_rfl) (by kernel_rfl) (by kernel_rfl) (by kernel_rfl)
def ti255 : TI := { kind := .other, size := 1, bytes := 8, zero := [.val .nilFunc] }
theorem tok255 : TOK Tryz.prog 255 ti255 := TOK.of (z := .nilFunc) ⟨_, Tryz.underlying255, rfl⟩ (by kernel_rfl) (by kernel_rfl) (by kernel_rfl) (by kernel_rfl) (by kernel_rfl)
def ti256 : TI := { kind := .other, size := 1, bytes := 8, zero := [.val .nilFunc] }
theorem tok256 : TOK Tryz.prog 256 ti256 := TOK.of (z := .nilFunc) ⟨_, Tryz.underlying256, rfl⟩ (by kernel_rfl) (by kernel_rfl) (by kernel_rfl) (by kernel_rfl) (by kernel_rfl)
def ti257 : TI := { kind := .other, size := 1, bytes := 8, zero := [.val .nilFunc] }
theorem tok257 : TOK Tryz.prog 257 ti257 := TOK.of (z := .nilFunc) ⟨_, Tryz.underlying257, rfl⟩ (by kernel_rfl) (by kernel_rfl) (by kernel_rfl) (by kernel_rfl) (by kernel_rfl)
def ti258 : TI := { kind := .other, size := 1, bytes := 8, zero := [.val .nilFunc] }
theorem tok258 : TOK Tryz.prog 258 ti258 := TOK.of (z := .nilFunc) ⟨_, Tryz.underlying258, rfl⟩ (by kernel_rfl) (by kernel_rfl) (by kernel_rfl) (by kernel_rfl) (by kernel_rfl)
def ti259 : TI := { kind := .other, size := 1, bytes := 8, zero := [.val .nilFunc] }
theorem tok259 : TOK Tryz.prog 259 ti259 := TOK.of (z := .nilFunc) ⟨_, Tryz.underlying259, rfl⟩ (by kernel_rfl) (by kernel_rfl) (by kernel_rfl) (by kernel_rfl) (by kernel_rfl)
def ti261 : TI := { kind := .other, size := 1, bytes := 8, zero := [.val .nilFunc] }
theorem tok261 : TOK Tryz.prog 261 ti261 := TOK.of (z := .nilFunc) ⟨_, Tryz.underlying261, rfl⟩ (by kernel_rfl) (by kernel_rfl) (by kernel_rfl) (by kernel_rfl) (by kernel_rfl)
def ti262 : TI := { kind := .other, size := 1, bytes := 8, zero := [.val .nilFunc] }
theorem tok262 : TOK Tryz.prog 262 ti262 := TOK.of (z := .nilFunc) ⟨_, Tryz.underlying262, rfl⟩ (by kernel_rfl) (by kernel_rfl) (by kernel_rfl) (by kernel_rfl) (by kernel_rfl)
def ti264 : TI := { kind := .other, size := 1, bytes := 8, zero := [.val .nilFunc] }
theorem tok264 : TOK Tryz.prog 264 ti264 := TOK.of (z := .nilFunc) ⟨_, Tryz.underlying264, rfl⟩ (by kernel_rfl) (by kernel_rfl) (by kernel_rfl) (by kernel_rfl) (by kernel_rfl)
def ti266 : TI := { kind := .other, size := 1, bytes := 8, zero := [.val .nilFunc] }
theorem tok266 : TOK Tryz.prog 266 ti266 := TOK.of (z := .nilFunc) ⟨_, Tryz.underlying266, rfl⟩ (by kernel_rfl) (by kernel_rfl) (by kernel_rfl) (by kernel_rfl) (by kernel_rfl)
def ti267 : TI := { kind := .other, size := 1, bytes := 8, zero := [.val .nilFunc] }
theorem tok267 : TOK Tryz.prog 267 ti267 := TOK.of (z := .nilFunc) ⟨_, Tryz.underlying267, rfl⟩ (by kernel_rfl) (by kernel_rfl) (by kernel_rfl) (by kernel_rfl) (by kernel_rfl)
def ti268 : TI := { kind := .slc 27, size := 1, bytes := 24, zero := [.val (.slice none 0 0)] }
theorem tok268 : TOK Tryz.prog 268 ti268 := TOK.of (z := (.slice none 0 0)) (by kernel_rfl : Tryz.prog.underlying 268 = some (.slice 27)) (by kernel_rfl) (by kernel_rfl) (by kernel_rfl) (by kernel_rfl) (by kernel_rfl)
def ti269 : TI := { kind := .other, size := 1, bytes := 8, zero := [.val .nilFunc] }
theorem tok269 : TOK Tryz.prog 269 ti269 := TOK.of (z := .nilFunc) ⟨_, Tryz.underlying269, rfl⟩ (by kernel_rfl) (by kernel_rfl) (by kernel_rfl) (by kernel_rfl) (by kernel_rfl)
def ti270 : TI := { kind := .other, size := 1, bytes := 8, zero := [.val .nilFunc] }
theorem tok270 : TOK Tryz.prog 270 ti270 := TOK.of (z := .nilFunc) ⟨_, Tryz.underlying270, rfl⟩ (by kernel_rfl) (by kernel_rfl) (by kernel_rfl) (by kernel_rfl) (by kernel_rfl)
def ti271 : TI := { kind := .ptr 274, size := 1, bytes := 8, zero := [.val (.pointer none)] }
theorem tok271 : TOK Tryz.prog 271 ti271 := TOK.of (z := (.pointer none)) (by kernel_rfl : Tryz.prog.underlying 271 = some (.pointer 274)) (by kernel_rfl) (by kernel_rfl) (by kernel_rfl) (by kernel_rfl) (by kernel_rfl)
def ti272 : TI := { kind := .slc 5, size := 1, bytes := 24, zero := [.val (.slice none 0 0)] }
theorem tok272 : TOK Tryz.prog 272 ti272 := TOK.of (z := (.slice none 0 0)) (by kernel_rfl : Tryz.prog.underlying 272 = some (.slice 5)) (by kernel_rfl) (by kernel_rfl) (by kernel_rfl) (by kernel_rfl) (by kernel_rfl)
def ti273 : TI := { kind := .agg [(0, 271, 1), (1, 272, 1)], size := 2, bytes := 32, zero := [.val (.pointer none), .val (.slice none 0 0)] }
theorem tok273 : TOK Tryz.prog 273 ti273 := TOK.of (z := .agg #[(.pointer none), (.slice none 0 0)]) ⟨by kernel_rfl, by kernel_rfl, by kernel_rfl⟩ (by kernel_rfl) (by kernel_rfl) (by kernel_rfl) (by kernel_rfl) (by kernel_rfl)
def ti274 : TI := { kind := .agg [(0, 271, 1), (1, 272, 1)], size := 2, bytes := 32, zero := [.val (.pointer none), .val (.slice none 0 0)] }
theorem tok274 : TOK Tryz.prog 274 ti274 := TOK.of (z := .agg #[(.pointer none), (.slice none 0 0)]) ⟨by kernel_rfl, by kernel_rfl, by kernel_rfl⟩ (by kernel_rfl) (by kernel_rfl) (by kernel_rfl) (by kernel_rfl) (by kernel_rfl)
def ti275 : TI := { kind := .other, size := 1, bytes := 8, zero := [.val .nilFunc] }
theorem tok275 : TOK Tryz.prog 275 ti275 := TOK.of (z := .nilFunc) ⟨_, Tryz.underlying275, rfl⟩ (by kernel_rfl) (by kernel_rfl) (by kernel_rfl) (by kernel_rfl) (by kernel_rfl)
def ti279 : TI := { kind := .other, size := 1, bytes := 8, zero := [.val .nilFunc] }
theorem tok279 : TOK Tryz.prog 279 ti279 := TOK.of (z := .nilFunc) ⟨_, Tryz.underlying279, rfl⟩ (by kernel_rfl) (by kernel_rfl) (by kernel_rfl) (by kernel_rfl) (by kernel_rfl)
def ti280 : TI := { kind := .other, size := 1, bytes := 8, zero := [.val .nilFunc] }
theorem tok280 : TOK Tryz.prog 280 ti280 := TOK.of (z := .nilFunc) ⟨_, Tryz.underlying280, rfl⟩ (by kernel_rfl) (by kernel_rfl) (by kernel_rfl) (by kernel_rfl) (by kernel_rfl)
def ti281 : TI := { kind := .ptr 226, size := 1, bytes := 8, zero := [.val (.pointer none)] }
theorem tok281 : TOK Tryz.prog 281 ti281 := TOK.of (z := (.pointer none)) (by kernel_rfl : Tryz.prog.underlying 281 = some (.pointer 226)) (by kernel_rfl) (by kernel_rfl) (by kernel_rfl) (by kernel_rfl) (by kernel_rfl)
def ti282 : TI := { kind := .other, size := 1, bytes := 8, zero := [.val .nilFunc] }
theorem tok282 : TOK Tryz.prog 282 ti282 := TOK.of (z := .nilFunc) ⟨_, Tryz.underlying282, rfl⟩ (by kernel_rfl) (by kernel_rfl) (by kernel_rfl) (by kernel_rfl) (by kernel_rfl)
def ti283 : TI := { kind := .other, size := 1, bytes := 8, zero := [.val .nilFunc] }
theorem tok283 : TOK Tryz.prog 283 ti283 := TOK.of (z := .nilFunc) ⟨_, Tryz.underlying283, rfl⟩ (by kernel_rfl) (by kernel_rfl) (by kernel_rfl) (by kernel_rfl) (by kernel_rfl)
def ti284 : TI := { kind := .other, size := 1, bytes := 8, zero := [.val .nilFunc] }
theorem tok284 : TOK Tryz.prog 284 ti284 := TOK.of (z := .nilFunc) ⟨_, Tryz.underlying284, rfl⟩ (by kernel_rfl) (by kernel_rfl) (by kernel_rfl) (by kernel_rfl) (by kernel_rfl)
def ti285 : TI := { kind := .other, size := 1, bytes := 8, zero := [.val .nilFunc] }
theorem tok285 : TOK Tryz.prog 285 ti285 := TOK.of (z := .nilFunc) ⟨_, Tryz.underlying285, rfl⟩ (by kernel_rfl) (by kernel_rfl) (by kernel_rfl) (by kernel_rfl) (by kernel_rfl)
def ti286 : TI := { kind := .other, size := 1, bytes := 8, zero := [.val .nilFunc] }
theorem tok286 : TOK Tryz.prog 286 ti286 := TOK.of (z := .nilFunc) ⟨_, Tryz.underlying286, rfl⟩ (by kernel_rfl) (by kernel_rfl) (by kernel_rfl) (by kernel_rfl) (by kernel_rfl)
def ti287 : TI := { kind := .other, size := 1, bytes := 8, zero := [.val .nilFunc] }
theorem tok287 : TOK Tryz.prog 287 ti287 := TOK.of (z := .nilFunc) ⟨_, Tryz.underlying287, rfl⟩ (by kernel_rfl) (by kernel_rfl) (by kernel_rfl) (by kernel_rfl) (by kernel_rfl)
def ti288 : TI := { kind := .other, size := 1, bytes := 8, zero := [.val .nilFunc] }
theorem tok288 : TOK Tryz.prog 288 ti288 := TOK.of (z := .nilFunc) ⟨_, Tryz.underlying288, rfl⟩ (by kernel_rfl) (by kernel_rfl) (by kernel_rfl) (by kernel_rfl) (by kernel_rfl)
def ti289 : TI := { kind := .other, size := 1, bytes := 8, zero := [.val .nilFunc] }
theorem tok289 : TOK Tryz.prog 289 ti289 := TOK.of (z := .nilFunc) ⟨_, Tryz.underlying289, rfl⟩ (by kernel_rfl) (by kernel_rfl) (by kernel_rfl) (by kernel_rfl) (by kernel_rfl)
def ti290 : TI := { kind := .other, size := 1, bytes := 8, zero := [.val .nilFunc] }
theorem tok290 : TOK Tryz.prog 290 ti290 := TOK.of (z := .nilFunc) ⟨_, Tryz.underlying290, rfl⟩ (by kernel_rfl) (by kernel_rfl) (by kernel_rfl) (by kernel_rfl) (by kernel_rfl)
def ti291 : TI := { kind := .other, size := 1, bytes := 8, zero := [.val .nilFunc] }
theorem tok291 : TOK Tryz.prog 291 ti291 := TOK.of (z := .nilFunc) ⟨_, Tryz.underlying291, rfl⟩ (by kernel_rfl) (by kernel_rfl) (by kernel_rfl) (by kernel_rfl) (by kernel_rfl)
def ti292 : TI := { kind := .other, size := 1, bytes := 8, zero := [.val .nilFunc] }
theorem tok292 : TOK Tryz.prog 292 ti292 := TOK.of (z := .nilFunc) ⟨_, Tryz.underlying292, rfl⟩ (by kernel_rfl) (by kernel_rfl) (by kernel_rfl) (by kernel_rfl) (by kernel_rfl)
def ti293 : TI := { kind := .other, size := 1, bytes := 8, zero := [.val .nilFunc] }
theorem tok293 : TOK Tryz.prog 293 ti293 := TOK.of (z := .nilFunc) ⟨_, Tryz.underlying293, rfl⟩ (by kernel_rfl) (by kernel_rfl) (by kernel_rfl) (by kernel_rfl) (by kernel_rfl)
def ti295 : TI := { kind := .other, size := 1, bytes := 8, zero := [.val .nilFunc] }
theorem tok295 : TOK Tryz.prog 295 ti295 := TOK.of (z := .nilFunc) ⟨_, Tryz.underlying295, rfl⟩ (by kernel_rfl) (by kernel_rfl) (by kernel_rfl) (by kernel_rfl) (by kernel_rfl)
def ti296 : TI := { kind := .other, size := 1, bytes := 8, zero := [.val .nilFunc] }
theorem tok296 : TOK Tryz.prog 296 ti296 := TOK.of (z := .nilFunc) ⟨_, Tryz.underlying296, rfl⟩ (by kernel_rfl) (by kernel_rfl) (by kernel_rfl) (by kernel_rfl) (by kernel_rfl)
def ti297 : TI := { kind := .other, size := 1, bytes := 8, zero := [.val .nilFunc] }
theorem tok297 : TOK Tryz.prog 297 ti297 := TOK.of (z := .nilFunc) ⟨_, Tryz.underlying297, rfl⟩ (by kernel_rfl) (by kernel_rfl) (by kernel_rfl) (by kernel_rfl) (by kernel_rfl)
def ti298 : TI := { kind := .other, size := 1, bytes := 8, zero := [.val .nilFunc] }
theorem tok298 : TOK Tryz.prog 298 ti298 := TOK.of (z := .nilFunc) ⟨_, Tryz.underlying298, rfl⟩ (by kernel_rfl) (by kernel_rfl) (by kernel_rfl) (by kernel_rfl) (by kernel_rfl)
def ti299 : TI := { kind := .other, size := 1, bytes := 8, zero := [.val .nilFunc] }
theorem tok299 : TOK Tryz.prog 299 ti299 := TOK.of (z := .nilFunc) ⟨_, Tryz.underlying299, rfl⟩ (by kernel_rfl) (by kernel_rfl) (by kernel_rfl) (by kernel_rfl) (by kernel_rfl)
def ti300 : TI := { kind := .other, size := 1, bytes := 8, zero := [.val .nilFunc] }
theorem tok300 : TOK Tryz.prog 300 ti300 := TOK.of (z := .nilFunc) ⟨_, Tryz.underlying300, rfl⟩ (by kernel_rfl) (by kernel_rfl) (by kernel_rfl) (by kernel_rfl) (by kernel_rfl)
def ti301 : TI := { kind := .other, size := 1, bytes := 8, zero := [.val .nilFunc] }
theorem tok301 : TOK Tryz.prog 301 ti301 := TOK.of (z := .nilFunc) ⟨_, Tryz.underlying301, rfl⟩ (by kernel_rfl) (by kernel_rfl) (by kernel_rfl) (by kernel_rfl) (by kernel_rfl)
def ti302 : TI := { kind := .other, size := 1, bytes := 8, zero := [.val .nilFunc] }
theorem tok302 : TOK Tryz.prog 302 ti302 := TOK.of (z := .nilFunc) ⟨_, Tryz.underlying302, rfl⟩ (by kernel_rfl) (by kernel_rfl) (by kernel_rfl) (by kernel_rfl) (by kernel_rfl)
def ti303 : TI := { kind := .other, size := 1, bytes := 8, zero := [.val .nilFunc] }
theorem tok303 : TOK Tryz.prog 303 ti303 := TOK.of (z := .nilFunc) ⟨_, Tryz.underlying303, rfl⟩ (by kernel_rfl) (by kernel_rfl) (by kernel_rfl) (by kernel_rfl) (by kernel_rfl)
def ti304 : TI := { kind := .ptr 5, size := 1, bytes := 8, zero := [.val (.pointer none)] }
theorem tok304 : TOK Tryz.prog 304 ti304 := TOK.of (z := (.pointer none)) (by kernel_rfl : Tryz.prog.underlying 304 = some (.pointer 5)) (by kernel_rfl) (by kernel_rfl) (by kernel_rfl) (by kernel_rfl) (by kernel_rfl)
def ti306 : TI := { kind := .other, size := 1, bytes := 8, zero := [.val .nilFunc] }
theorem tok306 : TOK Tryz.prog 306 ti306 := TOK.of (z := .nilFunc) ⟨_, Tryz.underlying306, rfl⟩ (by kernel_rfl) (by kernel_rfl) (by kernel_rfl) (by kernel_rfl) (by kernel_rfl)
def ti307 : TI := { kind := .other, size := 1, bytes := 8, zero := [.val .nilFunc] }
theorem tok307 : TOK Tryz.prog 307 ti307 := TOK.of (z := .nilFunc) ⟨_, Tryz.underlying307, rfl⟩ (by kernel_rfl) (by kernel_rfl) (by kernel_rfl) (by kernel_rfl) (by kernel_rfl)
def ti308 : TI := { kind := .other, size := 1, bytes := 8, zero := [.val .nilFunc] }
theorem tok308 : TOK Tryz.prog 308 ti308 := TOK.of (z := .nilFunc) ⟨_, Tryz.underlying308, rfl⟩ (by kernel_rfl) (by kernel_rfl) (by kernel_rfl) (by kernel_rfl) (by kernel_rfl)
def ti309 : TI := { kind := .other, size := 1, bytes := 8, zero := [.val .nilFunc] }
theorem tok309 : TOK Tryz.prog 309 ti309 := TOK.of (z := .nilFunc) ⟨_, Tryz.underlying309, rfl⟩ (by kernel_rfl) (by kernel_rfl) (by kernel_rfl) (by kernel_rfl) (by kernel_rfl)
def ti310 : TI := { kind := .other, size := 1, bytes := 8, zero := [.val .nilFunc] }
theorem tok310 : TOK Tryz.prog 310 ti310 := TOK.of (z := .nilFunc) ⟨_, Tryz.underlying310, rfl⟩ (by kernel_rfl) (by kernel_rfl) (by kernel_rfl) (by kernel_rfl) (by kernel_rfl)
def ti311 : TI := { kind := .other, size := 1, bytes := 8, zero := [.val .nilFunc] }
theorem tok311 : TOK Tryz.prog 311 ti311 := TOK.of (z := .nilFunc) ⟨_, Tryz.underlying311, rfl⟩ (by kernel_rfl) (by kernel_rfl) (by kernel_rfl) (by kernel_rfl) (by kernel_rfl)
def ti312 : TI := { kind := .other, size := 1, bytes := 8, zero := [.val .nilFunc] }
theorem tok312 : TOK Tryz.prog 312 ti312 := TOK.of (z := .nilFunc) ⟨_, Tryz.underlying312, rfl⟩ (by kernel_rfl) (by kernel_rfl) (by kernel_rfl) (by kernel_rfl) (by kernel_rfl)
def ti313 : TI := { kind := .other, size := 1, bytes := 8, zero := [.val .nilFunc] }
theorem tok313 : TOK Tryz.prog 313 ti313 := TOK.of (z := .nilFunc) ⟨_, Tryz.underlying313, rfl⟩ (by kernel_rfl) (by kernel_rfl) (by kernel_rfl) (by kernel_rfl) (by kernel_rfl)
def ti314 : TI := { kind := .other, size := 1, bytes := 8, zero := [.val .nilFunc] }
theorem tok314 : TOK Tryz.prog 314 ti314 := TOK.of (z := .nilFunc) ⟨_, Tryz.underlying314, rfl⟩ (by kernel_rfl) (by kernel_rfl) (by kernel_rfl) (by kernel_rfl) (by kernel_rfl)
def ti316 : TI := { kind := .other, size := 1, bytes := 8, zero := [.val .nilFunc] }
theorem tok316 : TOK Tryz.prog 316 ti316 := TOK.of (z := .nilFunc) ⟨_, Tryz.underlying316, rfl⟩ (by kernel_rfl) (by kernel_rfl) (by kernel_rfl) (by kernel_rfl) (by kernel_rfl)
def ti317 : TI := { kind := .other, size := 1, bytes := 8, zero := [.val .nilFunc] }
theorem tok317 : TOK Tryz.prog 317 ti317 := TOK.of (z := .nilFunc) ⟨_, Tryz.underlying317, rfl⟩ (by kernel_rfl) (by kernel_rfl) (by kernel_rfl) (by kernel_rfl) (by kernel_rfl)
def ti318 : TI := { kind := .arr 24 5, size := 24, bytes := 24, zero := [.val (.int .u8 0), .val (.int .u8 0), .val (.int .u8 0), .val (.int .u8 0), .val (.int .u8 0), .val (.int .u8 0), .val (.int .u8 0), .val (.int .u8 0), .val (.int .u8 0), .val (.int .u8 0), .val (.int .u8 0), .val (.int .u8 0), .val (.int .u8 0), .val (.int .u8 0), .val (.int .u8 0), .val (.int .u8 0), .val (.int .u8 0), .val (.int .u8 0), .val (.int .u8 0), .val (.int .u8 0), .val (.int .u8 0), .val (.int .u8 0), .val (.int .u8 0), .val (.int .u8 0)] }
theorem tok318 : TOK Tryz.prog 318 ti318 := TOK.of (z := .agg #[(.int .u8 0), (.int .u8 0), (.int .u8 0), (.int .u8 0), (.int .u8 0), (.int .u8 0), (.int .u8 0), (.int .u8 0), (.int .u8 0), (.int .u8 0), (.int .u8 0), (.int .u8 0), (.int .u8 0), (.int .u8 0), (.int .u8 0), (.int .u8 0), (.int .u8 0), (.int .u8 0), (.int .u8 0), (.int .u8 0), (.int .u8 0), (.int .u8 0), (.int .u8 0), (.int .u8 0)]) (by kernel_rfl : Tryz.prog.underlying 318 = some (.array 24 5)) (by kernel_rfl) (by kernel_rfl) (by kernel_rfl) (by kernel_rfl) (by kernel_rfl)
def ti319 : TI := { kind := .other, size := 1, bytes := 8, zero := [.val .nilFunc] }
theorem tok319 : TOK Tryz.prog 319 ti319 := TOK.of (z := .nilFunc) ⟨_, Tryz.underlying319, rfl⟩ (by kernel_rfl) (by kernel_rfl) (by kernel_rfl) (by kernel_rfl) (by kernel_rfl)
def ti320 : TI := { kind := .other, size := 1, bytes := 8, zero := [.val .nilFunc] }
theorem tok320 : TOK Tryz.prog 320 ti320 := TOK.of (z := .nilFunc) ⟨_, Tryz.underlying320, rfl⟩ (by kernel_rfl) (by kernel_rfl) (by kernel_rfl) (by kernel_rfl) (by kernel_rfl)
def ti322 : TI := { kind := .other, size := 1, bytes := 8, zero := [.val .nilFunc] }
theorem tok322 : TOK Tryz.prog 322 ti322 := TOK.of (z := .nilFunc) ⟨_, Tryz.underlying322, rfl⟩ (by kernel_rfl) (by kernel_rfl) (by kernel_rfl) (by kernel_rfl) (by kernel_rfl)
def ti323 : TI := { kind := .other, size := 1, bytes := 8, zero := [.val .nilFunc] }
theorem tok323 : TOK Tryz.prog 323 ti323 := TOK.of (z := .nilFunc) ⟨_, Tryz.underlying323, rfl⟩ (by kernel_rfl) (by kernel_rfl) (by kernel_rfl) (by kernel_rfl) (by kernel_rfl)
def ti324 : TI := { kind := .other, size := 1, bytes := 8, zero := [.val .nilFunc] }
theorem tok324 : TOK Tryz.prog 324 ti324 := TOK.of (z := .nilFunc) ⟨_, Tryz.underlying324, rfl⟩ (by kernel_rfl) (by kernel_rfl) (by kernel_rfl) (by kernel_rfl) (by kernel_rfl)
def ti326 : TI := { kind := .other, size := 1, bytes := 8, zero := [.val .nilFunc] }
theorem tok326 : TOK Tryz.prog 326 ti326 := TOK.of (z := .nilFunc) ⟨_, Tryz.underlying326, rfl⟩ (by kernel_rfl) (by kernel_rfl) (by kernel_rfl) (by kernel_rfl) (by kernel_rfl)
def ti327 : TI := { kind := .other, size := 1, bytes := 8, zero := [.val .nilFunc] }
theorem tok327 : TOK Tryz.prog 327 ti327 := TOK.of (z := .nilFunc) ⟨_, Tryz.underlying327, rfl⟩ (by kernel_rfl) (by kernel_rfl) (by kernel_rfl) (by kernel_rfl) (by kernel_rfl)
def ti328 : TI := { kind := .other, size := 1, bytes := 8, zero := [.val .nilFunc] }
theorem tok328 : TOK Tryz.prog 328 ti328 := TOK.of (z := .nilFunc) ⟨_, Tryz.underlying328, rfl⟩ (by kernel_rfl) (by kernel_rfl) (by kernel_rfl) (by kernel_rfl) (by kernel_rfl)
def ti329 : TI := { kind := .arr 20 30, size := 20, bytes := 160, zero := [.val (.int .u64 0), .val (.int .u64 0), .val (.int .u64 0), .val (.int .u64 0), .val (.int .u64 0), .val (.int .u64 0), .val (.int .u64 0), .val (.int .u64 0), .val (.int .u64 0), .val (.int .u64 0), .val (.int .u64 0), .val (.int .u64 0), .val (.int .u64 0), .val (.int .u64 0), .val (.int .u64 0), .val (.int .u64 0), .val (.int .u64 0), .val (.int .u64 0), .val (.int .u64 0), .val (.int .u64 0)] }
theorem tok329 : TOK Tryz.prog 329 ti329 := TOK.of (z := .agg #[(.int .u64 0), (.int .u64 0), (.int .u64 0), (.int .u64 0), (.int .u64 0), (.int .u64 0), (.int .u64 0), (.int .u64 0), (.int .u64 0), (.int .u64 0), (.int .u64 0), (.int .u64 0), (.int .u64 0), (.int .u64 0), (.int .u64 0), (.int .u64 0), (.int .u64 0), (.int .u64 0), (.int .u64 0), (.int .u64 0)]) (by kernel_rfl : Tryz.prog.underlying 329 = some (.array 20 30)) (by kernel_rfl) (by kernel_rfl) (by kernel_rfl) (by kernel_rfl) (by kernel_rfl)
def ti330 : TI := { kind := .arr 65 5, size := 65, bytes := 65, zero := [.val (.int .u8 0), .val (.int .u8 0), .val (.int .u8 0), .val (.int .u8 0), .val (.int .u8 0), .val (.int .u8 0), .val (.int .u8 0), .val (.int .u8 0), .val (.int .u8 0), .val (.int .u8 0), .val (.int .u8 0), .val (.int .u8 0), .val (.int .u8 0), .val (.int .u8 0), .val (.int .u8 0), .val (.int .u8 0), .val (.int .u8 0), .val (.int .u8 0), .val (.int .u8 0), .val (.int .u8 0), .val (.int .u8 0), .val (.int .u8 0), .val (.int .u8 0), .val (.int .u8 0), .val (.int .u8 0), .val (.int .u8 0), .val (.int .u8 0), .val (.int .u8 0), .val (.int .u8 0), .val (.int .u8 0), .val (.int .u8 0), .val (.int .u8 0), .val (.int .u8 0), .val (.int .u8 0), .val (.int .u8 0), .val (.int .u8 0), .val (.int .u8 0), .val (.int .u8 0), .val (.int .u8 0), .val (.int .u8 0), .val (.int .u8 0), .val (.int .u8 0), .val (.int .u8 0), .val (.int .u8 0), .val (.int .u8 0), .val (.int .u8 0), .val (.int .u8 0), .val (.int .u8 0), .val (.int .u8 0), .val (.int .u8 0), .val (.int .u8 0), .val (.int .u8 0), .val (.int .u8 0), .val (.int .u8 0), .val (.int .u8 0), .val (.int .u8 0), .val (.int .u8 0), .val (.int .u8 0), .val (.int .u8 0), .val (.int .u8 0), .val (.int .u8 0), .val (.int .u8 0), .val (.int .u8 0), .val (.int .u8 0), .val (.int .u8 0)] }
theorem tok330 : TOK Tryz.prog 330 ti330 := TOK.of (z := .agg #[(.int .u8 0), (.int .u8 0), (.int .u8 0), (.int .u8 0), (.int .u8 0), (.int .u8 0), (.int .u8 0), (.int .u8 0), (.int .u8 0), (.int .u8 0), (.int .u8 0), (.int .u8 0), (.int .u8 0), (.int .u8 0), (.int .u8 0), (.int .u8 0), (.int .u8 0), (.int .u8 0), (.int .u8 0), (.int .u8 0), (.int .u8 0), (.int .u8 0), (.int .u8 0), (.int .u8 0), (.int .u8 0), (.int .u8 0), (.int .u8 0), (.int .u8 0), (.int .u8 0), (.int .u8 0), (.int .u8 0), (.int .u8 0), (.int .u8 0), (.int .u8 0), (.int .u8 0), (.int .u8 0), (.int .u8 0), (.int .u8 0), (.int .u8 0), (.int .u8 0), (.int .u8 0), (.int .u8 0), (.int .u8 0), (.int .u8 0), (.int .u8 0), (.int .u8 0), (.int .u8 0), (.int .u8 0), (.int .u8 0), (.int .u8 0), (.int .u8 0), (.int .u8 0), (.int .u8 0), (.int .u8 0), (.int .u8 0), (.int .u8 0), (.int .u8 0), (.int .u8 0), (.int .u8 0), (.int .u8 0), (.int .u8 0), (.int .u8 0), (.int .u8 0), (.int .u8 0), (.int .u8 0)]) (by kernel_rfl : Tryz.prog.underlying 330 = some (.array 65 5)) (by kernel_rfl) (by kernel_rfl) (by kernel_rfl) (by kernel_rfl) (by kernel_rfl)
def ti331 : TI := { kind := .other, size := 1, bytes := 8, zero := [.val .nilFunc] }
theorem tok331 : TOK Tryz.prog 331 ti331 := TOK.of (z := .nilFunc) ⟨_, Tryz.underlying331, rfl⟩ (by kernel_rfl) (by kernel_rfl) (by kernel_rfl) (by kernel_rfl) (by kernel_rfl)
def ti332 : TI := { kind := .arr 32 5, size := 32, bytes := 32, zero := [.val (.int .u8 0), .val (.int .u8 0), .val (.int .u8 0), .val (.int .u8 0), .val (.int .u8 0), .val (.int .u8 0), .val (.int .u8 0), .val (.int .u8 0), .val (.int .u8 0), .val (.int .u8 0), .val (.int .u8 0), .val (.int .u8 0), .val (.int .u8 0), .val (.int .u8 0), .val (.int .u8 0), .val (.int .u8 0), .val (.int .u8 0), .val (.int .u8 0), .val (.int .u8 0), .val (.int .u8 0), .val (.int .u8 0), .val (.int .u8 0), .val (.int .u8 0), .val (.int .u8 0), .val (.int .u8 0), .val (.int .u8 0), .val (.int .u8 0), .val (.int .u8 0), .val (.int .u8 0), .val (.int .u8 0), .val (.int .u8 0), .val (.int .u8 0)] }
theorem tok332 : TOK Tryz.prog 332 ti332 := TOK.of (z := .agg #[(.int .u8 0), (.int .u8 0), (.int .u8 0), (.int .u8 0), (.int .u8 0), (.int .u8 0), (.int .u8 0), (.int .u8 0), (.int .u8 0), (.int .u8 0), (.int .u8 0), (.int .u8 0), (.int .u8 0), (.int .u8 0), (.int .u8 0), (.int .u8 0), (.int .u8 0), (.int .u8 0), (.int .u8 0), (.int .u8 0), (.int .u8 0), (.int .u8 0), (.int .u8 0), (.int .u8 0), (.int .u8 0), (.int .u8 0), (.int .u8 0), (.int .u8 0), (.int .u8 0), (.int .u8 0), (.int .u8 0), (.int .u8 0)]) (by kernel_rfl : Tryz.prog.underlying 332 = some (.array 32 5)) (by kernel_rfl) (by kernel_rfl) (by kernel_rfl) (by kernel_rfl) (by kernel_rfl)
def ti333 : TI := { kind := .arr 64 5, size := 64, bytes := 64, zero := [.val (.int .u8 0), .val (.int .u8 0), .val (.int .u8 0), .val (.int .u8 0), .val (.int .u8 0), .val (.int .u8 0), .val (.int .u8 0), .val (.int .u8 0), .val (.int .u8 0), .val (.int .u8 0), .val (.int .u8 0), .val (.int .u8 0), .val (.int .u8 0), .val (.int .u8 0), .val (.int .u8 0), .val (.int .u8 0), .val (.int .u8 0), .val (.int .u8 0), .val (.int .u8 0), .val (.int .u8 0), .val (.int .u8 0), .val (.int .u8 0), .val (.int .u8 0), .val (.int .u8 0), .val (.int .u8 0), .val (.int .u8 0), .val (.int .u8 0), .val (.int .u8 0), .val (.int .u8 0), .val (.int .u8 0), .val (.int .u8 0), .val (.int .u8 0), .val (.int .u8 0), .val (.int .u8 0), .val (.int .u8 0), .val (.int .u8 0), .val (.int .u8 0), .val (.int .u8 0), .val (.int .u8 0), .val (.int .u8 0), .val (.int .u8 0), .val (.int .u8 0), .val (.int .u8 0), .val (.int .u8 0), .val (.int .u8 0), .val (.int .u8 0), .val (.int .u8 0), .val (.int .u8 0), .val (.int .u8 0), .val (.int .u8 0), .val (.int .u8 0), .val (.int .u8 0), .val (.int .u8 0), .val (.int .u8 0), .val (.int .u8 0), .val (.int .u8 0), .val (.int .u8 0), .val (.int .u8 0), .val (.int .u8 0), .val (.int .u8 0), .val (.int .u8 0), .val (.int .u8 0), .val (.int .u8 0), .val (.int .u8 0)] }
theorem tok333 : TOK Tryz.prog 333 ti333 := TOK.of (z := .agg #[(.int .u8 0), (.int .u8 0), (.int .u8 0), (.int .u8 0), (.int .u8 0), (.int .u8 0), (.int .u8 0), (.int .u8 0), (.int .u8 0), (.int .u8 0), (.int .u8 0), (.int .u8 0), (.int .u8 0), (.int .u8 0), (.int .u8 0), (.int .u8 0), (.int .u8 0), (.int .u8 0), (.int .u8 0), (.int .u8 0), (.int .u8 0), (.int .u8 0), (.int .u8 0), (.int .u8 0), (.int .u8 0), (.int .u8 0), (.int .u8 0), (.int .u8 0), (.int .u8 0), (.int .u8 0), (.int .u8 0), (.int .u8 0), (.int .u8 0), (.int .u8 0), (.int .u8 0), (.int .u8 0), (.int .u8 0), (.int .u8 0), (.int .u8 0), (.int .u8 0), (.int .u8 0), (.int .u8 0), (.int .u8 0), (.int .u8 0), (.int .u8 0), (.int .u8 0), (.int .u8 0), (.int .u8 0), (.int .u8 0), (.int .u8 0), (.int .u8 0), (.int .u8 0), (.int .u8 0), (.int .u8 0), (.int .u8 0), (.int .u8 0), (.int .u8 0), (.int .u8 0), (.int .u8 0), (.int .u8 0), (.int .u8 0), (.int .u8 0), (.int .u8 0), (.int .u8 0)]) (by kernel_rfl : Tryz.prog.underlying 333 = some (.array 64 5)) (by kernel_rfl) (by kernel_rfl) (by kernel_rfl) (by kernel_rfl) (by kernel_rfl)
def ti342 : TI := { kind := .other, size := 1, bytes := 8, zero := [.val .nilFunc] }
theorem tok342 : TOK Tryz.prog 342 ti342 := TOK.of (z := .nilFunc) ⟨_, Tryz.underlying342, rfl⟩ (by kernel_rfl) (by kernel_rfl) (by kernel_rfl) (by kernel_rfl) (by kernel_rfl)
def ti347 : TI := { kind := .agg [(0, 9, 1)], size := 1, bytes := 16, zero := [.val (.string .empty)] }
theorem tok347 : TOK Tryz.prog 347 ti347 := TOK.of (z := .agg #[(.string .empty)]) ⟨by kernel_rfl, by kernel_rfl, by kernel_rfl⟩ (by kernel_rfl) (by kernel_rfl) (by kernel_rfl) (by kernel_rfl) (by kernel_rfl)
def tab : List (TypeId × TI) := [(1, ti1), (2, ti2), (3, ti3), (4, ti4), (5, ti5), (9, ti9), (12, ti12), (13, ti13), (21, ti21), (22, ti22), (23, ti23), (24, ti24), (25, ti25), (26, ti26), (27, ti27), (29, ti29), (30, ti30), (31, ti31), (32, ti32), (33, ti33), (34, ti34), (35, ti35), (36, ti36), (37, ti37), (38, ti38), (39, ti39), (40, ti40), (41, ti41), (42, ti42), (43, ti43), (44, ti44), (45, ti45), (46, ti46), (47, ti47), (48, ti48), (49, ti49), (50, ti50), (52, ti52), (53, ti53), (54, ti54), (55, ti55), (57, ti57), (58, ti58), (59, ti59), (61, ti61), (62, ti62), (63, ti63), (64, ti64), (65, ti65), (66, ti66), (67, ti67), (68, ti68), (69, ti69), (70, ti70), (71, ti71), (72, ti72), (73, ti73), (74, ti74), (75, ti75), (76, ti76), (77, ti77), (78, ti78), (79, ti79), (80, ti80), (81, ti81), (82, ti82), (83, ti83), (84, ti84), (85, ti85), (86, ti86), (87, ti87), (89, ti89), (91, ti91), (92, ti92), (93, ti93), (94, ti94), (95, ti95), (96, ti96), (97, ti97), (98, ti98), (99, ti99), (100, ti100), (101, ti101), (102, ti102), (103, ti103), (104, ti104), (105, ti105), (106, ti106), (107, ti107), (108, ti108), (110, ti110), (111, ti111), (112, ti112), (113, ti113), (114, ti114), (115, ti115), (116, ti116), (117, ti117), (118, ti118), (120, ti120), (121, ti121), (122, ti122), (123, ti123), (124, ti124), (125, ti125), (126, ti126), (127, ti127), (128, ti128), (129, ti129), (131, ti131), (132, ti132), (133, ti133), (134, ti134), (135, ti135), (136, ti136), (137, ti137), (138, ti138), (139, ti139), (140, ti140), (141, ti141), (142, ti142), (143, ti143), (144, ti144), (145, ti145), (146, ti146), (147, ti147), (148, ti148), (149, ti149), (150, ti150), (151, ti151), (152, ti152), (153, ti153), (154, ti154), (155, ti155), (156, ti156), (157, ti157), (158, ti158), (159, ti159), (160, ti160), (161, ti161), (162, ti162), (163, ti163), (164, ti164), (165, ti165), (166, ti166), (167, ti167), (168, ti168), (169, ti169), (170, ti170), (171, ti171), (172, ti172), (173, ti173), (174, ti174), (175, ti175), (176, ti176), (177, ti177), (178, ti178), (179, ti179), (180, ti180), (181, ti181), (182, ti182), (183, ti183), (184, ti184), (185, ti185), (186, ti186), (187, ti187), (188, ti188), (189, ti189), (191, ti191), (192, ti192), (193, ti193), (194, ti194), (195, ti195), (196, ti196), (197, ti197), (198, ti198), (199, ti199), (200, ti200), (201, ti201), (202, ti202), (203, ti203), (204, ti204), (205, ti205), (206, ti206), (207, ti207), (208, ti208), (210, ti210), (211, ti211), (212, ti212), (213, ti213), (214, ti214), (215, ti215), (216, ti216), (217, ti217), (218, ti218), (219, ti219), (220, ti220), (221, ti221), (222, ti222), (223, ti223), (224, ti224), (225, ti225), (226, ti226), (227, ti227), (228, ti228), (229, ti229), (231, ti231), (233, ti233), (234, ti234), (235, ti235), (236, ti236), (237, ti237), (238, ti238), (239, ti239), (240, ti240), (241, ti241), (242, ti242), (243, ti243), (244, ti244), (246, ti246), (247, ti247), (248, ti248), (249, ti249), (250, ti250), (251, ti251), (252, ti252), (253, ti253), (254, ti254), (255, ti255), (256, ti256), (257, ti257), (258, ti258), (259, ti259), (261, ti261), (262, ti262), (264, ti264), (266, ti266), (267, ti267), (268, ti268), (269, ti269), (270, ti270), (271, ti271), (272, ti272), (273, ti273), (274, ti274), (275, ti275), (279, ti279), (280, ti280), (281, ti281), (282, ti282), (283, ti283), (284, ti284), (285, ti285), (286, ti286), (287, ti287), (288, ti288), (289, ti289), (290, ti290), (291, ti291), (292, ti292), (293, ti293), (295, ti295), (296, ti296), (297, ti297), (298, ti298), (299, ti299), (300, ti300), (301, ti301), (302, ti302), (303, ti303), (304, ti304), (306, ti306), (307, ti307), (308, ti308), (309, ti309), (310, ti310), (311, ti311), (312, ti312), (313, ti313), (314, ti314), (316, ti316), (317, ti317), (318, ti318), (319, ti319), (320, ti320), (322, ti322), (323, ti323), (324, ti324), (326, ti326), (327, ti327), (328, ti328), (329, ti329), (330, ti330), (331, ti331), (332, ti332), (333, ti333), (342, ti342), (347, ti347)]
theorem tabOK : TabOK Tryz.prog tab := ⟨tok1, tok2, tok3, tok4, tok5, tok9, tok12, tok13, tok21, tok22, tok23, tok24, tok25, tok26, tok27, tok29, tok30, tok31, tok32, tok33, tok34, tok35, tok36, tok37, tok38, tok39, tok40, tok41, tok42, tok43, tok44, tok45, tok46, tok47, tok48, tok49, tok50, tok52, tok53, tok54, tok55, tok57, tok58, tok59, tok61, tok62, tok63, tok64, tok65, tok66, tok67, tok68, tok69, tok70, tok71, tok72, tok73, tok74, tok75, tok76, tok77, tok78, tok79, tok80, tok81, tok82, tok83, tok84, tok85, tok86, tok87, tok89, tok91, tok92, tok93, tok94, tok95, tok96, tok97, tok98, tok99, tok100, tok101, tok102, tok103, tok104, tok105, tok106, tok107, tok108, tok110, tok111, tok112, tok113, tok114, tok115, tok116, tok117, tok118, tok120, tok121, tok122, tok123, tok124, tok125, tok126, tok127, tok128, tok129, tok131, tok132, tok133, tok134, tok135, tok136, tok137, tok138, tok139, tok140, tok141, tok142, tok143, tok144, tok145, tok146, tok147, tok148, tok149, tok150, tok151, tok152, tok153, tok154, tok155, tok156, tok157, tok158, tok159, tok160, tok161, tok162, tok163, tok164, tok165, tok166, tok167, tok168, tok169, tok170, tok171, tok172, tok173, tok174, tok175, tok176, tok177, tok178, tok179, tok180, tok181, tok182, tok183, tok184, tok185, tok186, tok187, tok188, tok189, tok191, tok192, tok193, tok194, tok195, tok196, tok197, tok198, tok199, tok200, tok201, tok202, tok203, tok204, tok205, tok206, tok207, tok208, tok210, tok211, tok212, tok213, tok214, tok215, tok216, tok217, tok218, tok219, tok220, tok221, tok222, tok223, tok224, tok225, tok226, tok227, tok228, tok229, tok231, tok233, tok234, tok235, tok236, tok237, tok238, tok239, tok240, tok241, tok242, tok243, tok244, tok246, tok247, tok248, tok249, tok250, tok251, tok252, tok253, tok254, tok255, tok256, tok257, tok258, tok259, tok261, tok262, tok264, tok266, tok267, tok268, tok269, tok270, tok271, tok272, tok273, tok274, tok275, tok279, tok280, tok281, tok282, tok283, tok284, tok285, tok286, tok287, tok288, tok289, tok290, tok291, tok292, tok293, tok295, tok296, tok297, tok298, tok299, tok300, tok301, tok302, tok303, tok304, tok306, tok307, tok308, tok309, tok310, tok311, tok312, tok313, tok314, tok316, tok317, tok318, tok319, tok320, tok322, tok323, tok324, tok326, tok327, tok328, tok329, tok330, tok331, tok332, tok333, tok342, tok347, trivial⟩
theorem tgt {t : TypeId} {ti : TI} (h : tfind tab t = some ti) : TOK Tryz.prog t ti := TabOK.get tabOK h
theorem tl0 : ti5.bytes = 1 ∧ ti95.bytes = 4 ∧ ti3.bytes = 8 ∧ ti2.bytes = 8 ∧ ti9.bytes = 16 ∧ ti38.bytes = 56 ∧ ti74.bytes = 56 ∧ ti25.bytes = 24 ∧ ti41.bytes = 24 ∧ ti36.bytes = 32 ∧ ti30.bytes = 8 ∧ ti4.bytes = 1 ∧ ti70.bytes = 24 ∧ ti72.bytes = 32 ∧ ti164.bytes = 24 ∧ ti27.bytes = 40 ∧ ti62.bytes = 24 ∧ ti32.bytes = 24 := ⟨rfl, rfl, rfl, rfl, rfl, rfl, rfl, rfl, rfl, rfl, rfl, rfl, rfl, rfl, rfl, rfl, rfl, rfl⟩
theorem mixedOK : Tryz.prog.follows .mixedOrders = true := by kernel_rfl
def good : List TypeId := [32, 34, 36, 38, 97, 226]
theorem goodOK : GoodOK Tryz.prog good := by
  have h : good.all (fun t => !Tryz.prog.stoodInHeld t && (Tryz.prog.fieldsOf t).toList.all (fun f => f.name != "_")) = true := by kernel_rfl
  intro t ht; have := List.all_eq_true.1 h t ht; simpa using this
end Go.Proofs.YtkpfineikahgfaaGreatDoor

namespace Go.Proofs.YtkpfineikahgfaaGreatDoor
open Go.Sx
set_option linter.unusedSimpArgs false
set_option linter.unusedVariables false
set_option maxRecDepth 100000

theorem guard_nat : Tryz.prog.eqGuardType Tryz.prog.depth 32 = false := by kernel_rfl
theorem guard_size : Tryz.prog.eqGuardType Tryz.prog.depth 34 = false := by kernel_rfl

theorem eqTy_nat (a b : Nat) : eqTy tab good 10 32 (natCells a) (natCells b) = some (decide (a = b)) := by
  rw [← nat_eq_iff, ← Bool.and_true (low a == low b && _), Bool.and_assoc]
  rfl
theorem eqTy_size (a b : Nat) : eqTy tab good 10 34 (natCells a) (natCells b) = some (decide (a = b)) := by
  have : eqTy tab good 10 34 (natCells a) (natCells b) = some (((low a == low b) && (((big a).toList == (big b).toList) && true)) && true) := rfl
  rw [this, Bool.and_true, Bool.and_true, nat_eq_iff]

theorem c_nOf (n : Nat) (hn : n < 18446744073709551616) : CallOK Tryz.prog 66 [.val (.int .u64 n)] [] (.nat n) [] [] := by
  refine callV (Z := []) tabOK mixedOK Tryz.func66 rfl (by kernel_rfl) rfl rfl (by kernel_rfl) rfl ?_
  intro W0 w0 ρ0 hE
  conv => whnf
  exact recast_flat (l := natCells n) (by rw [natCells_small hn]; rfl) rfl (fun _ h => by cases h)

theorem c_nZero (n : Nat) : CallOK Tryz.prog 165 [.nat n] [] (.val (.bool (decide (n = 0)))) [] [] := by
  refine callV (Z := []) tabOK mixedOK Tryz.func165 rfl (by kernel_rfl) rfl rfl (by kernel_rfl) rfl ?_
  intro W0 w0 ρ0 hE
  conv => whnf
  refine ⟨_, op_eqAgg tabOK goodOK rfl (ev_ok rfl) (ev_ok rfl) rfl rfl rfl rfl (eqTy_nat n 0) guard_nat, ?_⟩
  conv => whnf
  exact Recast.refl _

theorem c_sZero (n : Nat) : CallOK Tryz.prog 120 [.nat n] [] (.val (.bool (decide (n = 0)))) [] [] := by
  refine callV (Z := []) tabOK mixedOK Tryz.func120 rfl (by kernel_rfl) rfl rfl (by kernel_rfl) rfl ?_
  intro W0 w0 ρ0 hE
  conv => whnf
  refine ⟨_, op_eqAgg tabOK goodOK rfl (ev_ok rfl) (ev_ok rfl) rfl rfl rfl rfl (eqTy_size n 0) guard_size, ?_⟩
  conv => whnf
  exact Recast.refl _

theorem c_Abs (z : Int) : CallOK Tryz.prog 39 [.int z] [] (.nat z.natAbs) [] [] := by
  refine callV (Z := []) tabOK mixedOK Tryz.func39 rfl (by kernel_rfl) rfl rfl (by kernel_rfl) rfl ?_
  intro W0 w0 ρ0 hE
  conv => whnf
  exact recast_flat (l := natCells z.natAbs) rfl rfl (fun _ h => by cases h)

theorem big_eq (n : Nat) : ((big n).toList == (ByteArray.mk #[]).toList) = decide (n < 18446744073709551616) := by
  rw [Bool.eq_iff_iff, show (ByteArray.mk #[]).toList = [] from by rw [ByteArray.toList_eq]]
  simp [big_empty]

/-- The sign put before a size. -/
def signed (neg : Bool) (n : Nat) : Int := if neg then -(n : Int) else n

theorem c_From (neg : Bool) (n : Nat) : CallOK Tryz.prog 38 [.val (.bool neg), .nat n] [] (.int (signed neg n)) [] [] := by
  refine callV (Z := []) tabOK mixedOK Tryz.func38 rfl (by kernel_rfl) rfl rfl (by kernel_rfl) rfl ?_
  intro W0 w0 ρ0 hE
  cases neg
  · conv => whnf
    refine ⟨(fun h => by cases h), fun _ => ?_⟩
    conv => whnf
    refine ⟨(fun h => by cases h), fun _ => ?_⟩
    conv => whnf
    refine ⟨(fun h => by cases h), fun _ => ?_⟩
    conv => whnf
    refine ⟨.val (.bool false), [], [], [], op_pick rfl (ev_ok rfl) (fun hb => by cases hb) (fun _ => ev_ok rfl) rfl (c1 := .any), nil_fk, nil_new, nil_upd, ?_⟩
    conv => whnf
    refine ⟨by kernel_rfl, ?_⟩
    conv => whnf
    refine recast_flat (l := intCells (signed false n)) ?_ rfl (fun _ h => by cases h)
    have e1 : (signed false n).natAbs = n := by simp [signed]
    have e2 : decide (signed false n < 0) = false := by simp [signed]
    rw [intCells, e1, e2]
    rfl
  · conv => whnf
    refine ⟨fun _ => ?_, fun h => by cases h⟩
    conv => whnf
    refine ⟨fun _ => ?_, fun h => by cases h⟩
    conv => whnf
    refine ⟨[], _, [], [], c_sZero n, nil_fk, nil_new, nil_upd, ?_⟩
    conv => whnf
    refine ⟨fun _ => ?_, fun h => by cases h⟩
    conv => whnf
    refine ⟨.val (.bool (!decide (n = 0))), [], [], [], op_pick rfl (ev_ok rfl) (fun _ => ev_ok rfl) (fun hb => by cases hb) rfl (c2 := .any), nil_fk, nil_new, nil_upd, ?_⟩
    conv => whnf
    refine ⟨by kernel_rfl, ?_⟩
    conv => whnf
    refine recast_flat (l := intCells (signed true n)) ?_ rfl (fun _ h => by cases h)
    have e1 : (signed true n).natAbs = n := by simp [signed]
    have e2 : decide (signed true n < 0) = !decide (n = 0) := by rw [Bool.eq_iff_iff]; simp [signed]; omega
    rw [intCells, e1, e2]
    rfl

theorem c_Sign (z : Int) : CallOK Tryz.prog 42 [.int z] [] (.val (.int .i64 z.sign)) [] [] := by
  refine callV (Z := []) tabOK mixedOK Tryz.func42 rfl (by kernel_rfl) rfl rfl (by kernel_rfl) rfl ?_
  intro W0 w0 ρ0 hE
  conv => whnf
  refine ⟨[], _, [], [], c_sZero z.natAbs, nil_fk, nil_new, nil_upd, ?_⟩
  conv => whnf
  refine ⟨fun h => ?_, fun h => ?_⟩
  · have hz : z = 0 := by have := of_decide_eq_true h; omega
    conv => whnf
    subst hz
    exact Recast.refl _
  · have hz : z ≠ 0 := by have := of_decide_eq_false h; omega
    conv => whnf
    refine ⟨fun h => ?_, fun h => ?_⟩
    · have hz : z.sign = -1 := Int.sign_eq_neg_one_of_neg (of_decide_eq_true h)
      conv => whnf
      rw [hz]
      exact Recast.refl _
    · have hz : z.sign = 1 := Int.sign_eq_one_of_pos (by have := of_decide_eq_false h; omega)
      conv => whnf
      rw [hz]
      exact Recast.refl _

theorem c_Neg (z : Int) : CallOK Tryz.prog 105 [.int z] [] (.int (-z)) [] [] := by
  refine callV (Z := []) tabOK mixedOK Tryz.func105 rfl (by kernel_rfl) rfl rfl (by kernel_rfl) rfl ?_
  intro W0 w0 ρ0 hE
  conv => whnf
  refine ⟨[], _, [], [], c_From (!decide (z < 0)) z.natAbs, nil_fk, nil_new, nil_upd, ?_⟩
  have e : signed (!decide (z < 0)) z.natAbs = -z := by
    unfold signed
    by_cases h : z < 0 <;> simp [h] <;> omega
  rw [e]
  conv => whnf
  exact Recast.refl _

theorem c_iOf (z : Int) (h0 : -9223372036854775808 ≤ z) (h1 : z < 9223372036854775808) : CallOK Tryz.prog 36 [.val (.int .i64 z)] [] (.int z) [] [] := by
  refine callV (Z := []) tabOK mixedOK Tryz.func36 rfl (by kernel_rfl) rfl rfl (by kernel_rfl) rfl ?_
  intro W0 w0 ρ0 hE
  conv => whnf
  refine ⟨fun h => ?_, fun h => ?_⟩
  · have hz := of_decide_eq_true h
    conv => whnf
    have e1 : IntKind.u64.wrap (0 - IntKind.u64.wrap z) = ((z.natAbs : Nat) : Int) := by rw [wrap_u64', wrap_u64']; omega
    rw [e1]
    refine ⟨[], _, [], [], c_nOf z.natAbs (by omega), nil_fk, nil_new, nil_upd, ?_⟩
    conv => whnf
    refine ⟨[], _, [], [], c_From true z.natAbs, nil_fk, nil_new, nil_upd, ?_⟩
    have e : signed true z.natAbs = z := by simp [signed]; omega
    rw [e]
    conv => whnf
    exact Recast.refl _
  · have hz := of_decide_eq_false h
    conv => whnf
    have e1 : IntKind.u64.wrap z = ((z.natAbs : Nat) : Int) := by rw [wrap_u64']; omega
    rw [e1]
    refine ⟨[], _, [], [], c_nOf z.natAbs (by omega), nil_fk, nil_new, nil_upd, ?_⟩
    conv => whnf
    refine ⟨[], _, [], [], c_From false z.natAbs, nil_fk, nil_new, nil_upd, ?_⟩
    have e : signed false z.natAbs = z := by simp [signed]; omega
    rw [e]
    conv => whnf
    exact Recast.refl _
end Go.Proofs.YtkpfineikahgfaaGreatDoor

namespace Go.Proofs.YtkpfineikahgfaaGreatDoor
open Go.Sx
set_option linter.unusedSimpArgs false
set_option linter.unusedVariables false
set_option maxRecDepth 100000
set_option maxHeartbeats 2000000

/-- The contracts of nats, for numbers of at most M binary digits. -/
structure NatOK (M : Nat) : Prop where
  big : 64 ≤ M
  cmp : ∀ a b, sz a ≤ M → sz b ≤ M → CallOK Tryz.prog 41 [.nat a, .nat b] [] (.val (.int .i64 ((a : Int) - b).sign)) [] []
  add : ∀ a b, sz (a + b) ≤ M → CallOK Tryz.prog 203 [.nat a, .nat b] [] (.nat (a + b)) [] []
  sub : ∀ a b, sz a ≤ M → b ≤ a → CallOK Tryz.prog 204 [.nat a, .nat b] [] (.tup [.nat (a - b), .val (.bool true)]) [] []
  subF : ∀ a b, sz b ≤ M → a < b → CallOK Tryz.prog 204 [.nat a, .nat b] [] (.tup [.nat 0, .val (.bool false)]) [] []
  mul : ∀ a b, sz a + sz b ≤ M → CallOK Tryz.prog 163 [.nat a, .nat b] [] (.nat (a * b)) [] []
  div : ∀ a b, sz a ≤ M → sz b ≤ M → b ≠ 0 → CallOK Tryz.prog 166 [.nat a, .nat b] [] (.tup [.nat (a / b), .nat (a % b), .val (.bool true)]) [] []
  divZ : ∀ a, CallOK Tryz.prog 166 [.nat a, .nat 0] [] (.tup [.nat 0, .nat 0, .val (.bool false)]) [] []
  gcd : ∀ a b, sz a ≤ M → sz b ≤ M → CallOK Tryz.prog 65 [.nat a, .nat b] [] (.nat (Nat.gcd a b)) [] []

variable {M : Nat}

theorem signed_abs (s : Bool) (n : Nat) : (signed s n).natAbs = n := by cases s <;> simp [signed]

theorem c_plus (ok : NatOK M) (a b : Int) (ha : sz a.natAbs < M) (hb : sz b.natAbs < M) :
    CallOK Tryz.prog 119 [.int a, .int b] [] (.int (a + b)) [] [] := by
  have hs : sz (a.natAbs + b.natAbs) ≤ M := by
    have := sz_add (k := M - 1) (show sz a.natAbs ≤ M - 1 by omega) (show sz b.natAbs ≤ M - 1 by omega)
    omega
  refine callV (Z := []) tabOK mixedOK Tryz.func119 rfl (by kernel_rfl) rfl rfl (by kernel_rfl) rfl ?_
  intro W0 w0 ρ0 hE
  conv => whnf
  refine ⟨fun h1 => ?_, fun h1 => ?_⟩
  · have h1 : decide (a < 0) = decide (b < 0) := by simpa using h1
    conv => whnf
    refine ⟨[], _, [], [], (ok.add _ _ hs), nil_fk, nil_new, nil_upd, ?_⟩; conv => whnf
    have e : signed (decide (a < 0)) (a.natAbs + b.natAbs) = a + b := by
      have := decide_eq_decide.1 h1
      unfold signed
      by_cases h : a < 0 <;> simp [h] <;> omega
    have := c_From (decide (a < 0)) (a.natAbs + b.natAbs)
    rw [e] at this
    refine ⟨[], _, [], [], (this), nil_fk, nil_new, nil_upd, ?_⟩; conv => whnf
    (repeat (first | (refine step_i (by kernel_rfl) ?_; conv => whnf))); exact Recast.refl _
  · have h1 : ¬ (a < 0 ↔ b < 0) := by
      intro h2
      simp [h2] at h1
    conv => whnf
    by_cases hab : b.natAbs ≤ a.natAbs
    · refine ⟨[], _, [], [], (ok.sub a.natAbs b.natAbs (by omega) hab), nil_fk, nil_new, nil_upd, ?_⟩; conv => whnf
      (repeat (first | (refine step_w1 rfl rfl ?_; conv => whnf)))
      have e : signed (decide (a < 0)) (a.natAbs - b.natAbs) = a + b := by
        unfold signed
        by_cases h : a < 0 <;> simp [h] <;> omega
      have := c_From (decide (a < 0)) (a.natAbs - b.natAbs)
      rw [e] at this
      refine ⟨[], _, [], [], (this), nil_fk, nil_new, nil_upd, ?_⟩; conv => whnf
      skip; exact Recast.refl _
    · refine ⟨[], _, [], [], (ok.subF a.natAbs b.natAbs (by omega) (by omega)), nil_fk, nil_new, nil_upd, ?_⟩; conv => whnf
      (repeat (first | (refine step_w2 rfl rfl ?_; conv => whnf)))
      refine ⟨[], _, [], [], (ok.sub b.natAbs a.natAbs (by omega) (by omega)), nil_fk, nil_new, nil_upd, ?_⟩; conv => whnf
      have e : signed (decide (b < 0)) (b.natAbs - a.natAbs) = a + b := by
        unfold signed
        by_cases h : b < 0 <;> simp [h] <;> omega
      have := c_From (decide (b < 0)) (b.natAbs - a.natAbs)
      rw [e] at this
      refine ⟨[], _, [], [], (this), nil_fk, nil_new, nil_upd, ?_⟩; conv => whnf
      skip; exact Recast.refl _

theorem c_told (f : FuncId) (a b c : Int) (hc : CallOK Tryz.prog f [.int a, .int b] [] (.int c) [] []) :
    CallOK Tryz.prog 118 [.clo f [] [], .int a, .int b] [] (.int c) [] [] := by
  refine callV (Z := []) tabOK mixedOK Tryz.func118 rfl (by kernel_rfl) rfl rfl (by kernel_rfl) rfl ?_
  intro W0 w0 ρ0 hE
  conv => whnf
  refine ⟨[], _, [], [], (hc), nil_fk, nil_new, nil_upd, ?_⟩; conv => whnf
  skip; exact Recast.refl _

theorem c_iAdd (ok : NatOK M) (a b : Int) (ha : sz a.natAbs < M) (hb : sz b.natAbs < M) :
    CallOK Tryz.prog 37 [.int a, .int b] [] (.int (a + b)) [] [] := by
  refine callV (Z := []) tabOK mixedOK Tryz.func37 rfl (by kernel_rfl) rfl rfl (by kernel_rfl) rfl ?_
  intro W0 w0 ρ0 hE
  conv => whnf
  refine ⟨[], _, [], [], (c_told _ a b _ (c_plus ok a b ha hb)), nil_fk, nil_new, nil_upd, ?_⟩; conv => whnf
  skip; exact Recast.refl _

theorem c_iSub (ok : NatOK M) (a b : Int) (ha : sz a.natAbs < M) (hb : sz b.natAbs < M) :
    CallOK Tryz.prog 179 [.int a, .int b] [] (.int (a - b)) [] [] := by
  rw [Int.sub_eq_add_neg]
  refine callV (Z := []) tabOK mixedOK Tryz.func179 rfl (by kernel_rfl) rfl rfl (by kernel_rfl) rfl ?_
  intro W0 w0 ρ0 hE
  conv => whnf
  refine ⟨[], _, [], [], (c_Neg b), nil_fk, nil_new, nil_upd, ?_⟩; conv => whnf
  refine ⟨[], _, [], [], (c_told _ a (-b) _ (c_plus ok a (-b) ha (by rwa [Int.natAbs_neg]))), nil_fk, nil_new, nil_upd, ?_⟩; conv => whnf
  (repeat (first | (refine step_i (by kernel_rfl) ?_; conv => whnf))); exact Recast.refl _

theorem signed_mul (a b : Int) : signed (decide (a < 0) != decide (b < 0)) (a.natAbs * b.natAbs) = a * b := by
  unfold signed
  rw [Int.natCast_mul]
  by_cases h1 : a < 0 <;> by_cases h2 : b < 0
  · rw [show (a.natAbs : Int) = -a from by omega, show (b.natAbs : Int) = -b from by omega]; simp [h1, h2, Int.neg_mul_neg]
  · rw [show (a.natAbs : Int) = -a from by omega, show (b.natAbs : Int) = b from by omega]; simp [h1, h2, Int.neg_mul]
  · rw [show (a.natAbs : Int) = a from by omega, show (b.natAbs : Int) = -b from by omega]; simp [h1, h2, Int.mul_neg]
  · rw [show (a.natAbs : Int) = a from by omega, show (b.natAbs : Int) = b from by omega]; simp [h1, h2]

theorem c_times (ok : NatOK M) (a b : Int) (h : sz a.natAbs + sz b.natAbs ≤ M) :
    CallOK Tryz.prog 121 [.int a, .int b] [] (.int (a * b)) [] [] := by
  refine callV (Z := []) tabOK mixedOK Tryz.func121 rfl (by kernel_rfl) rfl rfl (by kernel_rfl) rfl ?_
  intro W0 w0 ρ0 hE
  conv => whnf
  refine ⟨[], _, [], [], (ok.mul _ _ h), nil_fk, nil_new, nil_upd, ?_⟩; conv => whnf
  have := c_From (decide (a < 0) != decide (b < 0)) (a.natAbs * b.natAbs)
  rw [signed_mul] at this
  refine ⟨[], _, [], [], (this), nil_fk, nil_new, nil_upd, ?_⟩; conv => whnf
  (repeat (first | (refine step_i (by kernel_rfl) ?_; conv => whnf))); exact Recast.refl _

theorem c_iMul (ok : NatOK M) (a b : Int) (h : sz a.natAbs + sz b.natAbs ≤ M) :
    CallOK Tryz.prog 40 [.int a, .int b] [] (.int (a * b)) [] [] := by
  refine callV (Z := []) tabOK mixedOK Tryz.func40 rfl (by kernel_rfl) rfl rfl (by kernel_rfl) rfl ?_
  intro W0 w0 ρ0 hE
  conv => whnf
  refine ⟨[], _, [], [], (c_told _ a b _ (c_times ok a b h)), nil_fk, nil_new, nil_upd, ?_⟩; conv => whnf
  skip; exact Recast.refl _

theorem div_uniq {a b q r : Int} (h1 : r + b * q = a) (h2 : 0 ≤ r) (h3 : r < b.natAbs) : a / b = q ∧ a % b = r := by
  have hb : b ≠ 0 := by omega
  rcases Int.lt_or_gt_of_ne hb with h | h
  · have := (Int.ediv_emod_unique (a := a) (b := -b) (r := r) (q := -q) (by omega)).2 ⟨by rw [Int.neg_mul_neg]; exact h1, h2, by omega⟩
    rw [Int.ediv_neg, Int.emod_neg] at this
    exact ⟨by omega, this.2⟩
  · exact (Int.ediv_emod_unique (a := a) (b := b) (r := r) (q := q) h).2 ⟨h1, h2, by omega⟩

theorem divLaw (a b : Int) (Q M : Nat) (hA : (b.natAbs : Int) * (Q : Int) + (M : Int) = (a.natAbs : Int)) (hlt : M < b.natAbs) :
    (signed (decide (a < 0)) M < 0 → a / b = signed (decide (a < 0) != decide (b < 0)) Q - b.sign ∧ a % b = signed (decide (a < 0)) M + b.natAbs) ∧
    (¬ signed (decide (a < 0)) M < 0 → a / b = signed (decide (a < 0) != decide (b < 0)) Q ∧ a % b = signed (decide (a < 0)) M) := by
  have hs : b * b.sign = b.natAbs := by
    rcases Int.lt_trichotomy b 0 with h | h | h
    · rw [Int.sign_eq_neg_one_of_neg h]; omega
    · omega
    · rw [Int.sign_eq_one_of_pos h]; omega
  have hq : b * signed (decide (a < 0) != decide (b < 0)) Q = if a < 0 then -((b.natAbs : Int) * Q) else (b.natAbs : Int) * Q := by
    unfold signed
    by_cases ha : a < 0 <;> by_cases hb : b < 0
    · rw [show (b.natAbs : Int) = -b from by omega]; simp [ha, hb, Int.neg_mul]
    · rw [show (b.natAbs : Int) = b from by omega]; simp [ha, hb, Int.mul_neg]
    · rw [show (b.natAbs : Int) = -b from by omega]; simp [ha, hb, Int.mul_neg, Int.neg_mul]
    · rw [show (b.natAbs : Int) = b from by omega]; simp [ha, hb]
  refine ⟨fun hr => div_uniq ?_ ?_ ?_, fun hr => div_uniq ?_ ?_ ?_⟩
  · rw [Int.mul_sub, hs, hq]
    by_cases ha : a < 0 <;> simp [signed, ha] at hr ⊢ <;> omega
  · by_cases ha : a < 0 <;> simp [signed, ha] at hr ⊢ <;> omega
  · by_cases ha : a < 0 <;> simp [signed, ha] at hr ⊢ <;> omega
  · rw [hq]
    by_cases ha : a < 0 <;> simp [signed, ha] at hr ⊢ <;> omega
  · omega
  · by_cases ha : a < 0 <;> simp [signed, ha] at hr ⊢ <;> omega

theorem c_iDivZ (ok : NatOK M) (a : Int) : CallOK Tryz.prog 191 [.int a, .int 0] [] (.tup [.int 0, .int 0, .val (.bool false)]) [] [] := by
  refine callV (Z := []) tabOK mixedOK Tryz.func191 rfl (by kernel_rfl) rfl rfl (by kernel_rfl) rfl ?_
  intro W0 w0 ρ0 hE
  conv => whnf
  refine ⟨[], _, [], [], (ok.divZ a.natAbs), nil_fk, nil_new, nil_upd, ?_⟩; conv => whnf
  (repeat (first | (refine step_w1 rfl rfl ?_; conv => whnf))); exact Recast.refl _

theorem sz_signbit (z : Int) : sz z.sign.natAbs ≤ 1 := by
  rw [sz_le]
  have : z.sign.natAbs ≤ 1 := by
    rcases Int.lt_trichotomy z 0 with h | h | h
    · rw [Int.sign_eq_neg_one_of_neg h]; decide
    · subst h; decide
    · rw [Int.sign_eq_one_of_pos h]; decide
  omega

theorem c_iDiv (ok : NatOK M) (a b : Int) (ha : sz a.natAbs < M) (hb : sz b.natAbs < M) (h0 : b ≠ 0) :
    CallOK Tryz.prog 191 [.int a, .int b] [] (.tup [.int (a / b), .int (a % b), .val (.bool true)]) [] [] := by
  have hM := ok.big
  refine callV (Z := []) tabOK mixedOK Tryz.func191 rfl (by kernel_rfl) rfl rfl (by kernel_rfl) rfl ?_
  intro W0 w0 ρ0 hE
  conv => whnf
  refine ⟨[], _, [], [], (ok.div a.natAbs b.natAbs (by omega) (by omega) (by omega)), nil_fk, nil_new, nil_upd, ?_⟩; conv => whnf
  (repeat (first | (refine step_w2 rfl rfl ?_; conv => whnf)))
  refine ⟨[], _, [], [], (c_From _ _), nil_fk, nil_new, nil_upd, ?_⟩; conv => whnf
  refine ⟨[], _, [], [], (c_From _ _), nil_fk, nil_new, nil_upd, ?_⟩; conv => whnf
  (repeat (first | (refine step_i (by kernel_rfl) ?_; conv => whnf)))
  have hA : (b.natAbs : Int) * ((a.natAbs / b.natAbs : Nat) : Int) + ((a.natAbs % b.natAbs : Nat) : Int) = (a.natAbs : Int) := by
    rw [← Int.natCast_mul, ← Int.natCast_add, Nat.div_add_mod]
  have hlt : a.natAbs % b.natAbs < b.natAbs := Nat.mod_lt _ (by omega)
  have hdl : sz (a.natAbs / b.natAbs) ≤ sz a.natAbs := sz_div _ _
  have hml : sz (a.natAbs % b.natAbs) ≤ sz a.natAbs := sz_mod _ _
  obtain ⟨u1, u2⟩ := divLaw a b (a.natAbs / b.natAbs) (a.natAbs % b.natAbs) hA hlt
  have hbq : (signed (decide (a < 0) != decide (b < 0)) (a.natAbs / b.natAbs)).natAbs = a.natAbs / b.natAbs := signed_abs _ _
  have hbr : (signed (decide (a < 0)) (a.natAbs % b.natAbs)).natAbs = a.natAbs % b.natAbs := signed_abs _ _
  generalize a.natAbs / b.natAbs = Q at *
  generalize a.natAbs % b.natAbs = M at *
  generalize signed (decide (a < 0) != decide (b < 0)) Q = q at *
  generalize signed (decide (a < 0)) M = r at *
  subst hbq hbr
  refine ⟨fun h => ?_, fun h => ?_⟩
  · have hr := of_decide_eq_true h
    obtain ⟨v1, v2⟩ := u1 hr
    rw [v1, v2]
    conv => whnf
    refine ⟨[], _, [], [], (c_From false b.natAbs), nil_fk, nil_new, nil_upd, ?_⟩; conv => whnf
    rw [show signed false b.natAbs = (b.natAbs : Int) from rfl]
    refine ⟨[], _, [], [], (c_iAdd ok r b.natAbs (by omega) (by rw [Int.natAbs_natCast]; exact hb)), nil_fk, nil_new, nil_upd, ?_⟩; conv => whnf
    (repeat (first | (refine step_i (by kernel_rfl) ?_; conv => whnf)))
    refine ⟨[], _, [], [], (c_Sign b), nil_fk, nil_new, nil_upd, ?_⟩; conv => whnf
    have hsb : -1 ≤ b.sign ∧ b.sign ≤ 1 := by
      rcases Int.lt_trichotomy b 0 with h | h | h
      · rw [Int.sign_eq_neg_one_of_neg h]; omega
      · omega
      · rw [Int.sign_eq_one_of_pos h]; omega
    have := sz_signbit b
    refine ⟨[], _, [], [], (c_iOf b.sign (by omega) (by omega)), nil_fk, nil_new, nil_upd, ?_⟩; conv => whnf
    refine ⟨[], _, [], [], (c_iSub ok q b.sign (by omega) (by omega)), nil_fk, nil_new, nil_upd, ?_⟩; conv => whnf
    (repeat (first | (refine step_i (by kernel_rfl) ?_; conv => whnf))); exact Recast.refl _
  · obtain ⟨v1, v2⟩ := u2 (of_decide_eq_false h)
    rw [v1, v2]
    conv => whnf
    (repeat (first | (refine step_i (by kernel_rfl) ?_; conv => whnf))); exact Recast.refl _
end Go.Proofs.YtkpfineikahgfaaGreatDoor

namespace Go.Proofs.YtkpfineikahgfaaGreatDoor
open Go.Sx
set_option linter.unusedSimpArgs false
set_option linter.unusedVariables false
set_option maxRecDepth 100000
set_option maxHeartbeats 2000000

/-- The greater of the sizes of numerator and denominator. -/
def fsz (q : Rat) : Nat := max (sz q.num.natAbs) (sz q.den)

theorem fsz_num (q : Rat) : sz q.num.natAbs ≤ fsz q := Nat.le_max_left _ _
theorem fsz_den (q : Rat) : sz q.den ≤ fsz q := Nat.le_max_right _ _
theorem fsz_le {q : Rat} {k : Nat} (h1 : sz q.num.natAbs ≤ k) (h2 : sz q.den ≤ k) : fsz q ≤ k := Nat.max_le.2 ⟨h1, h2⟩

theorem num_mkRat {n : Int} {d : Nat} (hd : d ≠ 0) : (mkRat n d).num = n / (Nat.gcd n.natAbs d : Nat) := by
  rw [← Rat.normalize_eq_mkRat hd, Rat.num_normalize]
theorem den_mkRat {n : Int} {d : Nat} (hd : d ≠ 0) : (mkRat n d).den = d / Nat.gcd n.natAbs d := by
  rw [← Rat.normalize_eq_mkRat hd, Rat.den_normalize]

theorem fsz_mkRat {n : Int} {d : Nat} {k : Nat} (hd : d ≠ 0) (h1 : sz n.natAbs ≤ k) (h2 : sz d ≤ k) : fsz (mkRat n d) ≤ k := by
  refine fsz_le ?_ ?_
  · rw [num_mkRat hd]
    refine Nat.le_trans (sz_mono ?_) h1
    rw [Int.natAbs_ediv_of_dvd (Int.ofNat_dvd_left.2 (Nat.gcd_dvd_left _ _)), Int.natAbs_natCast]
    exact Nat.div_le_self _ _
  · rw [den_mkRat hd]
    exact Nat.le_trans (sz_div _ _) h2

theorem fsz_add {a b : Rat} : fsz (a + b) ≤ fsz a + fsz b + 1 := by
  have ha := fsz_num a; have ha' := fsz_den a; have hb := fsz_num b; have hb' := fsz_den b
  rw [Rat.add_def']
  refine fsz_mkRat (Nat.mul_ne_zero a.den_nz b.den_nz) ?_ ?_
  · have h1 := sz_mul a.num.natAbs b.den
    have h2 := sz_mul b.num.natAbs a.den
    refine Nat.le_trans (sz_mono (Int.natAbs_add_le _ _)) (sz_add ?_ ?_)
    · rw [Int.natAbs_mul, Int.natAbs_natCast]; omega
    · rw [Int.natAbs_mul, Int.natAbs_natCast]; omega
  · have := sz_mul a.den b.den
    omega

theorem fsz_mul {a b : Rat} : fsz (a * b) ≤ fsz a + fsz b := by
  have ha := fsz_num a; have ha' := fsz_den a; have hb := fsz_num b; have hb' := fsz_den b
  rw [Rat.mul_def']
  refine fsz_mkRat (Nat.mul_ne_zero a.den_nz b.den_nz) ?_ ?_
  · have h1 := sz_mul a.num.natAbs b.num.natAbs
    rw [Int.natAbs_mul]; omega
  · have := sz_mul a.den b.den
    omega

theorem fsz_neg (a : Rat) : fsz (-a) = fsz a := by simp [fsz]
theorem den_pred (q : Rat) : q.den - 1 + 1 = q.den := by have := q.den_pos; omega
theorem sz_one_le (n : Nat) (h : n ≠ 0) : 1 ≤ sz n := sz_pos h

variable {M : Nat}

theorem c_den (ok : NatOK M) (q : Rat) (h : sz q.den ≤ M) : CallOK Tryz.prog 164 [.frac q] [] (.nat q.den) [] [] := by
  refine callV (Z := []) tabOK mixedOK Tryz.func164 rfl (by kernel_rfl) rfl rfl (by kernel_rfl) rfl ?_
  intro W0 w0 ρ0 hE
  conv => whnf
  refine ⟨[], _, [], [], (c_nOf 1 (by decide)), nil_fk, nil_new, nil_upd, ?_⟩; conv => whnf
  have := ok.add (q.den - 1) 1 (by rw [den_pred]; exact h)
  rw [den_pred] at this
  refine ⟨[], _, [], [], (this), nil_fk, nil_new, nil_upd, ?_⟩; conv => whnf
  (repeat (first | (refine step_i (by kernel_rfl) ?_; conv => whnf))); exact Recast.refl _

theorem recast_frac {x : Int} {y : Nat} {q : Rat} (hx : x = q.num) (hy : y = q.den - 1) : Recast (.agg [.int x, .nat y]) (.frac q) := by
  subst hx hy
  exact recast_flat (l := fracCells q) rfl rfl (fun _ h => by cases h)

theorem c_lowest (ok : NatOK M) (n : Int) (d : Nat) (h1 : sz n.natAbs ≤ M) (h2 : sz d ≤ M) (hd : d ≠ 0) :
    CallOK Tryz.prog 162 [.int n, .nat d] [] (.frac (mkRat n d)) [] [] := by
  have hb := ok.big
  have hg : Nat.gcd n.natAbs d ≠ 0 := fun h => hd (Nat.gcd_eq_zero_iff.1 h).2
  have hgs : sz (Nat.gcd n.natAbs d) ≤ M := Nat.le_trans (sz_gcd_r hd) h2
  have hq : d / Nat.gcd n.natAbs d ≠ 0 := Nat.div_ne_zero_iff.2 ⟨hg, Nat.le_of_dvd (by omega) (Nat.gcd_dvd_right _ _)⟩
  refine callV (Z := []) tabOK mixedOK Tryz.func162 rfl (by kernel_rfl) rfl rfl (by kernel_rfl) rfl ?_
  intro W0 w0 ρ0 hE
  conv => whnf
  refine ⟨[], _, [], [], (c_Abs n), nil_fk, nil_new, nil_upd, ?_⟩; conv => whnf
  refine ⟨[], _, [], [], (ok.gcd n.natAbs d h1 h2), nil_fk, nil_new, nil_upd, ?_⟩; conv => whnf
  (repeat (first | (refine step_i (by kernel_rfl) ?_; conv => whnf)))
  refine ⟨[], _, [], [], (c_Abs n), nil_fk, nil_new, nil_upd, ?_⟩; conv => whnf
  refine ⟨[], _, [], [], (ok.div n.natAbs _ h1 hgs hg), nil_fk, nil_new, nil_upd, ?_⟩; conv => whnf
  (repeat (first | (refine step_i (by kernel_rfl) ?_; conv => whnf)))
  refine ⟨[], _, [], [], (ok.div d _ h2 hgs hg), nil_fk, nil_new, nil_upd, ?_⟩; conv => whnf
  skip
  refine ⟨[], _, [], [], (c_nOf 1 (by decide)), nil_fk, nil_new, nil_upd, ?_⟩; conv => whnf
  refine ⟨[], _, [], [], (ok.sub _ 1 (Nat.le_trans (sz_div _ _) h2) (Nat.pos_of_ne_zero hq)), nil_fk, nil_new, nil_upd, ?_⟩; conv => whnf
  (repeat (first | (refine step_i (by kernel_rfl) ?_; conv => whnf)))
  refine ⟨[], _, [], [], (c_Sign n), nil_fk, nil_new, nil_upd, ?_⟩; conv => whnf
  have e : signed (decide (n.sign < 0)) (n.natAbs / Nat.gcd n.natAbs d) = (mkRat n d).num := by
    rw [num_mkRat hd]
    have hdv : Nat.gcd n.natAbs d ∣ n.natAbs := Nat.gcd_dvd_left _ _
    unfold signed
    by_cases hn : n < 0
    · rw [Int.sign_eq_neg_one_of_neg hn]
      simp only [show decide ((-1 : Int) < 0) = true from rfl, if_true]
      have : n = -(n.natAbs : Int) := by omega
      rw [Int.natCast_ediv, ← Int.neg_ediv_of_dvd (Int.natCast_dvd_natCast.2 hdv), ← this]
    · have : ¬ n.sign < 0 := fun h => hn (Int.sign_neg_iff.1 h)
      rw [decide_eq_false this]
      simp only [Bool.false_eq_true, if_false]
      have : n = (n.natAbs : Int) := by omega
      rw [Int.natCast_ediv, ← this]
  have hf := c_From (decide (n.sign < 0)) (n.natAbs / Nat.gcd n.natAbs d)
  rw [e] at hf
  refine ⟨[], _, [], [], (hf), nil_fk, nil_new, nil_upd, ?_⟩; conv => whnf
  (repeat (first | (refine step_i (by kernel_rfl) ?_; conv => whnf)))
  exact recast_frac rfl (by rw [den_mkRat hd])

theorem c_whole (n : Int) : CallOK Tryz.prog 85 [.int n] [] (.frac n) [] [] := by
  refine callV (Z := []) tabOK mixedOK Tryz.func85 rfl (by kernel_rfl) rfl rfl (by kernel_rfl) rfl ?_
  intro W0 w0 ρ0 hE
  conv => whnf
  skip
  exact recast_frac rfl rfl
theorem c_fInt (n : Int) (h0 : -9223372036854775808 ≤ n) (h1 : n < 9223372036854775808) : CallOK Tryz.prog 16 [.val (.int .i64 n)] [] (.frac n) [] [] := by
  refine callV (Z := []) tabOK mixedOK Tryz.func16 rfl (by kernel_rfl) rfl rfl (by kernel_rfl) rfl ?_
  intro W0 w0 ρ0 hE
  conv => whnf
  refine ⟨[], _, [], [], (c_iOf n h0 h1), nil_fk, nil_new, nil_upd, ?_⟩; conv => whnf
  refine ⟨[], _, [], [], (c_whole n), nil_fk, nil_new, nil_upd, ?_⟩; conv => whnf
  skip; exact Recast.refl _
theorem c_Num (q : Rat) : CallOK Tryz.prog 64 [.frac q] [] (.int q.num) [] [] := by
  refine callV (Z := []) tabOK mixedOK Tryz.func64 rfl (by kernel_rfl) rfl rfl (by kernel_rfl) rfl ?_
  intro W0 w0 ρ0 hE
  conv => whnf
  skip
  exact recast_flat (l := intCells q.num) rfl rfl (fun _ h => by cases h)
theorem c_Den (ok : NatOK M) (q : Rat) (h : sz q.den ≤ M) : CallOK Tryz.prog 208 [.frac q] [] (.nat q.den) [] [] := by
  refine callV (Z := []) tabOK mixedOK Tryz.func208 rfl (by kernel_rfl) rfl rfl (by kernel_rfl) rfl ?_
  intro W0 w0 ρ0 hE
  conv => whnf
  refine ⟨[], _, [], [], (c_den ok q h), nil_fk, nil_new, nil_upd, ?_⟩; conv => whnf
  skip; exact Recast.refl _
theorem c_Whole (q : Rat) : CallOK Tryz.prog 63 [.frac q] [] (.val (.bool (decide (q.den = 1)))) [] [] := by
  refine callV (Z := []) tabOK mixedOK Tryz.func63 rfl (by kernel_rfl) rfl rfl (by kernel_rfl) rfl ?_
  intro W0 w0 ρ0 hE
  conv => whnf
  skip
  refine ⟨_, op_eqAgg tabOK goodOK rfl (ev_ok rfl) (ev_ok rfl) rfl rfl rfl rfl (eqTy_nat (q.den - 1) 0) guard_nat, ?_⟩
  have := q.den_pos
  rw [show decide (q.den - 1 = 0) = decide (q.den = 1) from decide_eq_decide.2 (by omega)]
  conv => whnf
  skip; exact Recast.refl _
theorem c_fSign (q : Rat) : CallOK Tryz.prog 150 [.frac q] [] (.val (.int .i64 q.num.sign)) [] [] := by
  refine callV (Z := []) tabOK mixedOK Tryz.func150 rfl (by kernel_rfl) rfl rfl (by kernel_rfl) rfl ?_
  intro W0 w0 ρ0 hE
  conv => whnf
  skip
  refine ⟨[], _, [], [], (c_Sign q.num), nil_fk, nil_new, nil_upd, ?_⟩; conv => whnf
  skip; exact Recast.refl _
theorem c_signed (ok : NatOK M) (q : Rat) (h : sz q.den ≤ M) : CallOK Tryz.prog 216 [.frac q] [] (.int q.den) [] [] := by
  refine callV (Z := []) tabOK mixedOK Tryz.func216 rfl (by kernel_rfl) rfl rfl (by kernel_rfl) rfl ?_
  intro W0 w0 ρ0 hE
  conv => whnf
  refine ⟨[], _, [], [], (c_den ok q h), nil_fk, nil_new, nil_upd, ?_⟩; conv => whnf
  refine ⟨[], _, [], [], (c_From false q.den), nil_fk, nil_new, nil_upd, ?_⟩; conv => whnf
  rw [show signed false q.den = (q.den : Int) from rfl]
  skip; exact Recast.refl _

theorem int_of_den {q : Rat} (h : q.den = 1) : q = (q.num : Rat) := Rat.ext rfl h

theorem c_fMul (ok : NatOK M) (a b : Rat) (h : fsz a + fsz b ≤ M) : CallOK Tryz.prog 62 [.frac a, .frac b] [] (.frac (a * b)) [] [] := by
  have ha := fsz_num a; have ha' := fsz_den a; have hb := fsz_num b; have hb' := fsz_den b
  have gen : CallOK Tryz.prog 62 [.frac a, .frac b] [] (.frac (mkRat (a.num * b.num) (a.den * b.den))) [] [] → CallOK Tryz.prog 62 [.frac a, .frac b] [] (.frac (a * b)) [] [] := by rw [Rat.mul_def']; exact id
  have hw : a.den = 1 → b.den = 1 → ((a.num * b.num : Int) : Rat) = a * b := by
    intro h1 h2
    rw [int_of_den h1, int_of_den h2, Rat.intCast_mul]; rfl
  have hlow := c_lowest ok (a.num * b.num) (a.den * b.den) (by rw [Int.natAbs_mul]; have := sz_mul a.num.natAbs b.num.natAbs; omega) (by have := sz_mul a.den b.den; omega) (Nat.mul_ne_zero a.den_nz b.den_nz)
  rw [← Rat.mul_def'] at hlow
  have wa := c_Whole a
  have wb := c_Whole b
  have k1 := c_iMul ok a.num b.num (by omega)
  have k2 := c_den ok a (by omega)
  have k3 := c_den ok b (by omega)
  have k4 := ok.mul a.den b.den (by omega)
  have k5 := c_whole (a.num * b.num)
  refine callV (Z := []) tabOK mixedOK Tryz.func62 rfl (by kernel_rfl) rfl rfl (by kernel_rfl) rfl ?_
  intro W0 w0 ρ0 hE
  conv => whnf
  by_cases h1 : a.den = 1
  · rw [decide_eq_true h1] at wa
    by_cases h2 : b.den = 1
    · rw [decide_eq_true h2] at wb
      rw [hw h1 h2] at k5
      (repeat (first | (refine step_w1 rfl rfl ?_; conv => whnf) | (refine g_c (by assumption) ?_; conv => whnf) | (refine g_o (op_pickT rfl (ev_ok rfl) (ev_ok rfl)) ?_; conv => whnf))); exact Recast.refl _
    · rw [decide_eq_false h2] at wb
      (repeat ((first | refine step_w1 rfl rfl ?_ | refine step_w2 rfl rfl ?_ | refine step_i (by kernel_rfl) ?_ | refine g_c (by assumption) ?_ | refine g_o (op_pickT rfl (ev_ok rfl) (ev_ok rfl)) ?_); conv => whnf)); exact Recast.refl _
  · rw [decide_eq_false h1] at wa
    (repeat ((first | refine step_w2 rfl rfl ?_ | refine step_i (by kernel_rfl) ?_ | refine g_c (by assumption) ?_ | refine g_o (op_pickF rfl (ev_ok rfl) (ev_ok rfl)) ?_); conv => whnf)); exact Recast.refl _

theorem fsz_inv (b : Rat) : fsz b⁻¹ ≤ fsz b := by
  have h1 := fsz_num b
  have h2 := fsz_den b
  by_cases h : b.num = 0
  · rw [Rat.num_eq_zero] at h
    subst h
    rw [Rat.inv_zero]; exact Nat.le_refl _
  · refine fsz_le ?_ ?_
    · rw [Rat.num_inv, Int.natAbs_mul, Int.natAbs_natCast]
      refine Nat.le_trans (sz_mono ?_) h2
      have : b.num.sign.natAbs = 1 := by rw [Int.natAbs_sign]; simp [h]
      rw [this, Nat.one_mul]; exact Nat.le_refl _
    · rw [Rat.den_inv, if_neg h]; exact h1

theorem mkRat_inv {b : Rat} (h : b.num ≠ 0) : mkRat (signed (decide (b.num.sign < 0)) b.den) b.num.natAbs = b⁻¹ := by
  have hd : b.num.natAbs ≠ 0 := by omega
  have hg : Nat.gcd (signed (decide (b.num.sign < 0)) b.den).natAbs b.num.natAbs = 1 := by rw [signed_abs]; exact b.reduced.symm
  refine Rat.ext ?_ ?_
  · rw [num_mkRat hd, hg, Rat.num_inv]
    rcases Int.lt_or_gt_of_ne h with h' | h'
    · rw [Int.sign_eq_neg_one_of_neg h']; simp [signed]
    · rw [Int.sign_eq_one_of_pos h']; simp [signed]
  · rw [den_mkRat hd, hg, Rat.den_inv, if_neg h]; simp

theorem c_fDiv (ok : NatOK M) (a b : Rat) (hb : b ≠ 0) (h : fsz a + fsz b ≤ M) : CallOK Tryz.prog 75 [.frac a, .frac b] [] (.tup [.frac (a / b), .val (.int .i64 0)]) [] [] := by
  have hn : b.num ≠ 0 := fun h => hb (Rat.num_eq_zero.1 h)
  have h1 := fsz_num b
  have h2 := fsz_den b
  have k1 := c_fSign b
  have k2 := c_den ok b (by omega)
  have k3 := c_From (decide (b.num.sign < 0)) b.den
  have k4 := c_Abs b.num
  have k5 := c_lowest ok (signed (decide (b.num.sign < 0)) b.den) b.num.natAbs (by rw [signed_abs]; omega) (by omega) (by omega)
  rw [mkRat_inv hn] at k5
  have k6 := c_fMul ok a b⁻¹ (by have := fsz_inv b; omega)
  rw [← Rat.div_def] at k6
  have hs : (b.num.sign == 0) = false := by simpa using hn
  refine callV (Z := []) tabOK mixedOK Tryz.func75 rfl (by kernel_rfl) rfl rfl (by kernel_rfl) rfl ?_
  intro W0 w0 ρ0 hE
  conv => whnf
  refine ⟨[], _, [], [], (k1), nil_fk, nil_new, nil_upd, ?_⟩; conv => whnf
  rw [hs]
  (repeat (first | (refine step_w2 rfl rfl ?_; conv => whnf) | (refine step_i (by kernel_rfl) ?_; conv => whnf) | (refine g_c (by assumption) ?_; conv => whnf))); exact Recast.refl _
theorem sz_i64 {n : Int} (h0 : -9223372036854775808 ≤ n) (h1 : n < 9223372036854775808) : sz n.natAbs ≤ 64 := sz_le.2 (by omega)
theorem fsz_int {n : Int} {k : Nat} (h : sz n.natAbs ≤ k) (hk : 1 ≤ k) : fsz (n : Rat) ≤ k := fsz_le h hk
theorem c_fOf (ok : NatOK M) (n d : Int) (hM : fsz (n : Rat) + fsz (d : Rat) ≤ M) (h0 : -9223372036854775808 ≤ n) (h1 : n < 9223372036854775808) (h2 : -9223372036854775808 ≤ d) (h3 : d < 9223372036854775808) (hd : d ≠ 0) :
    CallOK Tryz.prog 91 [.val (.int .i64 n), .val (.int .i64 d)] [] (.tup [.frac ((n : Rat) / (d : Rat)), .val (.int .i64 0)]) [] [] := by
  have k1 := c_fInt n h0 h1
  have k2 := c_fInt d h2 h3
  have k3 := c_fDiv ok (n : Rat) (d : Rat) (fun h => hd (by simpa using h)) hM
  refine callV (Z := []) tabOK mixedOK Tryz.func91 rfl (by kernel_rfl) rfl rfl (by kernel_rfl) rfl ?_
  intro W0 w0 ρ0 hE
  conv => whnf
  (repeat (first | (refine g_c (by assumption) ?_; conv => whnf))); exact Recast.refl _
end Go.Proofs.YtkpfineikahgfaaGreatDoor

namespace Go.Proofs.YtkpfineikahgfaaGreatDoor
open Go.Sx
set_option linter.unusedSimpArgs false
set_option linter.unusedVariables false
set_option maxRecDepth 100000

theorem c_Add64 (x y : Nat) (hx : x < 18446744073709551616) (hy : y < 18446744073709551616) :
    CallOK Tryz.prog 245 [.val (.int .u64 x), .val (.int .u64 y), .val (.int .u64 0)] [] (.tup [.val (.int .u64 ((x + y) % 18446744073709551616 : Nat)), .val (.int .u64 ((x + y) / 18446744073709551616 : Nat))]) [] [] := by
  refine .inr fun ρ w z hz hp => ?_
  simp only [HasZ, HasC] at hz
  obtain ⟨_, _, rfl, ⟨rfl, _⟩, _, _, rfl, ⟨rfl, _⟩, _, _, rfl, ⟨rfl, _⟩, rfl⟩ := hz
  refine ⟨.tuple #[.int .u64 ((x + y) % 18446744073709551616 : Nat), .int .u64 ((x + y) / 18446744073709551616 : Nat)], ρ, w, ?_, .pure ?_⟩
  · show (callFunc 245 #[.int .u64 x, .int .u64 y, .int .u64 0]).run Tryz.prog w = _
    rw [run_callFunc_extern Tryz.func245 (by kernel_rfl) (by kernel_rfl) (by kernel_rfl) (e := add64Entry) (by kernel_rfl), run_add64 x y 0 (by omega) (by omega) (by omega) (by omega)]
    simp only [Result.andThen]
    congr 5 <;> omega
  · simp only [Has, HasZ, HasC]
    exact ⟨_, ⟨_, _, rfl, ⟨rfl, rfl⟩, _, _, rfl, ⟨rfl, rfl⟩, rfl⟩, rfl⟩

theorem s_Cmp (a b : Nat) (ha : a < 18446744073709551616) (hb : b < 18446744073709551616) :
    CallOK Tryz.prog 41 [.nat a, .nat b] [] (.val (.int .i64 ((a : Int) - b).sign)) [] [] := by
  refine callV (Z := []) tabOK mixedOK Tryz.func41 rfl (by kernel_rfl) rfl rfl (by kernel_rfl) rfl ?_
  intro W0 w0 ρ0 hE
  conv => whnf
  rw [big_eq, decide_eq_true ha]
  refine ⟨fun _ => ?_, fun h => by cases h⟩
  conv => whnf
  refine ⟨fun _ => ?_, fun h => by cases h⟩
  conv => whnf
  refine ⟨fun _ => ?_, fun h => by cases h⟩
  conv => whnf
  rw [big_eq, decide_eq_true hb]
  refine ⟨.val (.bool true), [], [], [], op_pick rfl (ev_ok rfl) (fun _ => ev_ok rfl) (fun hb => by cases hb) rfl (c2 := .any), nil_fk, nil_new, nil_upd, ?_⟩
  conv => whnf
  refine ⟨fun _ => ?_, fun h => by cases h⟩
  conv => whnf
  rw [low_small ha, low_small hb]
  refine ⟨fun h => ?_, fun h => ?_⟩
  · have hz : ((a : Int) - b).sign = -1 := Int.sign_eq_neg_one_of_neg (by have := of_decide_eq_true h; omega)
    conv => whnf
    rw [hz]
    exact Recast.refl _
  · have h1 := of_decide_eq_false h
    conv => whnf
    rw [low_small ha, low_small hb]
    refine ⟨fun h => ?_, fun h => ?_⟩
    · have hz : ((a : Int) - b).sign = 1 := Int.sign_eq_one_of_pos (by have := of_decide_eq_true h; omega)
      conv => whnf
      rw [hz]
      exact Recast.refl _
    · have hz : ((a : Int) - b).sign = 0 := by rw [Int.sign_eq_zero_iff_zero]; have := of_decide_eq_false h; omega
      conv => whnf
      rw [hz]
      exact Recast.refl _

theorem hasC_nat {x : Int} {n : Nat} {s : ByteArray} (hx : x = n) (hs : s = ByteArray.empty) (hn : n < 18446744073709551616) : ∀ ρ y, HasC ρ (.agg [.val (.int .u64 x), .val (.string s)]) y → HasC ρ (.nat n) y :=
  hasC_flat (l := natCells n) (by rw [natCells_small hn, hx, hs]; rfl) rfl (fun _ h => by cases h)

theorem recast_nat {n : Nat} (hn : n < 18446744073709551616) : Recast (.agg [.val (.int .u64 n), .val (.string .empty)]) (.nat n) :=
  recast_flat (l := natCells n) (by rw [natCells_small hn]; rfl) rfl (fun _ h => by cases h)

theorem s_Add (a b : Nat) (h : a + b < 18446744073709551616) :
    CallOK Tryz.prog 203 [.nat a, .nat b] [] (.nat (a + b)) [] [] := by
  have ha : a < 18446744073709551616 := by omega
  have hb : b < 18446744073709551616 := by omega
  refine callV (Z := []) tabOK mixedOK Tryz.func203 rfl (by kernel_rfl) rfl rfl (by kernel_rfl) rfl ?_
  intro W0 w0 ρ0 hE
  conv => whnf
  rw [big_eq, decide_eq_true ha]
  refine ⟨fun _ => ?_, fun h => by cases h⟩
  conv => whnf
  refine ⟨fun _ => ?_, fun h => by cases h⟩
  conv => whnf
  refine ⟨fun _ => ?_, fun h => by cases h⟩
  conv => whnf
  rw [big_eq, decide_eq_true hb]
  refine ⟨.val (.bool true), [], [], [], op_pick rfl (ev_ok rfl) (fun _ => ev_ok rfl) (fun hb => by cases hb) rfl (c2 := .any), nil_fk, nil_new, nil_upd, ?_⟩
  conv => whnf
  refine ⟨fun _ => ?_, fun h => by cases h⟩
  conv => whnf
  rw [low_small ha, low_small hb]
  refine ⟨[], _, [], [], c_Add64 a b ha hb, nil_fk, nil_new, nil_upd, ?_⟩
  rw [Nat.mod_eq_of_lt h, Nat.div_eq_of_lt h]
  conv => whnf
  refine ⟨fun _ => ?_, fun h => by cases h⟩
  conv => whnf
  exact recast_nat h

theorem s_Sub (a b : Nat) (ha : a < 18446744073709551616) (h : b ≤ a) :
    CallOK Tryz.prog 204 [.nat a, .nat b] [] (.tup [.nat (a - b), .val (.bool true)]) [] [] := by
  have hb : b < 18446744073709551616 := by omega
  refine callV (Z := []) tabOK mixedOK Tryz.func204 rfl (by kernel_rfl) rfl rfl (by kernel_rfl) rfl ?_
  intro W0 w0 ρ0 hE
  conv => whnf
  refine ⟨[], _, [], [], s_Cmp a b ha hb, nil_fk, nil_new, nil_upd, ?_⟩
  have hs : decide (((a : Int) - b).sign < 0) = false := by
    rw [decide_eq_false_iff_not, Int.not_lt]
    exact Int.sign_nonneg_iff.2 (by omega)
  conv => whnf
  rw [hs]
  refine ⟨fun h => (by cases h), fun _ => ?_⟩
  conv => whnf
  rw [big_eq, decide_eq_true ha]
  refine ⟨fun _ => ?_, fun h => by cases h⟩
  conv => whnf
  refine recast_tup2 (hasC_nat ?_ rfl (by omega)) rfl (fun _ _ h => h) rfl
  rw [low_small ha, low_small hb, wrap_u64 (by omega) (by omega)]
  omega

theorem s_Div (a b : Nat) (ha : a < 18446744073709551616) (hb : b < 18446744073709551616) (h0 : b ≠ 0) :
    CallOK Tryz.prog 166 [.nat a, .nat b] [] (.tup [.nat (a / b), .nat (a % b), .val (.bool true)]) [] [] := by
  refine callV (Z := []) tabOK mixedOK Tryz.func166 rfl (by kernel_rfl) rfl rfl (by kernel_rfl) rfl ?_
  intro W0 w0 ρ0 hE
  conv => whnf
  refine ⟨[], _, [], [], c_nZero b, nil_fk, nil_new, nil_upd, ?_⟩
  rw [decide_eq_false h0]
  conv => whnf
  refine ⟨fun h => (by cases h), fun _ => ?_⟩
  conv => whnf
  refine ⟨[], _, [], [], s_Cmp a b ha hb, nil_fk, nil_new, nil_upd, ?_⟩
  conv => whnf
  refine ⟨fun h => ?_, fun h => ?_⟩
  · have hlt : a < b := by
      have h := of_decide_eq_true h
      have := Int.sign_neg_iff.1 h
      omega
    conv => whnf
    refine ⟨by kernel_rfl, ?_⟩
    conv => whnf
    rw [Nat.div_eq_of_lt hlt, Nat.mod_eq_of_lt hlt]
    exact Recast.refl _
  · have hle : b ≤ a := by
      have h := of_decide_eq_false h
      have := Int.sign_nonneg_iff.1 (Int.not_lt.1 h)
      omega
    conv => whnf
    rw [big_eq, decide_eq_true ha]
    refine ⟨fun _ => ?_, fun h => by cases h⟩
    conv => whnf
    rw [low_small hb]
    refine ⟨by omega, ?_⟩
    conv => whnf
    refine ⟨by rw [low_small hb]; omega, ?_⟩
    conv => whnf
    refine ⟨by kernel_rfl, ?_⟩
    conv => whnf
    have hd : a / b ≤ a := Nat.div_le_self a b
    have hm : a % b ≤ a := Nat.mod_le a b
    refine recast_tup3 (hasC_nat ?_ rfl (by omega)) rfl (hasC_nat ?_ rfl (by omega)) rfl (fun _ _ h => h) rfl
    · rw [low_small ha, show (a : Int).tdiv (b : Int) = ((a / b : Nat) : Int) from rfl, wrap_u64 (Int.natCast_nonneg _) (by exact Int.ofNat_lt.2 (Nat.lt_of_le_of_lt hd ha))]
    · rw [low_small ha, low_small hb]; rfl

theorem c_DivZ (a : Nat) : CallOK Tryz.prog 166 [.nat a, .nat 0] [] (.tup [.nat 0, .nat 0, .val (.bool false)]) [] [] := by
  refine callV (Z := []) tabOK mixedOK Tryz.func166 rfl (by kernel_rfl) rfl rfl (by kernel_rfl) rfl ?_
  intro W0 w0 ρ0 hE
  conv => whnf
  refine ⟨[], _, [], [], c_nZero 0, nil_fk, nil_new, nil_upd, ?_⟩
  conv => whnf
  refine ⟨fun _ => ?_, fun h => by cases h⟩
  conv => whnf
  exact Recast.refl _

end Go.Proofs.YtkpfineikahgfaaGreatDoor

namespace Go.Proofs.YtkpfineikahgfaaGreatDoor
open Go.Sx
set_option linter.unusedSimpArgs false
set_option linter.unusedVariables false
set_option maxRecDepth 100000
set_option maxHeartbeats 2000000

theorem c_cut (xs : List Int) (n : Nat) (hn : n ≤ xs.length) (hl : xs.length < 4611686018427387904) (K : Nat) (wr : Bool) :
    CallOK Tryz.prog 206 [.slc K 1 0 n] [(K, ⟨95, wr, .ints .u32 xs⟩)] (.slc K 1 0 (cutN xs n)) [] [] := by
  refine CallOK.anyWr ?_
  refine callK (Z := []) tabOK mixedOK Tryz.func206 rfl (by kernel_rfl) (args := [.slc 0 1 0 n]) (fk := [(0, ⟨95, false, .ints .u32 xs⟩)]) (c := .slc 0 1 0 (cutN xs n)) (new := []) (upd := []) ?_ rfl (fun _ => K) ?_ ?_
  · exact ⟨rfl, rfl, rfl, rfl, rfl, (fun _ _ h => by cases h), (fun k b h hw => by simp at h; rw [h.2] at hw; cases hw), rfl, rfl, rfl, rfl⟩
  · exact ⟨(fun q q' b b' h h' hne => by simp at h h'; omega), (fun _ _ h => by simp [keysOf] at h), (fun _ _ h => by simp [keysOf] at h)⟩
  intro W0 w0 ρ0 hE
  conv => whnf
  refine SW_loopN hE (fun k => k) [0] [0] (fun m fr hp => m ≤ n ∧ cutN xs m = cutN xs n ∧ fr = [(0, .slc 0 1 0 m)] ∧ hp = [(0, ⟨95, false, .ints .u32 xs⟩)]) n ?_ ?_ ?_
  · kernel_rfl
  · exact ⟨by omega, rfl, rfl, rfl⟩
  rintro m _ _ ⟨hm, hc, rfl, rfl⟩
  conv => whnf
  refine ⟨fun h => ?_, fun h => ?_⟩
  · have h0 : 0 < m := by have := of_decide_eq_true h; omega
    obtain ⟨m, rfl⟩ : ∃ k, m = k + 1 := ⟨m - 1, by omega⟩
    have hd : decide (((m + 1 : Nat) : Int) > 0) = true := decide_eq_true (by omega)
    have hw : IntKind.i64.wrap (((m + 1 : Nat) : Int) - 1) = (m : Int) := by rw [wrap_i64 (by omega) (by omega)]; omega
    rw [hd]
    conv => whnf
    refine ⟨fun _ => ?_, fun h => by cases h⟩
    conv => whnf
    refine ⟨fun _ => ?_, fun h => by cases h⟩
    conv => whnf
    refine ⟨fun _ => ?_, fun h => by cases h⟩
    conv => whnf
    refine ⟨fun _ => ?_, fun h => by cases h⟩
    conv => whnf
    rw [hw]
    refine ⟨⟨by omega, by omega⟩, ?_⟩
    conv => whnf
    refine ⟨fun _ => ?_, fun h => by cases h⟩
    conv => whnf
    refine ⟨by omega, ?_⟩
    conv => whnf
    rw [show 0 + (m : Int).toNat = m from by omega]
    refine ⟨fun _ => ?_, fun h => by cases h⟩
    conv => whnf
    refine ⟨.val (.bool (xs.getD m 0 == 0)), [], [], [], op_pick rfl (ev_ok rfl) (fun _ => ev_ok rfl) (fun hb => by cases hb) rfl (c2 := .any), nil_fk, nil_new, nil_upd, ?_⟩
    conv => whnf
    refine ⟨fun h => ?_, fun h => ?_⟩
    · have hx : xs.getD m 0 = 0 := by simpa using h
      conv => whnf
      rw [hw]
      refine ⟨by omega, ?_⟩
      conv => whnf
      rw [show ((m : Int) - 0).toNat = m from by omega]
      refine ⟨m, fun k => k, [0], [0], by omega, by kernel_rfl, by omega, ?_, rfl, rfl⟩
      rw [← hc, cutN, if_pos hx]
    · have hx : ¬ xs.getD m 0 = 0 := by simpa using h
      conv => whnf
      rw [← hc, cutN, if_neg hx]
      exact ⟨Recast.refl _, (fun _ _ h => by cases h), (fun _ _ h => by cases h)⟩
  · have h0 : m = 0 := by have := of_decide_eq_false h; omega
    subst h0
    rw [show decide (((0 : Nat) : Int) > 0) = false from rfl]
    conv => whnf
    iterate 6
      refine ⟨fun h => (by cases h), fun _ => ?_⟩
      conv => whnf
    refine ⟨.val (.bool false), [], [], [], op_pick rfl (ev_ok rfl) (fun hb => by cases hb) (fun _ => ev_ok rfl) rfl (c1 := .any), nil_fk, nil_new, nil_upd, ?_⟩
    conv => whnf
    refine ⟨fun h => (by cases h), fun _ => ?_⟩
    conv => whnf
    rw [← hc]
    exact ⟨Recast.refl _, (fun _ _ h => by cases h), (fun _ _ h => by cases h)⟩
end Go.Proofs.YtkpfineikahgfaaGreatDoor

namespace Go.Proofs.YtkpfineikahgfaaGreatDoor
open Go.Sx
set_option linter.unusedSimpArgs false
set_option linter.unusedVariables false
set_option maxRecDepth 100000
set_option maxHeartbeats 2000000

theorem val_step (xs : List Int) (hx : W32 xs) (i : Nat) (hi : i < 2) :
    ior .u64 (valI xs i) (ishl .u64 (IntKind.u64.wrap (xs.getD i 0)) ((32 * i : Nat) : Int)) = valI xs (i + 1) := by
  obtain ⟨a0, a1⟩ := hx 0
  obtain ⟨b0, b1⟩ := hx 1
  have hc : i = 0 ∨ i = 1 := by omega
  rcases hc with rfl | rfl
  · obtain ⟨w, hw⟩ := Int.eq_ofNat_of_zero_le a0
    have e : ishl .u64 (IntKind.u64.wrap (xs.getD 0 0)) ((32 * 0 : Nat) : Int) = (w : Int) := by
      rw [hw, wrap_u64 (by omega) (by omega)]
      show IntKind.u64.wrap ((w : Int) * 1) = w
      rw [Int.mul_one, wrap_u64 (by omega) (by omega)]
    rw [e, show valI xs 0 = ((0 : Nat) : Int) from rfl, ior_u64 (by omega) (by omega), Nat.zero_or]
    simp only [valI, hw, Int.pow_zero, Int.mul_one, Int.zero_add]
  · obtain ⟨w, hw⟩ := Int.eq_ofNat_of_zero_le b0
    obtain ⟨v, hv⟩ := Int.eq_ofNat_of_zero_le a0
    have e : ishl .u64 (IntKind.u64.wrap (xs.getD 1 0)) ((32 * 1 : Nat) : Int) = ((4294967296 * w : Nat) : Int) := by
      rw [hw, wrap_u64 (by omega) (by omega)]
      show IntKind.u64.wrap ((w : Int) * 4294967296) = _
      rw [wrap_u64 (by omega) (by omega)]
      omega
    have e1 : valI xs 1 = (v : Int) := by simp only [valI, hv, Int.pow_zero, Int.mul_one, Int.zero_add]
    have e2 : valI xs (1 + 1) = ((v + w * 4294967296 : Nat) : Int) := by
      simp only [valI, hv, hw, Int.pow_zero, Int.mul_one, Int.zero_add, Int.pow_succ, Int.one_mul]; omega
    rw [e, e1, e2, ior_u64 (by omega) (by omega), Nat.or_comm]
    have := Nat.two_pow_add_eq_or_of_lt (i := 32) (b := v) (by omega) w
    rw [show 4294967296 * w = 2 ^ 32 * w from rfl, ← this]
    omega

/-- The bytes of some words. -/
def bytesI (xs : List Int) : List Int := xs.flatMap fun x => (wordBytes x.toNat).map fun b => ((b.toNat : Nat) : Int)

theorem bytesI_len (xs : List Int) : (bytesI xs).length = 4 * xs.length := by
  induction xs with
  | nil => rfl
  | cons x xs ih =>
    rw [bytesI, List.flatMap_cons, List.length_append, ← bytesI, ih]
    simp [wordBytes]; omega

theorem bytesI_snoc {xs : List Int} {i : Nat} (h : i < xs.length) : bytesI (xs.take (i + 1)) = bytesI (xs.take i) ++ bytesI [xs.getD i 0] := by
  rw [List.take_add_one, bytesI, List.flatMap_append]
  have : xs[i]? = some (xs.getD i 0) := by rw [List.getD_eq_getElem?_getD, List.getElem?_eq_getElem h]; rfl
  rw [this]; rfl

theorem wu8m (n : Nat) : IntKind.u8.wrap (n : Int) = ((n % 256 : Nat) : Int) := by simp [IntKind.wrap, IntKind.bits, IntKind.signed]

theorem bytesI_one {x : Int} (h0 : 0 ≤ x) : bytesI [x] = [IntKind.u8.wrap x, IntKind.u8.wrap (ishr .u32 x 8), IntKind.u8.wrap (ishr .u32 x 16), IntKind.u8.wrap (ishr .u32 x 24)] := by
  obtain ⟨n, rfl⟩ := Int.eq_ofNat_of_zero_le h0
  have s8 : ishr .u32 (n : Int) 8 = ((n / 256 : Nat) : Int) := ishr_nat .u32 (s := 8) (by decide)
  have s16 : ishr .u32 (n : Int) 16 = ((n / 65536 : Nat) : Int) := ishr_nat .u32 (s := 16) (by decide)
  have s24 : ishr .u32 (n : Int) 24 = ((n / 16777216 : Nat) : Int) := ishr_nat .u32 (s := 24) (by decide)
  rw [s8, s16, s24, wu8m, wu8m, wu8m, wu8m]
  simp only [bytesI, wordBytes, List.flatMap_cons, List.flatMap_nil, List.map_cons, List.map_nil, List.append_nil, Int.toNat_natCast, UInt8.toNat_ofNat']

theorem bytesI_back {xs : List Int} (h : W32 xs) : (bytesI xs).map (fun v => UInt8.ofNat v.toNat) = (xs.map Int.toNat).flatMap wordBytes := by
  induction xs with
  | nil => rfl
  | cons x xs ih =>
    have hw : W32 xs := fun i => by have := h (i + 1); simpa using this
    rw [bytesI, List.flatMap_cons, List.map_append, ← bytesI, ih hw, List.map_cons, List.flatMap_cons]
    congr 1
    rw [List.map_map]
    have : ((fun v : Int => UInt8.ofNat v.toNat) ∘ fun b : UInt8 => ((b.toNat : Nat) : Int)) = id := by funext b; simp
    rw [this, List.map_id]

theorem big_of {xs : List Int} {k : Nat} (hx : W32 xs) (hk : k ≤ xs.length) (h2 : 2 < k) (ht : xs.getD (k - 1) 0 ≠ 0) :
    natCells (valI xs k).toNat = [.int .u64 0, .string ⟨((bytesI (xs.take k)).map (fun v => UInt8.ofNat v.toNat)).toArray⟩] := by
  have h1 := wInts_of k xs hx hk (.inr ht)
  obtain ⟨j, rfl⟩ : ∃ j, k = j + 1 := ⟨k - 1, by omega⟩
  have hge := valI_ge hx (k := j) (by simpa using ht)
  have hp : (4294967296 : Int) ^ 2 ≤ 4294967296 ^ j := by
    have : (4294967296 : Nat) ^ 2 ≤ 4294967296 ^ j := Nat.pow_le_pow_right (by decide) (by omega)
    rw [← natPowW, ← natPowW]; exact Int.ofNat_le.2 this
  have hbig : ¬ (valI xs (j + 1)).toNat < 18446744073709551616 := by
    have : (4294967296 : Int) ^ 2 = 18446744073709551616 := by decide
    omega
  have hw : W32 (xs.take (j + 1)) := fun i => by
    rw [getD_take]
    split
    · exact hx i
    · decide
  simp only [natCells, low, big, hbig, if_false]
  rw [bytesI_back hw, ← h1, wInts, List.map_map]
  have : (Int.toNat ∘ Int.ofNat) = id := by funext n; rfl
  rw [this, List.map_id]

theorem c_of (xs : List Int) (n : Nat) (hn : n ≤ xs.length) (hl : xs.length < 1099511627776) (hx : W32 xs) (K : Nat) (wr : Bool) :
    CallOK Tryz.prog 223 [.slc K 1 0 n] [(K, ⟨95, wr, .ints .u32 xs⟩)] (.nat (valI xs n).toNat) [] [] := by
  refine CallOK.anyWr ?_
  refine callK (Z := []) tabOK mixedOK Tryz.func223 rfl (by kernel_rfl) (args := [.slc 0 1 0 n]) (fk := [(0, ⟨95, false, .ints .u32 xs⟩)]) (c := .nat (valI xs n).toNat) (new := []) (upd := []) ?_ rfl (fun _ => K) ?_ ?_
  · exact ⟨rfl, rfl, rfl, rfl, rfl, (fun _ _ h => by cases h), (fun k b h hw => by simp at h; rw [h.2] at hw; cases hw), rfl, rfl, rfl, rfl⟩
  · exact ⟨(fun q q' b b' h h' hne => by simp at h h'; omega), (fun _ _ h => by simp [keysOf] at h), (fun _ _ h => by simp [keysOf] at h)⟩
  intro W0 w0 ρ0 hE
  conv => whnf
  refine ⟨_, _, [], [], c_cut xs n hn (by omega) 0 false, one_fk rfl, nil_new, nil_upd, ?_⟩
  have hle := cutN_le xs n
  have htop := cutN_top xs n
  rw [← valI_cut xs n]
  generalize cutN xs n = k at *
  conv => whnf
  by_cases hk : k ≤ 2
  · have t1 : decide ((k : Int) ≤ 2) = true := by simp; omega
    rw [t1]
    (repeat (first | (refine step_w1 rfl rfl ?_; conv => whnf)))
    refine SW_loopN hE (fun k => k) [2, 3, 14, 15, 16] [0, 2] (fun m fr hp => ∃ i, m = k - i ∧ i ≤ k ∧ fr = [(2, .ptr 2 0 0 0), (3, .val (.int .u64 (valI xs i))), (14, .slc 0 1 0 k), (15, .val (.int .i64 k)), (16, .val (.int .i64 (i : Nat)))] ∧ hp = [(0, ⟨95, false, .ints .u32 xs⟩), (2, ⟨32, true, .one [.nat 0]⟩)]) k ?_ ?_ ?_
    · kernel_rfl
    · exact ⟨0, rfl, by omega, rfl, rfl⟩
    rintro m _ _ ⟨i, rfl, hi, rfl, rfl⟩
    conv => whnf
    refine ⟨fun h => ?_, fun h => ?_⟩
    · have hi' : i < k := by have := of_decide_eq_true h; omega
      conv => whnf
      have hw : IntKind.i64.wrap (32 * (i : Int)) = ((32 * i : Nat) : Int) := by rw [wrap_i64 (by omega) (by omega)]; omega
      have hi2 : IntKind.i64.wrap ((i : Int) + 1) = ((i + 1 : Nat) : Int) := by rw [wrap_i64 (by omega) (by omega)]; omega
      (repeat (first | (refine And.intro (by first | decide | omega | (simp only [tl0, dlen, List.length_replicate, List.length_set, List.length_map, List.length_zipWith, List.length_take, List.length_append, List.length_cons, List.length_nil]; omega)) ?_; conv => whnf) | (rw [hw]; conv => whnf)))
      rw [show 0 + (i : Int).toNat = i from by omega, hi2, val_step xs hx i (by omega)]
      exact ⟨k - (i + 1), fun k => k, [2, 3, 14, 15, 16], [0, 2], by omega, by kernel_rfl, i + 1, rfl, by omega, rfl, rfl⟩
    · have hi' : i = k := by have := of_decide_eq_false h; omega
      subst hi'
      conv => whnf
      have hb := valI_lt hx i
      have h0 := valI_nonneg hx i
      have hb' : (4294967296 : Int) ^ i ≤ 18446744073709551616 := by
        have : i = 0 ∨ i = 1 ∨ i = 2 := by omega
        rcases this with rfl | rfl | rfl <;> decide
      obtain ⟨v, hv⟩ := Int.eq_ofNat_of_zero_le h0
      rw [hv] at hb ⊢
      exact ⟨recast_nat (by omega), (fun _ _ h => by cases h), (fun _ _ h => by cases h)⟩
  · have t1 : decide ((k : Int) ≤ 2) = false := by simp; omega
    have e1 : IntKind.i64.wrap (4 * (k : Int)) = ((4 * k : Nat) : Int) := by rw [wrap_i64 (by omega) (by omega)]; omega
    (repeat ((first | refine step_w2 rfl rfl ?_ | refine And.intro (by first | decide | omega | (simp only [tl0, dlen, List.length_replicate, List.length_set, List.length_map, List.length_zipWith, List.length_take, List.length_append, List.length_cons, List.length_nil]; omega)) ?_ | rw [t1] | rw [e1]); conv => whnf))
    refine SW_loopN hE (fun k => k) [2, 6, 35, 36, 37] [0, 2, 34] (fun m fr hp => ∃ i, m = k - i ∧ i ≤ k ∧ fr = [(2, .ptr 2 0 0 0), (6, .slc 34 1 0 (4 * i)), (35, .slc 0 1 0 k), (36, .val (.int .i64 k)), (37, .val (.int .i64 (i : Nat)))] ∧ hp = [(0, ⟨95, false, .ints .u32 xs⟩), (2, ⟨32, true, .one [.nat 0]⟩), (34, ⟨5, true, .ints .u8 (bytesI (xs.take i))⟩)]) k ?_ ?_ ?_
    · kernel_rfl
    · exact ⟨0, rfl, by omega, rfl, rfl⟩
    rintro m _ _ ⟨i, rfl, hi, rfl, rfl⟩
    conv => whnf
    refine ⟨fun h => ?_, fun h => ?_⟩
    · have hi' : i < k := by have := of_decide_eq_true h; omega
      conv => whnf
      have hb := hx i
      have hlen : (bytesI (xs.take i)).length = 4 * i := by rw [bytesI_len, List.length_take]; omega
      have hi2 : IntKind.i64.wrap ((i : Int) + 1) = ((i + 1 : Nat) : Int) := by rw [wrap_i64 (by omega) (by omega)]; omega
      have hs := bytesI_snoc (xs := xs) (i := i) (by omega)
      rw [bytesI_one hb.1] at hs
      (repeat (first | (refine And.intro (by first | decide | omega | (simp only [tl0, dlen, List.length_replicate, List.length_set, List.length_map, List.length_zipWith, List.length_take, List.length_append, List.length_cons, List.length_nil]; omega)) ?_; conv => whnf) | (rw [show 0 + (i : Int).toNat = i from by omega]; conv => whnf)))
      (repeat (first | (rw [hi2]; conv => whnf)))
      refine ⟨k - (i + 1), renBy [(54, 34)], [2, 6, 35, 36, 37], [0, 2, 54], by omega, by kernel_rfl, i + 1, rfl, by omega, rfl, ?_⟩
      rw [hs]
      conv => lhs; whnf
      rw [← hlen, List.take_length]
      rfl
    · have hi' : i = k := by have := of_decide_eq_false h; omega
      subst hi'
      conv => whnf
      have hlen : (bytesI (xs.take i)).length = 4 * i := by rw [bytesI_len, List.length_take]; omega
      refine ⟨_, [(34, ⟨5, true, .ints .u8 (bytesI (xs.take i))⟩)], [], op_bytesStr (P := Tryz.prog) (i := 0) (n := 4 * i) rfl (ev_ok rfl) (tabOK.get (t := 272) rfl) rfl (tabOK.get (t := 5) rfl) rfl (tabOK.get (t := 9) rfl) rfl (List.mem_cons_self ..) (by omega), one_fk rfl, nil_new, ?_⟩
      rw [List.drop_zero, ← hlen, List.take_length]
      conv => whnf
      skip
      refine ⟨recast_flat (l := natCells (valI xs i).toNat) ?_ rfl (fun _ h => by cases h), (fun _ _ h => by cases h), (fun _ _ h => by cases h)⟩
      rw [big_of hx (by omega) (by omega) (htop.resolve_left (by omega))]
      rfl
end Go.Proofs.YtkpfineikahgfaaGreatDoor

namespace Go.Proofs.YtkpfineikahgfaaGreatDoor
open Go.Sx
set_option linter.unusedSimpArgs false
set_option linter.unusedVariables false
set_option maxRecDepth 100000
set_option maxHeartbeats 2000000

theorem and32 (n : Nat) : n &&& 4294967295 = n % 4294967296 := by
  have := Nat.and_two_pow_sub_one_eq_mod n 32
  simpa using this

theorem iand_lo {n : Nat} (h : n < 18446744073709551616) : iand .u64 (n : Int) 4294967295 = ((n % 4294967296 : Nat) : Int) := by
  have := iand_u64 (x := n) (y := 4294967295) h (by decide)
  rw [and32] at this
  exact this
theorem ishr_hi (n : Nat) : ishr .u64 (n : Int) 32 = ((n / 4294967296 : Nat) : Int) := ishr_nat .u64 (s := 32) (by decide)

/-- The high word of the schoolbook product. -/
theorem mul_hi (x y : Nat) :
    x / 4294967296 * (y / 4294967296) + (x / 4294967296 * (y % 4294967296) + x % 4294967296 * (y % 4294967296) / 4294967296) / 4294967296 + ((x / 4294967296 * (y % 4294967296) + x % 4294967296 * (y % 4294967296) / 4294967296) % 4294967296 + x % 4294967296 * (y / 4294967296)) / 4294967296 = x * y / 18446744073709551616 := by
  have e1 : x * y = (x / 4294967296 * (y / 4294967296)) * 18446744073709551616 + (x / 4294967296 * (y % 4294967296)) * 4294967296 + (x % 4294967296 * (y / 4294967296)) * 4294967296 + x % 4294967296 * (y % 4294967296) := by
    have hx' : x = 4294967296 * (x / 4294967296) + x % 4294967296 := by omega
    have hy' : y = 4294967296 * (y / 4294967296) + y % 4294967296 := by omega
    generalize x / 4294967296 = a at *
    generalize x % 4294967296 = b at *
    generalize y / 4294967296 = c at *
    generalize y % 4294967296 = d at *
    rw [hx', hy', Nat.add_mul, Nat.mul_add, Nat.mul_add, Nat.mul_mul_mul_comm, Nat.mul_assoc 4294967296 a d, Nat.mul_left_comm b 4294967296 c]
    omega
  generalize x / 4294967296 * (y / 4294967296) = A at *
  generalize x / 4294967296 * (y % 4294967296) = B at *
  generalize x % 4294967296 * (y / 4294967296) = C at *
  generalize x % 4294967296 * (y % 4294967296) = D at *
  omega

theorem c_Mul64 (x y : Nat) (hx : x < 18446744073709551616) (hy : y < 18446744073709551616) :
    CallOK Tryz.prog 222 [.val (.int .u64 x), .val (.int .u64 y)] [] (.tup [.val (.int .u64 (x * y / 18446744073709551616 : Nat)), .val (.int .u64 (x * y % 18446744073709551616 : Nat))]) [] [] := by
  refine callV (Z := []) tabOK mixedOK Tryz.func222 rfl (by kernel_rfl) rfl rfl (by kernel_rfl) rfl ?_
  intro W0 w0 ρ0 hE
  conv => whnf
  iterate 5
    refine ⟨by decide, ?_⟩
    conv => whnf
  have hh := mul_hi x y
  have elo : IntKind.u64.wrap ((x : Int) * y) = ((x * y % 18446744073709551616 : Nat) : Int) := by rw [wrap_u64', ← Int.natCast_mul]; omega
  rw [elo, ishr_hi x, ishr_hi y, iand_lo hx, iand_lo hy]
  have ba : x / 4294967296 ≤ 4294967295 := by omega
  have bb : x % 4294967296 ≤ 4294967295 := by omega
  have bc : y / 4294967296 ≤ 4294967295 := by omega
  have bd : y % 4294967296 ≤ 4294967295 := by omega
  generalize x / 4294967296 = a at *
  generalize x % 4294967296 = b at *
  generalize y / 4294967296 = c at *
  generalize y % 4294967296 = d at *
  have pac := Nat.mul_le_mul ba bc
  have pad := Nat.mul_le_mul ba bd
  have pbc := Nat.mul_le_mul bb bc
  have pbd := Nat.mul_le_mul bb bd
  have wu : ∀ {n : Nat}, n < 18446744073709551616 → IntKind.u64.wrap (n : Int) = n := fun h => wrap_u64 (by omega) (by omega)
  rw [← Int.natCast_mul, ← Int.natCast_mul, ← Int.natCast_mul, ← Int.natCast_mul, wu (n := a * c) (by omega), wu (n := a * d) (by omega), wu (n := b * d) (by omega), wu (n := b * c) (by omega), ishr_hi (b * d), ← Int.natCast_add, wu (n := a * d + b * d / 4294967296) (by omega), ishr_hi, iand_lo (by omega), ← Int.natCast_add, ← Int.natCast_add, wu (n := a * c + (a * d + b * d / 4294967296) / 4294967296) (by omega), wu (n := (a * d + b * d / 4294967296) % 4294967296 + b * c) (by omega), ishr_hi, ← Int.natCast_add, hh, wu (by omega)]
  exact Recast.refl _
end Go.Proofs.YtkpfineikahgfaaGreatDoor

namespace Go.Proofs.YtkpfineikahgfaaGreatDoor
open Go.Sx
set_option linter.unusedSimpArgs false
set_option linter.unusedVariables false
set_option maxRecDepth 100000
set_option maxHeartbeats 4000000

theorem wu64 {n : Nat} (h : n < 18446744073709551616) : IntKind.u64.wrap (n : Int) = n := wrap_u64 (by omega) (by omega)
theorem wu32 {n : Nat} (h : n < 4294967296) : IntKind.u32.wrap (n : Int) = n := wrap_u32 (by omega) (by omega)
theorem wu32m (n : Nat) : IntKind.u32.wrap (n : Int) = ((n % 4294967296 : Nat) : Int) := by rw [wrap_u32']; omega

theorem c_Add32 (x y c : Nat) (hx : x < 4294967296) (hy : y < 4294967296) (hc : c ≤ 1) :
    CallOK Tryz.prog 246 [.val (.int .u32 x), .val (.int .u32 y), .val (.int .u32 c)] [] (.tup [.val (.int .u32 ((x + y + c) % 4294967296 : Nat)), .val (.int .u32 ((x + y + c) / 4294967296 : Nat))]) [] [] := by
  have e1 : IntKind.u64.wrap (IntKind.u64.wrap (IntKind.u64.wrap (x : Int) + IntKind.u64.wrap (y : Int)) + IntKind.u64.wrap (c : Int)) = ((x + y + c : Nat) : Int) := by
    rw [wu64 (n := x) (by omega), wu64 (n := y) (by omega), wu64 (n := c) (by omega), ← Int.natCast_add, wu64 (by omega), ← Int.natCast_add, wu64 (by omega)]
  have e2 : IntKind.u32.wrap (ishr .u64 ((x + y + c : Nat) : Int) 32) = (((x + y + c) / 4294967296 : Nat) : Int) := by rw [ishr_hi, wu32 (by omega)]
  refine callV (Z := []) tabOK mixedOK Tryz.func246 rfl (by kernel_rfl) rfl rfl (by kernel_rfl) rfl ?_
  intro W0 w0 ρ0 hE
  conv => whnf
  (repeat (first | (refine And.intro (by first | decide | omega | (simp only [tl0, dlen, List.length_replicate, List.length_set, List.length_map, List.length_zipWith, List.length_take, List.length_append, List.length_cons, List.length_nil]; omega)) ?_; conv => whnf)))
  rw [e1, e2, wu32m]
  exact Recast.refl _

theorem ior_u32 {x y : Nat} (hx : x < 4294967296) (hy : y < 4294967296) : ior .u32 x y = ((x ||| y : Nat) : Int) := by
  have : x ||| y < 4294967296 := Nat.or_lt_two_pow (n := 32) hx hy
  have e1 : (BitVec.ofInt IntKind.u32.bits (x : Int)).toNat = x := by simp [BitVec.toNat_ofInt, IntKind.bits]; omega
  have e2 : (BitVec.ofInt IntKind.u32.bits (y : Int)).toNat = y := by simp [BitVec.toNat_ofInt, IntKind.bits]; omega
  rw [ior, BitVec.toNat_or, e1, e2]
  exact wu32 this
theorem ixor_u32 {x y : Nat} (hx : x < 4294967296) (hy : y < 4294967296) : ixor .u32 x y = ((x ^^^ y : Nat) : Int) := by
  have : x ^^^ y < 4294967296 := Nat.xor_lt_two_pow (n := 32) hx hy
  have e1 : (BitVec.ofInt IntKind.u32.bits (x : Int)).toNat = x := by simp [BitVec.toNat_ofInt, IntKind.bits]; omega
  have e2 : (BitVec.ofInt IntKind.u32.bits (y : Int)).toNat = y := by simp [BitVec.toNat_ofInt, IntKind.bits]; omega
  rw [ixor, BitVec.toNat_xor, e1, e2]
  exact wu32 this

theorem top31 {n : Nat} (h : n < 4294967296) : n / 2147483648 = if n.testBit 31 then 1 else 0 := by
  rw [Nat.testBit_eq_decide_div_mod_eq]
  simp only [Nat.reducePow, decide_eq_true_eq]
  split <;> omega
theorem bit31 {n : Nat} (h : n < 4294967296) : n.testBit 31 = decide (2147483648 ≤ n) := by
  rw [Nat.testBit_eq_decide_div_mod_eq, decide_eq_decide]
  simp only [Nat.reducePow]
  omega

theorem borrow (x y c : Nat) (hx : x < 4294967296) (hy : y < 4294967296) (hc : c ≤ 1) :
    ((((4294967295 ^^^ x) &&& y) ||| ((4294967295 ^^^ (x ^^^ y)) &&& ((x + 4294967296 - y - c) % 4294967296))) / 2147483648 : Nat) = if x < y + c then 1 else 0 := by
  have hd : (x + 4294967296 - y - c) % 4294967296 < 4294967296 := Nat.mod_lt _ (by decide)
  rw [top31 (Nat.or_lt_two_pow (n := 32) (Nat.and_lt_two_pow (n := 32) _ hy) (Nat.and_lt_two_pow (n := 32) _ hd)), Nat.testBit_or, Nat.testBit_and, Nat.testBit_and, Nat.testBit_xor, Nat.testBit_xor, Nat.testBit_xor, bit31 hx, bit31 hy, bit31 hd, bit31 (n := 4294967295) (by decide)]
  by_cases h1 : 2147483648 ≤ x <;> by_cases h2 : 2147483648 ≤ y <;> simp [h1, h2] <;> (try split) <;> (try split) <;> omega

theorem c_Sub32 (x y c : Nat) (hx : x < 4294967296) (hy : y < 4294967296) (hc : c ≤ 1) :
    CallOK Tryz.prog 247 [.val (.int .u32 x), .val (.int .u32 y), .val (.int .u32 c)] [] (.tup [.val (.int .u32 ((x + 4294967296 - y - c) % 4294967296 : Nat)), .val (.int .u32 ((if x < y + c then 1 else 0 : Nat)))]) [] [] := by
  have hd : (x + 4294967296 - y - c) % 4294967296 < 4294967296 := Nat.mod_lt _ (by decide)
  have e1 : IntKind.u32.wrap (IntKind.u32.wrap ((x : Int) - y) - c) = (((x + 4294967296 - y - c) % 4294967296 : Nat) : Int) := by rw [wrap_u32', wrap_u32']; omega
  have hb := borrow x y c hx hy hc
  have e2 : ixor .u32 (if IntKind.u32.signed = true then -1 else IntKind.u32.max) (x : Int) = ((4294967295 ^^^ x : Nat) : Int) := ixor_u32 (x := 4294967295) (by decide) hx
  have hxy : x ^^^ y < 4294967296 := Nat.xor_lt_two_pow (n := 32) hx hy
  have e3 : ixor .u32 (x : Int) y = ((x ^^^ y : Nat) : Int) := ixor_u32 hx hy
  have e4 : ixor .u32 (if IntKind.u32.signed = true then -1 else IntKind.u32.max) ((x ^^^ y : Nat) : Int) = ((4294967295 ^^^ (x ^^^ y) : Nat) : Int) := ixor_u32 (x := 4294967295) (by decide) hxy
  have hnx : 4294967295 ^^^ x < 4294967296 := Nat.xor_lt_two_pow (n := 32) (by decide) hx
  have hnxy : 4294967295 ^^^ (x ^^^ y) < 4294967296 := Nat.xor_lt_two_pow (n := 32) (by decide) hxy
  have e5 : iand .u32 ((4294967295 ^^^ x : Nat) : Int) y = (((4294967295 ^^^ x) &&& y : Nat) : Int) := iand_u32 hnx hy
  have e6 : iand .u32 ((4294967295 ^^^ (x ^^^ y) : Nat) : Int) (((x + 4294967296 - y - c) % 4294967296 : Nat) : Int) = (((4294967295 ^^^ (x ^^^ y)) &&& ((x + 4294967296 - y - c) % 4294967296) : Nat) : Int) := iand_u32 hnxy hd
  have e7 := ior_u32 (Nat.and_lt_two_pow (n := 32) (4294967295 ^^^ x) hy) (Nat.and_lt_two_pow (n := 32) (4294967295 ^^^ (x ^^^ y)) hd)
  have e8 : ∀ n : Nat, ishr .u32 (n : Int) 31 = ((n / 2147483648 : Nat) : Int) := fun n => ishr_nat .u32 (s := 31) (by decide)
  refine callV (Z := []) tabOK mixedOK Tryz.func247 rfl (by kernel_rfl) rfl rfl (by kernel_rfl) rfl ?_
  intro W0 w0 ρ0 hE
  conv => whnf
  (repeat (first | (refine And.intro (by first | decide | omega | (simp only [tl0, dlen, List.length_replicate, List.length_set, List.length_map, List.length_zipWith, List.length_take, List.length_append, List.length_cons, List.length_nil]; omega)) ?_; conv => whnf)))
  rw [e1, e2, e3, e4, e5, e6, e7, e8, hb]
  exact Recast.refl _

theorem c_Div32 (h l y : Nat) (hh : h < y) (hl : l < 4294967296) (hy : y < 4294967296) :
    CallOK Tryz.prog 252 [.val (.int .u32 h), .val (.int .u32 l), .val (.int .u32 y)] [] (.tup [.val (.int .u32 ((h * 4294967296 + l) / y : Nat)), .val (.int .u32 ((h * 4294967296 + l) % y : Nat))]) [] [] := by
  have t1 : (((y : Nat) : Int) != 0) = true := by simp; omega
  have t2 : decide ((y : Int) ≤ (h : Int)) = false := by simp; omega
  have e1 : ishl .u64 (IntKind.u64.wrap (h : Int)) 32 = ((h * 4294967296 : Nat) : Int) := by
    rw [wu64 (by omega)]
    show IntKind.u64.wrap ((h : Int) * 4294967296) = _
    rw [show (h : Int) * 4294967296 = ((h * 4294967296 : Nat) : Int) from by omega, wu64 (by omega)]
  have e2 : ior .u64 ((h * 4294967296 : Nat) : Int) (l : Int) = ((h * 4294967296 + l : Nat) : Int) := by
    rw [ior_u64 (by omega) (by omega), Nat.mul_comm, ← Nat.two_pow_add_eq_or_of_lt (i := 32) (b := l) (by omega) h]
  have hq : (h * 4294967296 + l) / y < 4294967296 := Nat.div_lt_of_lt_mul (by
    have := Nat.mul_le_mul_right 4294967296 (show h + 1 ≤ y by omega)
    rw [Nat.mul_comm y]; omega)
  have hr : (h * 4294967296 + l) % y < y := Nat.mod_lt _ (by omega)
  have e3 : ((h * 4294967296 + l : Nat) : Int).tdiv (y : Int) = (((h * 4294967296 + l) / y : Nat) : Int) := rfl
  have e4 : ((h * 4294967296 + l : Nat) : Int).tmod (y : Int) = (((h * 4294967296 + l) % y : Nat) : Int) := rfl
  refine callV (Z := []) tabOK mixedOK Tryz.func252 rfl (by kernel_rfl) rfl rfl (by kernel_rfl) rfl ?_
  intro W0 w0 ρ0 hE
  conv => whnf
  (repeat ((first | refine step_w1 rfl rfl ?_ | refine step_w2 rfl rfl ?_ | refine step_i (by kernel_rfl) ?_ | refine And.intro (by first | decide | omega | (simp only [tl0, dlen, List.length_replicate, List.length_set, List.length_map, List.length_zipWith, List.length_take, List.length_append, List.length_cons, List.length_nil]; omega)) ?_ | refine g_o (op_pickT rfl (ev_ok rfl) (ev_ok rfl)) ?_ | rw [t1] | rw [t2] | rw [e1] | rw [wu64 (n := l) (by omega)] | rw [wu64 (n := y) (by omega)] | rw [e2] | rw [e3] | rw [e4] | rw [wu64 (n := (h * 4294967296 + l) / y) (by omega)] | rw [wu32 hq] | rw [wu32 (n := (h * 4294967296 + l) % y) (by omega)]); conv => whnf)); exact Recast.refl _

theorem sz_of {n k : Nat} (h0 : 2 ^ k ≤ n) (h1 : n < 2 ^ (k + 1)) : sz n = k + 1 := by
  have := sz_le.2 h1
  have h2 : ¬ sz n ≤ k := fun h => by have := sz_le.1 h; omega
  omega
theorem sz_shift {n k : Nat} (h : 0 < n / 2 ^ k) : sz n = sz (n / 2 ^ k) + k := by
  generalize hm : n / 2 ^ k = m at *
  have hm0 : m ≠ 0 := by omega
  obtain ⟨j, hj⟩ : ∃ j, sz m = j + 1 := ⟨sz m - 1, by have := sz_pos hm0; omega⟩
  have h1 : m < 2 ^ (j + 1) := sz_le.1 (by omega)
  have h2 : 2 ^ j ≤ m := by
    refine Nat.le_of_not_lt fun h => ?_
    have := sz_le.2 h
    omega
  have hd := Nat.div_add_mod n (2 ^ k)
  have hl := Nat.mod_lt n (Nat.two_pow_pos k)
  rw [hm] at hd
  rw [hj, sz_of (n := n) (k := j + k)]
  · omega
  · rw [Nat.pow_add]
    have := Nat.mul_le_mul_left (2 ^ k) h2
    rw [Nat.mul_comm (2 ^ j)]; omega
  · rw [show j + k + 1 = k + (j + 1) from by omega, Nat.pow_add]
    have := Nat.mul_le_mul_left (2 ^ k) (show m + 1 ≤ 2 ^ (j + 1) from h1)
    rw [Nat.mul_add, Nat.mul_one] at this
    omega

def chkTab (s : ByteArray) : Bool := decide (s.size = 256) && (List.range 256).all (fun j => s.data.getD j 0 == UInt8.ofNat (sz j))
theorem tab_bound {s : ByteArray} {j : Nat} (hj : j < 256) (hs : chkTab s = true) : (0 ≤ (j : Int) ∧ (j : Int) < (s.size : Int)) := by
  simp only [chkTab, Bool.and_eq_true, decide_eq_true_eq] at hs
  omega
theorem sz256 : ∀ j, j < 256 → sz j < 256 := fun j hj => Nat.lt_of_le_of_lt (sz_le.2 (show j < 2 ^ 8 from hj)) (by decide)
theorem tab_val {s : ByteArray} {j : Nat} (hj : j < 256) (hs : chkTab s = true) : (s.data.getD (j : Int).toNat 0).toNat = sz j := by
  simp only [chkTab, Bool.and_eq_true, decide_eq_true_eq, List.all_eq_true, List.mem_range, beq_iff_eq] at hs
  rw [Int.toNat_natCast, hs.2 j hj]
  have := sz256 j hj
  simp only [UInt8.toNat_ofNat']
  omega
theorem wu8 {n : Nat} (h : n < 256) : IntKind.u8.wrap (n : Int) = n := by simp [IntKind.wrap, IntKind.bits, IntKind.signed]; omega
theorem wi64 {n : Nat} (h : n < 9223372036854775808) : IntKind.i64.wrap (n : Int) = n := wrap_i64 (by omega) (by omega)

theorem c_Len32 (x : Nat) (hx : x < 4294967296) :
    CallOK Tryz.prog 276 [.val (.int .u32 x)] [] (.val (.int .i64 (sz x))) [] [] := by
  have s16 : ishr .u32 (x : Int) 16 = ((x / 65536 : Nat) : Int) := ishr_nat .u32 (s := 16) (by decide)
  have s8 : ∀ y : Nat, ishr .u32 (y : Int) 8 = ((y / 256 : Nat) : Int) := fun y => ishr_nat .u32 (s := 8) (by decide)
  have fin : ∀ (j : Nat) (k : Int), j < 256 → (sz x : Int) = sz j + k → 0 ≤ k → k ≤ 24 → IntKind.i64.wrap (k + IntKind.i64.wrap ((sz j : Nat) : Int)) = (sz x : Nat) := fun j k hj h hk hk' => by
    have := sz256 j hj
    rw [wi64 (n := sz j) (by omega), wrap_i64 (by omega) (by omega)]; omega
  refine callV (Z := []) tabOK mixedOK Tryz.func276 rfl (by kernel_rfl) rfl rfl (by kernel_rfl) rfl ?_
  intro W0 w0 ρ0 hE
  conv => whnf
  by_cases h1 : 65536 ≤ x
  · have t1 : decide ((x : Int) ≥ 65536) = true := by simp; omega
    by_cases h2 : 256 ≤ x / 65536
    · have t2 : decide (((x / 65536 : Nat) : Int) ≥ 256) = true := by simp; omega
      (repeat ((first | refine step_w1 rfl rfl ?_ | refine And.intro (by first | decide | omega | (simp only [tl0, dlen, List.length_replicate, List.length_set, List.length_map, List.length_zipWith, List.length_take, List.length_append, List.length_cons, List.length_nil]; omega)) ?_ | rw [t1] | rw [s16] | rw [t2] | rw [s8] | rw [wu8 (n := x / 65536 / 256) (by omega)]); conv => whnf))
      refine ⟨tab_bound (by omega) (by kernel_rfl), ?_⟩
      conv => whnf
      skip
      rw [tab_val (j := x / 65536 / 256) (by omega), show IntKind.i64.wrap (IntKind.i64.wrap (16 + 8) + IntKind.i64.wrap ((sz (x / 65536 / 256) : Nat) : Int)) = IntKind.i64.wrap (24 + IntKind.i64.wrap ((sz (x / 65536 / 256) : Nat) : Int)) from rfl, fin (x / 65536 / 256) 24 (by omega) ?_ (by omega) (by omega)]
      · exact Recast.refl _
      · rw [sz_shift (n := x) (k := 24) (by omega), Nat.div_div_eq_div_mul]; rfl
      · kernel_rfl
    · have t2 : decide (((x / 65536 : Nat) : Int) ≥ 256) = false := by simp; omega
      (repeat ((first | refine step_w1 rfl rfl ?_ | refine step_w2 rfl rfl ?_ | refine And.intro (by first | decide | omega | (simp only [tl0, dlen, List.length_replicate, List.length_set, List.length_map, List.length_zipWith, List.length_take, List.length_append, List.length_cons, List.length_nil]; omega)) ?_ | rw [t1] | rw [s16] | rw [t2] | rw [wu8 (n := x / 65536) (by omega)]); conv => whnf))
      refine ⟨tab_bound (by omega) (by kernel_rfl), ?_⟩
      conv => whnf
      skip
      rw [tab_val (j := x / 65536) (by omega), fin (x / 65536) 16 (by omega) ?_ (by omega) (by omega)]
      · exact Recast.refl _
      · rw [sz_shift (n := x) (k := 16) (by omega)]; rfl
      · kernel_rfl
  · have t1 : decide ((x : Int) ≥ 65536) = false := by simp; omega
    by_cases h2 : 256 ≤ x
    · have t2 : decide ((x : Int) ≥ 256) = true := by simp; omega
      (repeat ((first | refine step_w1 rfl rfl ?_ | refine step_w2 rfl rfl ?_ | refine And.intro (by first | decide | omega | (simp only [tl0, dlen, List.length_replicate, List.length_set, List.length_map, List.length_zipWith, List.length_take, List.length_append, List.length_cons, List.length_nil]; omega)) ?_ | rw [t1] | rw [t2] | rw [s8] | rw [wu8 (n := x / 256) (by omega)]); conv => whnf))
      refine ⟨tab_bound (by omega) (by kernel_rfl), ?_⟩
      conv => whnf
      skip
      rw [tab_val (j := x / 256) (by omega), show IntKind.i64.wrap (0 + 8) = 8 from rfl, fin (x / 256) 8 (by omega) ?_ (by omega) (by omega)]
      · exact Recast.refl _
      · rw [sz_shift (n := x) (k := 8) (by omega)]; rfl
      · kernel_rfl
    · have t2 : decide ((x : Int) ≥ 256) = false := by simp; omega
      (repeat ((first | refine step_w2 rfl rfl ?_ | rw [t1] | rw [t2] | rw [wu8 (n := x) (by omega)]); conv => whnf))
      refine ⟨tab_bound (by omega) (by kernel_rfl), ?_⟩
      conv => whnf
      skip
      rw [tab_val (j := x) (by omega), fin x 0 (by omega) (by omega) (by omega) (by omega)]
      · exact Recast.refl _
      · kernel_rfl

theorem c_LZ32 (x : Nat) (hx : x < 4294967296) :
    CallOK Tryz.prog 253 [.val (.int .u32 x)] [] (.val (.int .i64 ((32 - sz x : Nat)))) [] [] := by
  have k1 := c_Len32 x hx
  have := sz_le.2 (show x < 2 ^ 32 from hx)
  have e : IntKind.i64.wrap (32 - ((sz x : Nat) : Int)) = ((32 - sz x : Nat) : Int) := by rw [wrap_i64 (by omega) (by omega)]; omega
  refine callV (Z := []) tabOK mixedOK Tryz.func253 rfl (by kernel_rfl) rfl rfl (by kernel_rfl) rfl ?_
  intro W0 w0 ρ0 hE
  conv => whnf
  (repeat (first | (refine g_c (by assumption) ?_; conv => whnf) | (rw [e]; conv => whnf)))
  exact Recast.refl _
end Go.Proofs.YtkpfineikahgfaaGreatDoor

namespace Go.Proofs.YtkpfineikahgfaaGreatDoor
open Go.Sx
set_option linter.unusedSimpArgs false
set_option linter.unusedVariables false
set_option maxRecDepth 100000
set_option maxHeartbeats 4000000

/-- What lies behind the words that are handed back. -/
def wArr (n : Nat) : List Int := if n < 18446744073709551616 then [((n % 4294967296 : Nat) : Int), ((n / 4294967296 : Nat) : Int)] else wInts n

theorem wArr_len (n : Nat) : (wInts n).length ≤ (wArr n).length := by
  unfold wArr
  split
  · rename_i h
    exact len_le_of (k := 2) (by simpa using h)
  · exact Nat.le_refl _

theorem wArr_small {n : Nat} (h : n < 18446744073709551616) : wArr n = [((n % 4294967296 : Nat) : Int), ((n / 4294967296 : Nat) : Int)] := by rw [wArr, if_pos h]

theorem wArr_w32 (n : Nat) : W32 (wArr n) := by
  unfold wArr
  split
  · refine W32_of fun x hx => ?_
    simp only [List.mem_cons, List.not_mem_nil, or_false] at hx
    rcases hx with rfl | rfl <;> omega
  · exact wInts_w32 n

theorem cut_small {n : Nat} (h : n < 18446744073709551616) : cutN [((n % 4294967296 : Nat) : Int), ((n / 4294967296 : Nat) : Int)] 2 = (wInts n).length := by
  have e1 : ∀ m : Nat, m < 4294967296 → m ≠ 0 → wInts m = [(m : Int)] := fun m hm h0 => by
    rw [wInts_succ h0, Nat.mod_eq_of_lt hm, Nat.div_eq_of_lt hm, wInts_zero]
  by_cases h1 : n / 4294967296 = 0
  · by_cases h2 : n = 0
    · subst h2; rfl
    · rw [e1 n (by omega) h2]
      have : n % 4294967296 ≠ 0 := by omega
      simp [cutN, h1]; omega
  · have hn : n ≠ 0 := by omega
    rw [wInts_succ hn, e1 _ (by omega) h1]
    simp [cutN]; omega

theorem wInts_small {n : Nat} (h : n < 18446744073709551616) (hn : n ≠ 0) : wInts n = if n / 4294967296 = 0 then [((n % 4294967296 : Nat) : Int)] else [((n % 4294967296 : Nat) : Int), ((n / 4294967296 : Nat) : Int)] := by
  rw [wInts_succ hn]
  split
  · rename_i h1; rw [h1, wInts_zero]
  · rename_i h1
    rw [wInts_succ h1, Nat.div_eq_of_lt (a := n / 4294967296) (by omega), wInts_zero, Nat.mod_eq_of_lt (a := n / 4294967296) (by omega)]

theorem wArr_get {n i : Nat} (hi : i < (wInts n).length) : (wArr n).getD i 0 = (wInts n).getD i 0 := by
  unfold wArr
  split
  · rename_i h
    have hn : n ≠ 0 := fun h0 => by subst h0; simp [wInts_zero] at hi
    rw [wInts_small h hn] at hi ⊢
    split at hi
    · rename_i h1
      obtain rfl : i = 0 := by simpa using hi
      rw [if_pos h1]; rfl
    · rename_i h1
      rw [if_neg h1]
  · rfl

theorem wArr_val (n : Nat) : valI (wArr n) (wInts n).length = n := by
  rw [valI_congr (ys := wInts n) (fun i hi => wArr_get hi), wInts_val]

theorem c_words_s (n : Nat) (K : Nat) (h : n < 18446744073709551616) :
    CallOK Tryz.prog 123 [.nat n] [] (.slc K 1 0 (wInts n).length) [(K, ⟨95, true, .ints .u32 (wArr n)⟩)] [] := by
  rw [wArr_small h]
  refine callK (Z := []) tabOK mixedOK Tryz.func123 rfl (by kernel_rfl) (args := [.nat n]) (fk := []) (c := .slc 16 1 0 (wInts n).length) (new := [(16, ⟨95, true, .ints .u32 [((n % 4294967296 : Nat) : Int), ((n / 4294967296 : Nat) : Int)]⟩)]) (upd := []) ?_ rfl (fun _ => K) ?_ ?_
  · exact ⟨rfl, rfl, rfl, rfl, rfl, (fun _ _ h => by cases h), (fun k b h hw => by cases h), rfl, rfl, rfl, rfl⟩
  · exact ⟨(fun q q' b b' h h' hne => by cases h), (fun m m' h1 h2 hne => by simp [keysOf] at h1 h2; omega), (fun _ _ h1 h2 => by simp [keysOf] at h2)⟩
  intro W0 w0 ρ0 hE
  conv => whnf
  rw [big_eq, decide_eq_true h]
  have e1 : IntKind.u32.wrap (n : Int) = ((n % 4294967296 : Nat) : Int) := wu32m n
  have e2 : IntKind.u32.wrap (ishr .u64 (n : Int) 32) = ((n / 4294967296 : Nat) : Int) := by rw [ishr_hi, wu32 (by omega)]
  (repeat ((first | refine step_w1 rfl rfl ?_ | refine And.intro (by first | decide | omega | (simp only [tl0, dlen, List.length_replicate, List.length_set, List.length_map, List.length_zipWith, List.length_take, List.length_append, List.length_cons, List.length_nil]; omega)) ?_ | rw [low_small h] | rw [e1] | rw [e2]); conv => whnf))
  refine ⟨_, _, [], [], c_cut [((n % 4294967296 : Nat) : Int), ((n / 4294967296 : Nat) : Int)] 2 (Nat.le_refl 2) (by simp) 16 true, one_fk rfl, nil_new, nil_upd, ?_⟩
  rw [cut_small h]
  conv => whnf
  skip
  exact ⟨Recast.refl _, one_get rfl, (fun _ _ h => by cases h)⟩

theorem flat4 (l : List Nat) (i k : Nat) (hk : k < 4) : (l.flatMap wordBytes).getD (4 * i + k) 0 = if i < l.length then (wordBytes (l.getD i 0)).getD k 0 else 0 := by
  induction l generalizing i with
  | nil => simp
  | cons x l ih =>
    have h4 : (wordBytes x).length = 4 := rfl
    rw [List.flatMap_cons]
    cases i with
    | zero =>
      rw [List.getD_eq_getElem?_getD, List.getElem?_append_left (by omega), Nat.mul_zero, Nat.zero_add, if_pos (by simp), List.getD_cons_zero, List.getD_eq_getElem?_getD]
    | succ i =>
      have := ih i
      rw [List.getD_eq_getElem?_getD] at this
      rw [List.getD_eq_getElem?_getD, List.getElem?_append_right (by omega), h4, show 4 * (i + 1) + k - 4 = 4 * i + k from by omega, this, List.getD_cons_succ]
      simp

/-- The bytes of a great number. -/
theorem big_byte {n i k : Nat} (h : ¬ n < 18446744073709551616) (hi : i < (wInts n).length) (hk : k < 4) :
    (((big n).data.getD (4 * i + k) 0).toNat : Int) = (wInts n).getD i 0 / 256 ^ k % 256 := by
  have hbig : big n = ⟨((words n).flatMap wordBytes).toArray⟩ := by simp [big, h]
  have e1 : (wInts n).getD i 0 = (((words n).getD i 0 : Nat) : Int) := by
    simp only [wInts, List.getD_eq_getElem?_getD, List.getElem?_map]
    cases (words n)[i]? <;> rfl
  have hi' : i < (words n).length := by rw [← wInts_length]; exact hi
  rw [hbig, e1]
  show ((((words n).flatMap wordBytes).toArray.getD (4 * i + k) 0).toNat : Int) = _
  have e2 : ((words n).flatMap wordBytes).toArray.getD (4 * i + k) 0 = ((words n).flatMap wordBytes).getD (4 * i + k) 0 := by
    rw [Array.getD_eq_getD_getElem?, List.getD_eq_getElem?_getD]; simp
  rw [e2, flat4 _ _ _ hk, if_pos hi']
  have hc : k = 0 ∨ k = 1 ∨ k = 2 ∨ k = 3 := by omega
  rcases hc with rfl | rfl | rfl | rfl <;> simp [wordBytes, UInt8.toNat_ofNat'] <;> omega
theorem big_size {n : Nat} (h : ¬ n < 18446744073709551616) : (big n).size = 4 * (wInts n).length := by
  have hbig : big n = ⟨((words n).flatMap wordBytes).toArray⟩ := by simp [big, h]
  rw [hbig, wInts_length]
  show ((words n).flatMap wordBytes).toArray.size = _
  rw [List.size_toArray]
  generalize words n = l
  induction l with
  | nil => rfl
  | cons x l ih => rw [List.flatMap_cons, List.length_append, ih, List.length_cons, show (wordBytes x).length = 4 from rfl]; omega

theorem or_step {x : Int} {k : Nat} (hx : 0 ≤ x ∧ x < 4294967296) (hk : k < 4) :
    ior .u32 (x % 256 ^ k) (ishl .u32 (IntKind.u32.wrap (x / 256 ^ k % 256)) ((8 * k : Nat) : Int)) = x % 256 ^ (k + 1) := by
  obtain ⟨n, rfl⟩ := Int.eq_ofNat_of_zero_le hx.1
  have key : ∀ (p : Nat) (s : Nat), s ≤ 24 → p = 2 ^ s → ior .u32 ((n % p : Nat) : Int) (ishl .u32 (((n / p % 256 : Nat)) : Int) (s : Int)) = ((n % (p * 256) : Nat) : Int) := by
    intro p s hs hp
    have hpos : 0 < p := by rw [hp]; exact Nat.two_pow_pos s
    have hple : p ≤ 16777216 := by rw [hp]; exact Nat.le_trans (Nat.pow_le_pow_right (by decide) hs) (by decide)
    have h1 : n % p < p := Nat.mod_lt _ hpos
    have h2 : n / p % 256 < 256 := Nat.mod_lt _ (by decide)
    have e : ishl .u32 (((n / p % 256 : Nat)) : Int) (s : Int) = ((p * (n / p % 256) : Nat) : Int) := by
      have hmin : min (s : Int).toNat IntKind.u32.bits = s := by simp [IntKind.bits]; omega
      rw [ishl, hmin]
      have : ((n / p % 256 : Nat) : Int) * 2 ^ s = ((p * (n / p % 256) : Nat) : Int) := by
        rw [Int.natCast_mul, hp, Int.natCast_pow, Int.mul_comm]; rfl
      rw [this]
      refine wu32 ?_
      have := Nat.mul_le_mul hple (show n / p % 256 ≤ 255 by omega)
      omega
    have hlt : p * (n / p % 256) < 4294967296 := by
      have := Nat.mul_le_mul hple (show n / p % 256 ≤ 255 by omega)
      omega
    rw [e, ior_u32 (by omega) hlt, Nat.or_comm, hp, ← Nat.two_pow_add_eq_or_of_lt (by rw [← hp]; exact h1), ← hp, Nat.mod_mul, Nat.add_comm]
  have hp : (256 : Int) ^ k = ((256 ^ k : Nat) : Int) := by rw [Int.natCast_pow]; rfl
  have hp' : (256 : Int) ^ (k + 1) = ((256 ^ k * 256 : Nat) : Int) := by rw [← Nat.pow_succ, Int.natCast_pow]; rfl
  have := key (256 ^ k) (8 * k) (by omega) (by rw [Nat.pow_mul])
  rw [hp, hp']
  simp only [← Int.natCast_emod, ← Int.natCast_ediv]
  rw [show (((n / 256 ^ k : Nat) : Int) % 256) = ((n / 256 ^ k % 256 : Nat) : Int) from by rw [Int.natCast_emod]; rfl, wu32 (by omega)]
  exact this

theorem c_words_b (n : Nat) (K : Nat) (h : ¬ n < 18446744073709551616) (hl : (wInts n).length < 1099511627776) :
    CallOK Tryz.prog 123 [.nat n] [] (.slc K 1 0 (wInts n).length) [(K, ⟨95, true, .ints .u32 (wArr n)⟩)] [] := by
  rw [show wArr n = wInts n from if_neg h]
  refine callK (Z := []) tabOK mixedOK Tryz.func123 rfl (by kernel_rfl) (args := [.nat n]) (fk := []) (c := .slc 22 1 0 (wInts n).length) (new := [(22, ⟨95, true, .ints .u32 (wInts n)⟩)]) (upd := []) ?_ rfl (fun _ => K) ?_ ?_
  · exact ⟨rfl, rfl, rfl, rfl, rfl, (fun _ _ h => by cases h), (fun k b h hw => by cases h), rfl, rfl, rfl, rfl⟩
  · exact ⟨(fun q q' b b' h h' hne => by cases h), (fun m m' h1 h2 hne => by simp [keysOf] at h1 h2; omega), (fun _ _ h1 h2 => by simp [keysOf] at h2)⟩
  intro W0 w0 ρ0 hE
  conv => whnf
  rw [big_eq, decide_eq_false h]
  have hs := big_size h
  have eL : IntKind.i64.wrap (((big n).size : Int).tdiv 4) = ((wInts n).length : Int) := by
    rw [hs, show ((4 * (wInts n).length : Nat) : Int) = 4 * ((wInts n).length : Int) from by omega, Int.mul_tdiv_cancel_left _ (by decide), wi64 (by omega)]
  have hb := fun i k hi hk => big_byte (n := n) (i := i) (k := k) h hi hk
  have hw32 := wInts_w32 n
  generalize hw : wInts n = ws at *
  (repeat (first | (refine step_w2 rfl rfl ?_; conv => whnf) | (refine And.intro (by first | decide | omega | (simp only [tl0, dlen, List.length_replicate, List.length_set, List.length_map, List.length_zipWith, List.length_take, List.length_append, List.length_cons, List.length_nil]; omega)) ?_; conv => whnf) | (rw [eL]; conv => whnf)))
  refine SW_loopN hE (fun k => k) [1, 3, 24, 25] [1, 22] (fun m fr hp => ∃ i, m = ws.length - i ∧ i ≤ ws.length ∧ fr = [(1, .ptr 1 0 0 0), (3, .slc 22 1 0 ws.length), (24, .val (.int .i64 ws.length)), (25, .val (.int .i64 (i : Nat)))] ∧ hp = [(1, ⟨32, true, .one [.nat n]⟩), (22, ⟨95, true, .ints .u32 (ws.take i ++ List.replicate (ws.length - i) 0)⟩)]) ws.length ?_ ?_ ?_
  · kernel_rfl
  · exact ⟨0, rfl, by omega, rfl, rfl⟩
  rintro m _ _ ⟨i, rfl, hi, rfl, rfl⟩
  conv => whnf
  refine ⟨fun h => ?_, fun h => ?_⟩
  · have hi' : i < ws.length := by have := of_decide_eq_true h; omega
    conv => whnf
    skip
    have hin : ws.take i ++ List.replicate (ws.length - i) (0 : Int) = ws.take i ++ (ws.getD i 0 % 256 ^ 0) :: List.replicate (ws.length - (i + 1)) 0 := by
      rw [show ws.length - i = (ws.length - (i + 1)) + 1 from by omega, List.replicate_succ]
      congr 2
      rw [Int.pow_zero]; omega
    rw [hin]
    have hlt : (ws.take i).length = i := by rw [List.length_take]; omega
    have hget : ∀ (a : Int) r, (ws.take i ++ a :: r).getD i 0 = a := fun a r => by
      rw [getD_append, hlt, if_neg (by omega), Nat.sub_self]; rfl
    have hset : ∀ (a v : Int) r, (ws.take i ++ a :: r).set i v = ws.take i ++ v :: r := fun a v r => by
      rw [List.set_append_right _ _ (by omega), hlt, Nat.sub_self]; rfl
    have hx := hw32 i
    refine SW_loopN hE (fun k => k) [1, 3, 4, 24, 25, 28] [1, 22] (fun m fr hp => ∃ k, m = 4 - k ∧ k ≤ 4 ∧ fr = [(1, .ptr 1 0 0 0), (3, .slc 22 1 0 ws.length), (4, .val (.int .i64 (i : Nat))), (24, .val (.int .i64 ws.length)), (25, .val (.int .i64 (i : Nat))), (28, .val (.int .i64 (k : Nat)))] ∧ hp = [(1, ⟨32, true, .one [.nat n]⟩), (22, ⟨95, true, .ints .u32 (ws.take i ++ (ws.getD i 0 % 256 ^ k) :: List.replicate (ws.length - (i + 1)) 0)⟩)]) 4 ?_ ?_ ?_
    · kernel_rfl
    · exact ⟨0, rfl, by omega, rfl, rfl⟩
    rintro m _ _ ⟨k, rfl, hk, rfl, rfl⟩
    conv => whnf
    refine ⟨fun h => ?_, fun h => ?_⟩
    · have hk' : k < 4 := by have := of_decide_eq_true h; omega
      conv => whnf
      have f1 : IntKind.i64.wrap (4 * (i : Int)) = ((4 * i : Nat) : Int) := by rw [wrap_i64 (by omega) (by omega)]; omega
      have f2 : IntKind.i64.wrap (((4 * i : Nat) : Int) + (k : Int)) = ((4 * i + k : Nat) : Int) := by rw [wrap_i64 (by omega) (by omega)]; omega
      have f3 : IntKind.i64.wrap (8 * (k : Int)) = ((8 * k : Nat) : Int) := by rw [wrap_i64 (by omega) (by omega)]; omega
      have f4 : IntKind.i64.wrap ((k : Int) + 1) = ((k + 1 : Nat) : Int) := by rw [wrap_i64 (by omega) (by omega)]; omega
      have hll : (ws.take i ++ (ws.getD i 0 % 256 ^ k) :: List.replicate (ws.length - (i + 1)) 0).length = ws.length := by
        simp only [List.length_append, List.length_cons, List.length_replicate, hlt]; omega
      have hoff : 0 + (i : Int).toNat < (ws.take i ++ (ws.getD i 0 % 256 ^ k) :: List.replicate (ws.length - (i + 1)) 0).length := by rw [hll]; omega
      have f5 : (((big n).data.getD ((4 * i + k : Nat) : Int).toNat 0).toNat : Int) = ws.getD i 0 / 256 ^ k % 256 := hb i k hi' hk'
      have f6 := or_step hx hk'
      (repeat ((first | refine step_i (by kernel_rfl) ?_ | refine And.intro (by first | decide | omega | (simp only [tl0, dlen, List.length_replicate, List.length_set, List.length_map, List.length_zipWith, List.length_take, List.length_append, List.length_cons, List.length_nil]; omega)) ?_ | rw [show 0 + (i : Int).toNat = i from by omega] | rw [hget] | rw [f1] | rw [f2] | rw [f3]); conv => whnf))
      rw [hset, f5, f6, f4]
      exact ⟨4 - (k + 1), fun k => k, [1, 3, 4, 24, 25, 28], [1, 22], by omega, by kernel_rfl, k + 1, rfl, by omega, rfl, rfl⟩
    · have hk' : k = 4 := by have := of_decide_eq_false h; omega
      subst hk'
      have f4 : IntKind.i64.wrap ((i : Int) + 1) = ((i + 1 : Nat) : Int) := by rw [wrap_i64 (by omega) (by omega)]; omega
      have hfull : ws.take i ++ (ws.getD i 0 % 256 ^ 4) :: List.replicate (ws.length - (i + 1)) 0 = ws.take (i + 1) ++ List.replicate (ws.length - (i + 1)) 0 := by
        rw [show (256 : Int) ^ 4 = 4294967296 from rfl, Int.emod_eq_of_lt hx.1 hx.2, List.take_add_one, List.append_assoc]
        have : ws[i]? = some (ws.getD i 0) := by rw [List.getD_eq_getElem?_getD, List.getElem?_eq_getElem hi']; rfl
        rw [this]; rfl
      rw [hfull]
      conv => whnf
      (repeat (first | (rw [f4]; conv => whnf)))
      exact ⟨ws.length - (i + 1), fun k => k, [1, 3, 24, 25], [1, 22], by omega, by kernel_rfl, i + 1, rfl, by omega, rfl, rfl⟩
  · have hi' : i = ws.length := by have := of_decide_eq_false h; omega
    subst hi'
    conv => whnf
    rw [List.take_length, Nat.sub_self, List.replicate_zero, List.append_nil]
    exact ⟨Recast.refl _, one_get rfl, (fun _ _ h => by cases h)⟩

theorem c_words (n : Nat) (K : Nat) (hl : (wInts n).length < 1099511627776) :
    CallOK Tryz.prog 123 [.nat n] [] (.slc K 1 0 (wInts n).length) [(K, ⟨95, true, .ints .u32 (wArr n)⟩)] [] := by
  by_cases h : n < 18446744073709551616
  · exact c_words_s n K h
  · exact c_words_b n K h hl
end Go.Proofs.YtkpfineikahgfaaGreatDoor

namespace Go.Proofs.YtkpfineikahgfaaGreatDoor
open Go.Sx
set_option linter.unusedSimpArgs false
set_option linter.unusedVariables false
set_option maxRecDepth 100000
set_option maxHeartbeats 4000000

theorem c_sign (z : Int) : CallOK Tryz.prog 205 [.val (.int .i64 z)] [] (.val (.int .i64 z.sign)) [] [] := by
  refine callV (Z := []) tabOK mixedOK Tryz.func205 rfl (by kernel_rfl) rfl rfl (by kernel_rfl) rfl ?_
  intro W0 w0 ρ0 hE
  conv => whnf
  skip
  have e : (if (if z < 1 then z else 1) > -1 then (if z < 1 then z else 1) else -1) = z.sign := by
    rcases Int.lt_trichotomy z 0 with h | h | h
    · rw [Int.sign_eq_neg_one_of_neg h]; split <;> (try split at *) <;> omega
    · subst h; rfl
    · rw [Int.sign_eq_one_of_pos h]; split <;> (try split at *) <;> omega
  rw [e]
  exact Recast.refl _

theorem valI_diff {xs ys : List Int} {j : Nat} : ∀ {n : Nat}, j ≤ n → (∀ i, j ≤ i → i < n → xs.getD i 0 = ys.getD i 0) → valI xs n - valI ys n = valI xs j - valI ys j
  | 0, h, _ => by obtain rfl : j = 0 := by omega
                  rfl
  | n + 1, h, he => by
    by_cases hj : j = n + 1
    · rw [hj]
    · have := valI_diff (n := n) (by omega) (fun i h1 h2 => he i h1 (by omega))
      rw [valI, valI, he n (by omega) (by omega)]; omega

theorem valI_lt_of {xs ys : List Int} (hx : W32 xs) (hy : W32 ys) {j : Nat} (h : xs.getD j 0 < ys.getD j 0) : valI xs (j + 1) < valI ys (j + 1) := by
  have h1 := valI_lt hx j
  have h2 := valI_nonneg hy j
  have h3 : (xs.getD j 0 + 1) * 4294967296 ^ j ≤ ys.getD j 0 * 4294967296 ^ j := Int.mul_le_mul_of_nonneg_right (by omega) (Int.le_of_lt (powW_pos j))
  rw [Int.add_mul, Int.one_mul] at h3
  rw [valI, valI]; omega

theorem valI_lt_len {xs ys : List Int} (hx : W32 xs) (hy : W32 ys) {n m : Nat} (h : n < m) (ht : ys.getD (m - 1) 0 ≠ 0) : valI xs n < valI ys m := by
  obtain ⟨j, rfl⟩ : ∃ j, m = j + 1 := ⟨m - 1, by omega⟩
  have h1 := valI_lt hx n
  have h2 := valI_ge hy (k := j) (by simpa using ht)
  have h3 : (4294967296 : Int) ^ n ≤ 4294967296 ^ j := by
    have : (4294967296 : Nat) ^ n ≤ 4294967296 ^ j := Nat.pow_le_pow_right (by decide) (by omega)
    rw [← natPowW, ← natPowW]; exact Int.ofNat_le.2 this
  omega

/-- Words from the top on. -/
theorem c_cmp (xs ys : List Int) (n m : Nat) (hn : n ≤ xs.length) (hm : m ≤ ys.length) (hxl : xs.length < 4611686018427387904) (hyl : ys.length < 4611686018427387904) (hx : W32 xs) (hy : W32 ys)
    (hxt : n = 0 ∨ xs.getD (n - 1) 0 ≠ 0) (hyt : m = 0 ∨ ys.getD (m - 1) 0 ≠ 0) (K L : Nat) (wr wr' : Bool) :
    CallOK Tryz.prog 122 [.slc K 1 0 n, .slc L 1 0 m] [(K, ⟨95, wr, .ints .u32 xs⟩), (L, ⟨95, wr', .ints .u32 ys⟩)] (.val (.int .i64 (valI xs n - valI ys m).sign)) [] [] := by
  refine CallOK.anyWr ?_
  refine callK (Z := []) tabOK mixedOK Tryz.func122 rfl (by kernel_rfl) (args := [.slc 0 1 0 n, .slc 1 1 0 m]) (fk := [(0, ⟨95, false, .ints .u32 xs⟩), (1, ⟨95, false, .ints .u32 ys⟩)]) (c := .val (.int .i64 (valI xs n - valI ys m).sign)) (new := []) (upd := []) (ShapeOK.of rfl rfl rfl rfl rfl rfl rfl rfl rfl rfl rfl) rfl (renBy [(0, K), (1, L)]) (NamesOK.ro rfl) ?_
  intro W0 w0 ρ0 hE
  conv => whnf
  by_cases hnm : n = m
  · subst hnm
    have t1 : (((n : Nat) : Int) != (n : Nat)) = false := by simp
    have e0 : IntKind.i64.wrap ((n : Int) - 1) = (n : Int) - 1 := wrap_i64 (by omega) (by omega)
    (repeat (first | (refine step_w2 rfl rfl ?_; conv => whnf) | (rw [bne_self_eq_false]; conv => whnf) | (rw [e0]; conv => whnf)))
    refine SW_loopN hE (fun k => k) [0, 1, 5] [0, 1] (fun m fr hp => m ≤ n ∧ (∀ i, m ≤ i → i < n → xs.getD i 0 = ys.getD i 0) ∧ fr = [(0, .slc 0 1 0 n), (1, .slc 1 1 0 n), (5, .val (.int .i64 ((m : Int) - 1)))] ∧ hp = [(0, ⟨95, false, .ints .u32 xs⟩), (1, ⟨95, false, .ints .u32 ys⟩)]) n ?_ ?_ ?_
    · kernel_rfl
    · exact ⟨by omega, (fun i h1 h2 => by omega), rfl, rfl⟩
    rintro j _ _ ⟨hj, heq, rfl, rfl⟩
    rw [valI_diff (j := j) hj heq]
    by_cases h0 : j = 0
    · subst h0
      have t2 : decide (((0 : Nat) : Int) - 1 ≥ 0) = false := rfl
      conv => whnf
      (repeat (first | (refine step_w2 rfl rfl ?_; conv => whnf)))
      exact ⟨Recast.refl _, (fun _ _ h => by cases h), (fun _ _ h => by cases h)⟩
    · obtain ⟨i, rfl⟩ : ∃ i, j = i + 1 := ⟨j - 1, by omega⟩
      have ei : (((i + 1 : Nat) : Int) - 1) = (i : Int) := by omega
      rw [ei]
      have t2 : decide ((i : Int) ≥ 0) = true := decide_eq_true (by omega)
      have e1 : 0 + (i : Int).toNat = i := by omega
      have e2 : IntKind.i64.wrap ((i : Int) - 1) = (i : Int) - 1 := wrap_i64 (by omega) (by omega)
      by_cases hne : xs.getD i 0 = ys.getD i 0
      · have t3 : (xs.getD i 0 != ys.getD i 0) = false := by rw [hne]; exact bne_self_eq_false _
        conv => whnf
        (repeat ((first | refine step_w1 rfl rfl ?_ | refine step_w2 rfl rfl ?_ | refine step_i (by kernel_rfl) ?_ | refine And.intro (by first | decide | omega | (simp only [tl0, dlen, List.length_replicate, List.length_set, List.length_map, List.length_zipWith, List.length_take, List.length_append, List.length_cons, List.length_nil]; omega)) ?_ | rw [t2] | rw [e1] | rw [t3] | rw [e2]); conv => whnf))
        exact ⟨i, fun k => k, [0, 1, 5], [0, 1], by omega, by kernel_rfl, by omega, (fun q h1 h2 => by
          by_cases hq : q = i
          · rw [hq]; exact hne
          · exact heq q (by omega) h2), rfl, rfl⟩
      · have t3 : (xs.getD i 0 != ys.getD i 0) = true := bne_iff_ne.2 hne
        by_cases hlt : xs.getD i 0 < ys.getD i 0
        · have t4 : decide (xs.getD i 0 < ys.getD i 0) = true := decide_eq_true hlt
          have := valI_lt_of hx hy hlt
          rw [Int.sign_eq_neg_one_of_neg (by omega)]
          conv => whnf
          (repeat ((first | refine step_w1 rfl rfl ?_ | refine step_i (by kernel_rfl) ?_ | refine And.intro (by first | decide | omega | (simp only [tl0, dlen, List.length_replicate, List.length_set, List.length_map, List.length_zipWith, List.length_take, List.length_append, List.length_cons, List.length_nil]; omega)) ?_ | rw [t2] | rw [e1] | rw [t3] | rw [t4]); conv => whnf))
          exact ⟨Recast.refl _, (fun _ _ h => by cases h), (fun _ _ h => by cases h)⟩
        · have t4 : decide (xs.getD i 0 < ys.getD i 0) = false := decide_eq_false hlt
          have := valI_lt_of hy hx (j := i) (by omega)
          rw [Int.sign_eq_one_of_pos (by omega)]
          conv => whnf
          (repeat ((first | refine step_w1 rfl rfl ?_ | refine step_w2 rfl rfl ?_ | refine step_i (by kernel_rfl) ?_ | refine And.intro (by first | decide | omega | (simp only [tl0, dlen, List.length_replicate, List.length_set, List.length_map, List.length_zipWith, List.length_take, List.length_append, List.length_cons, List.length_nil]; omega)) ?_ | rw [t2] | rw [e1] | rw [t3] | rw [t4]); conv => whnf))
          exact ⟨Recast.refl _, (fun _ _ h => by cases h), (fun _ _ h => by cases h)⟩
  · have t1 : (((n : Nat) : Int) != (m : Nat)) = true := bne_iff_ne.2 (by omega)
    have e0 : IntKind.i64.wrap ((n : Int) - m) = (n : Int) - m := wrap_i64 (by omega) (by omega)
    have k1 := c_sign ((n : Int) - m)
    have e : ((n : Int) - m).sign = (valI xs n - valI ys m).sign := by
      by_cases h : n < m
      · have := valI_lt_len hx hy h (hyt.resolve_left (by omega))
        rw [Int.sign_eq_neg_one_of_neg (by omega), Int.sign_eq_neg_one_of_neg (by omega)]
      · have := valI_lt_len hy hx (show m < n by omega) (hxt.resolve_left (by omega))
        rw [Int.sign_eq_one_of_pos (by omega), Int.sign_eq_one_of_pos (by omega)]
    rw [e] at k1
    (repeat ((first | refine step_w1 rfl rfl ?_ | refine g_c (by assumption) ?_ | rw [t1] | rw [e0]); conv => whnf))
    exact ⟨Recast.refl _, (fun _ _ h => by cases h), (fun _ _ h => by cases h)⟩

theorem wt_top (n : Nat) : (wInts n).length = 0 ∨ (wArr n).getD ((wInts n).length - 1) 0 ≠ 0 := by
  by_cases h : n = 0
  · subst h; exact .inl rfl
  · obtain ⟨h1, h2⟩ := wInts_top h
    exact .inr (by rw [wArr_get (by omega)]; exact h2)

theorem wlen_sz {n M : Nat} (h : sz n ≤ 32 * M) : (wInts n).length ≤ M := len_le_of (by
  have := sz_le.1 h
  rwa [Nat.pow_mul] at this)

theorem wArr_len2 (n : Nat) {M : Nat} (h : (wInts n).length ≤ M) (h2 : 2 ≤ M) : (wArr n).length ≤ M := by
  unfold wArr
  split
  · exact h2
  · exact h

theorem c_Cmp (a b : Nat) (ha : (wInts a).length < 1099511627776) (hb : (wInts b).length < 1099511627776) :
    CallOK Tryz.prog 41 [.nat a, .nat b] [] (.val (.int .i64 ((a : Int) - b).sign)) [] [] := by
  by_cases h : a < 18446744073709551616 ∧ b < 18446744073709551616
  · exact s_Cmp a b h.1 h.2
  · have ka := c_words a 1001 ha
    have kb := c_words b 1002 hb
    have kc := c_cmp (wArr a) (wArr b) (wInts a).length (wInts b).length (wArr_len a) (wArr_len b) (by have := wArr_len2 a (M := 1099511627776) (by omega) (by omega); omega) (by have := wArr_len2 b (M := 1099511627776) (by omega) (by omega); omega) (wArr_w32 a) (wArr_w32 b) (wt_top a) (wt_top b) 1001 1002 true true
    rw [wArr_val, wArr_val] at kc
    refine callV (Z := []) tabOK mixedOK Tryz.func41 rfl (by kernel_rfl) rfl rfl (by kernel_rfl) rfl ?_
    intro W0 w0 ρ0 hE
    conv => whnf
    by_cases h1 : a < 18446744073709551616
    · rw [big_eq, decide_eq_true h1]
      (repeat (first | (refine step_w1 rfl rfl ?_; conv => whnf) | (refine g_o (op_pickT rfl (ev_ok rfl) (ev_ok rfl)) ?_; conv => whnf)))
      rw [big_eq, decide_eq_false (show ¬ b < 18446744073709551616 by omega)]
      (repeat ((first | refine step_w2 rfl rfl ?_ | refine step_i (by kernel_rfl) ?_ | refine g_cn (by assumption) rfl ?_ | refine g_c2 (by assumption) rfl rfl ?_); conv => whnf)); exact Recast.refl _
    · rw [big_eq, decide_eq_false h1]
      (repeat ((first | refine step_w2 rfl rfl ?_ | refine step_i (by kernel_rfl) ?_ | refine g_cn (by assumption) rfl ?_ | refine g_c2 (by assumption) rfl rfl ?_ | refine g_o (op_pickF rfl (ev_ok rfl) (ev_ok rfl)) ?_); conv => whnf)); exact Recast.refl _
end Go.Proofs.YtkpfineikahgfaaGreatDoor

namespace Go.Proofs.YtkpfineikahgfaaGreatDoor
open Go.Sx
set_option linter.unusedSimpArgs false
set_option linter.unusedVariables false
set_option maxRecDepth 100000
set_option maxHeartbeats 4000000

theorem wInts_valge (n : Nat) {k : Nat} (h : (wInts n).length ≤ k) : valI (wInts n) k = n := by
  rw [valI_zeros (k := (wInts n).length) (fun i h1 _ => getD_ge h1) h, wInts_val]

theorem wArr_take (n : Nat) : (wArr n).take (wInts n).length = wInts n := by
  refine List.ext_getElem? fun i => ?_
  have hl := wArr_len n
  by_cases hi : i < (wInts n).length
  · have h := wArr_get (n := n) hi
    rw [List.getD_eq_getElem?_getD, List.getD_eq_getElem?_getD, List.getElem?_eq_getElem hi, List.getElem?_eq_getElem (show i < (wArr n).length by omega)] at h
    rw [List.getElem?_take, if_pos hi, List.getElem?_eq_getElem hi, List.getElem?_eq_getElem (show i < (wArr n).length by omega)]
    simpa using h
  · rw [List.getElem?_eq_none (l := wInts n) (by omega), List.getElem?_eq_none (by rw [List.length_take]; omega)]

theorem dcopy_words (n : Nat) : dcopy (.ints .u32 (List.replicate ((wInts n).length + 1) 0)) 0 (.ints .u32 (wArr n)) 0 (wInts n).length = some (.ints .u32 (wInts n ++ [0])) := by
  simp only [dcopy, if_true, List.take_zero, List.nil_append, List.drop_zero, Nat.zero_add, wArr_take, List.drop_replicate]
  rw [show (wInts n).length + 1 - (wInts n).length = 1 from by omega]
  rfl

theorem w32_snoc {xs : List Int} (h : W32 xs) : W32 (xs ++ [0]) := by
  intro i
  rw [getD_append]
  split
  · exact h i
  · cases i - xs.length with
    | zero => decide
    | succ j => simp
theorem getD_snoc (xs : List Int) (j : Nat) : (xs ++ [0]).getD j 0 = xs.getD j 0 := by
  rw [getD_append]
  split
  · rfl
  · rename_i h
    rw [getD_ge (xs := xs) (by omega)]
    cases j - xs.length <;> simp

theorem add_step {X Y out : List Int} {i o w c : Nat} (hi : i < out.length) (ho : out.getD i 0 = o) (hX : X.getD i 0 = o) (hY : Y.getD i 0 = w) (hv : valI out i + c * 4294967296 ^ i = valI X i + valI Y i) :
    valI (out.set i (((o + w + c) % 4294967296 : Nat) : Int)) (i + 1) + (((o + w + c) / 4294967296 : Nat) : Int) * 4294967296 ^ (i + 1) = valI X (i + 1) + valI Y (i + 1) := by
  rw [valI, valI, valI, valI_set_ge (Nat.le_refl i), getD_set, if_pos ⟨rfl, hi⟩, hX, hY, Int.pow_succ]
  have hd : (((o + w + c) % 4294967296 : Nat) : Int) = (o : Int) + w + c - (((o + w + c) / 4294967296 : Nat) : Int) * 4294967296 := by omega
  rw [hd]
  generalize (((o + w + c) / 4294967296 : Nat) : Int) = q
  generalize (4294967296 : Int) ^ i = P at *
  grind

theorem add_fin {x y lx ly c : Nat} {v : Int} (hc : c ≤ 1) (h0 : 0 ≤ v) (hv : v + c * 4294967296 ^ (lx + 1) = x + y) (hx : x < 4294967296 ^ lx) (hy : y < 4294967296 ^ ly) (hl : ly ≤ lx) : v.toNat = x + y := by
  have h1 : 4294967296 ^ ly ≤ 4294967296 ^ lx := Nat.pow_le_pow_right (by decide) hl
  have h2 : (4294967296 : Int) ^ (lx + 1) = ((4294967296 ^ lx : Nat) : Int) * 4294967296 := by rw [natPowW, Int.pow_succ]
  rw [h2] at hv
  have hc' : c = 0 ∨ c = 1 := by omega
  rcases hc' with rfl | rfl <;> omega


theorem n_Add (a b : Nat) (ha : (wInts a).length < 549755813888) (hb : (wInts b).length < 549755813888) :
    CallOK Tryz.prog 203 [.nat a, .nat b] [] (.nat (a + b)) [] [] := by
  by_cases hs : a + b < 18446744073709551616
  · exact s_Add a b hs
  · have ka := c_words a 1001 (by omega)
    have kb := c_words b 1002 (by omega)
    refine callV (Z := []) tabOK mixedOK Tryz.func203 rfl (by kernel_rfl) rfl rfl (by kernel_rfl) rfl ?_
    intro W0 w0 ρ0 hE
    conv => whnf
    by_cases h1 : a < 18446744073709551616
    · rw [big_eq, decide_eq_true h1]
      (repeat (first | (refine step_w1 rfl rfl ?_; conv => whnf) | (refine g_o (op_pickT rfl (ev_ok rfl) (ev_ok rfl)) ?_; conv => whnf)))
      by_cases h2 : b < 18446744073709551616
      · rw [big_eq, decide_eq_true h2]
        have k64 := c_Add64 a b h1 h2
        rw [show (a + b) / 18446744073709551616 = 1 from by omega] at k64
        (repeat ((first | refine step_w1 rfl rfl ?_ | refine step_w2 rfl rfl ?_ | refine step_i (by kernel_rfl) ?_ | refine g_c (by assumption) ?_ | refine g_cn (by assumption) rfl ?_ | rw [low_small h1] | rw [low_small h2]); conv => whnf))
        skip
        by_cases hl : (wInts a).length < (wInts b).length
        · rw [decide_eq_true (show ((wInts a).length : Int) < ((wInts b).length : Int) by omega)]
          have ew : IntKind.i64.wrap (((wInts b).length : Int) + 1) = (((wInts b).length + 1 : Nat) : Int) := by rw [wrap_i64 (by omega) (by omega)]; omega
          (repeat (first | (refine step_w1 rfl rfl ?_; conv => whnf) | (refine And.intro (by first | decide | omega | (simp only [tl0, dlen, List.length_replicate, List.length_set, List.length_map, List.length_zipWith, List.length_take, List.length_append, List.length_cons, List.length_nil]; omega)) ?_; conv => whnf) | (rw [ew]; conv => whnf)))
          refine ⟨_, [(47, ⟨95, true, .ints .u32 (List.replicate ((wInts b).length + 1) 0)⟩), (1002, ⟨95, true, .ints .u32 (wArr b)⟩)], [], [(47, ⟨95, true, .ints .u32 (wInts b ++ [0])⟩)], op_copy (c := (wInts b).length) (n := (wInts b).length + 1) rfl rfl rfl (ev_ok rfl) (ev_ok rfl) (tabOK.get (t := 177) rfl) rfl (tabOK.get (t := 95) rfl) (List.mem_cons_self ..) (List.mem_cons_of_mem _ (List.mem_cons_self ..)) rfl rfl rfl rfl (by simp [dlen]) (by show 0 + _ ≤ (wArr b).length; have := wArr_len b; omega) (Nat.min_eq_left (Nat.le_succ _)).symm (dcopy_words b), two_fk rfl rfl, nil_new, one_upd (List.mem_cons_self ..) rfl rfl rfl, ?_⟩
          conv => whnf
          skip
          refine SW_loopN hE (fun k => k) [4, 8, 9, 10, 52, 53] [4, 1001, 47] (fun m fr hp => ∃ (i : Nat) (out : List Int) (c : Nat), m = (wInts b).length + 1 - i ∧ i ≤ (wInts b).length + 1 ∧ c ≤ 1 ∧ out.length = (wInts b).length + 1 ∧ W32 out ∧ (∀ j, i ≤ j → out.getD j 0 = (wInts b).getD j 0) ∧ valI out i + c * 4294967296 ^ i = valI (wInts b) i + valI (wInts a) i ∧
            fr = [(4, .ptr 4 0 0 0), (8, .slc 1001 1 0 (wInts a).length), (9, .slc 47 1 0 ((wInts b).length + 1)), (10, .val (.int .u32 c)), (52, .val (.int .i64 (((wInts b).length + 1 : Nat)))), (53, .val (.int .i64 i))] ∧ hp = [(4, ⟨32, true, .one [.nat 0]⟩), (1001, ⟨95, true, .ints .u32 (wArr a)⟩), (47, ⟨95, true, .ints .u32 out⟩)]) ((wInts b).length + 1) ?_ ?_ ?_
          · kernel_rfl
          · exact ⟨0, wInts b ++ [0], 0, by omega, by omega, by omega, by simp, w32_snoc (wInts_w32 b), (fun j _ => getD_snoc _ j), by simp [valI], rfl, rfl⟩
          rintro m _ _ ⟨i, out, c, rfl, hi, hc, hlen, hw, hrest, hval, rfl, rfl⟩
          by_cases hlt : i < (wInts b).length + 1
          · have t1 : decide ((i : Int) < (((wInts b).length + 1 : Nat) : Int)) = true := decide_eq_true (by omega)
            have e1 : 0 + (i : Int).toNat = i := by omega
            have e2 : IntKind.i64.wrap ((i : Int) + 1) = ((i + 1 : Nat) : Int) := by rw [wrap_i64 (by omega) (by omega)]; omega
            obtain ⟨o, ho⟩ := Int.eq_ofNat_of_zero_le (hw i).1
            obtain ⟨w, hww⟩ := Int.eq_ofNat_of_zero_le (wInts_w32 a i).1
            have ho2 := (hw i).2
            have hw2 := (wInts_w32 a i).2
            have k32 := c_Add32 o w c (by omega) (by omega) hc
            have hX : (wInts b).getD i 0 = o := by rw [← hrest i (Nat.le_refl _)]; exact ho
            have hstep := add_step (by omega) ho hX hww hval
            have hc' : (o + w + c) / 4294967296 ≤ 1 := by omega
            have hrest' : ∀ j, i + 1 ≤ j → (out.set i (((o + w + c) % 4294967296 : Nat) : Int)).getD j 0 = (wInts b).getD j 0 := fun j hj => by
              rw [getD_set, if_neg (by omega)]; exact hrest j (by omega)
            by_cases hy : i < (wInts a).length
            · have t2 : decide ((i : Int) < ((wInts a).length : Int)) = true := decide_eq_true (by omega)
              have hyl := wArr_len a
              have e3 : (wArr a).getD i 0 = (w : Int) := by rw [wArr_get hy]; exact hww
              conv => whnf
              (repeat ((first | refine step_w1 rfl rfl ?_ | refine And.intro (by first | decide | omega | (simp only [tl0, dlen, List.length_replicate, List.length_set, List.length_map, List.length_zipWith, List.length_take, List.length_append, List.length_cons, List.length_nil]; omega)) ?_ | refine g_c (by assumption) ?_ | rw [t1] | rw [t2] | rw [e1] | rw [e3] | rw [ho]); conv => whnf))
              rw [e2]
              exact ⟨(wInts b).length + 1 - (i + 1), fun k => k, [4, 8, 9, 10, 52, 53], [4, 1001, 47], by omega, by kernel_rfl, i + 1, _, _, rfl, by omega, hc', by simpa using hlen, hw.set (by omega) (by omega), hrest', hstep, rfl, rfl⟩
            · have t2 : decide ((i : Int) < ((wInts a).length : Int)) = false := decide_eq_false (by omega)
              have hw0 : w = 0 := by have := getD_ge (xs := wInts a) (i := i) (by omega); omega
              subst hw0
              conv => whnf
              (repeat ((first | refine step_w1 rfl rfl ?_ | refine step_w2 rfl rfl ?_ | refine And.intro (by first | decide | omega | (simp only [tl0, dlen, List.length_replicate, List.length_set, List.length_map, List.length_zipWith, List.length_take, List.length_append, List.length_cons, List.length_nil]; omega)) ?_ | refine g_c (by assumption) ?_ | rw [t1] | rw [t2] | rw [e1] | rw [ho]); conv => whnf))
              rw [e2]
              exact ⟨(wInts b).length + 1 - (i + 1), fun k => k, [4, 8, 9, 10, 52, 53], [4, 1001, 47], by omega, by kernel_rfl, i + 1, _, _, rfl, by omega, hc', by simpa using hlen, hw.set (by omega) (by omega), hrest', hstep, rfl, rfl⟩
          · have hi' : i = (wInts b).length + 1 := by omega
            subst hi'
            have t1 : decide ((((wInts b).length + 1 : Nat) : Int) < (((wInts b).length + 1 : Nat) : Int)) = false := decide_eq_false (by omega)
            rw [wInts_valge b (by omega), wInts_valge a (by omega)] at hval
            have hsum : (valI out ((wInts b).length + 1)).toNat = a + b := by
              have := add_fin hc (valI_nonneg hw _) hval (lt_of_len b) (lt_of_len a) (by omega)
              omega
            have kof := c_of out ((wInts b).length + 1) (by omega) (by omega) hw 47 true
            rw [hsum] at kof
            conv => whnf
            (repeat (first | (refine step_w2 rfl rfl ?_; conv => whnf) | (refine g_c1 (by assumption) rfl ?_; conv => whnf) | (rw [t1]; conv => whnf)))
            exact Recast.refl _
        · rw [decide_eq_false (show ¬ ((wInts a).length : Int) < ((wInts b).length : Int) by omega)]
          have ew : IntKind.i64.wrap (((wInts a).length : Int) + 1) = (((wInts a).length + 1 : Nat) : Int) := by rw [wrap_i64 (by omega) (by omega)]; omega
          (repeat (first | (refine step_w2 rfl rfl ?_; conv => whnf) | (refine And.intro (by first | decide | omega | (simp only [tl0, dlen, List.length_replicate, List.length_set, List.length_map, List.length_zipWith, List.length_take, List.length_append, List.length_cons, List.length_nil]; omega)) ?_; conv => whnf) | (rw [ew]; conv => whnf)))
          refine ⟨_, [(47, ⟨95, true, .ints .u32 (List.replicate ((wInts a).length + 1) 0)⟩), (1001, ⟨95, true, .ints .u32 (wArr a)⟩)], [], [(47, ⟨95, true, .ints .u32 (wInts a ++ [0])⟩)], op_copy (c := (wInts a).length) (n := (wInts a).length + 1) rfl rfl rfl (ev_ok rfl) (ev_ok rfl) (tabOK.get (t := 177) rfl) rfl (tabOK.get (t := 95) rfl) (List.mem_cons_self ..) (List.mem_cons_of_mem _ (List.mem_cons_self ..)) rfl rfl rfl rfl (by simp [dlen]) (by show 0 + _ ≤ (wArr a).length; have := wArr_len a; omega) (Nat.min_eq_left (Nat.le_succ _)).symm (dcopy_words a), two_fk rfl rfl, nil_new, one_upd (List.mem_cons_self ..) rfl rfl rfl, ?_⟩
          conv => whnf
          skip
          refine SW_loopN hE (fun k => k) [4, 8, 9, 10, 52, 53] [4, 1002, 47] (fun m fr hp => ∃ (i : Nat) (out : List Int) (c : Nat), m = (wInts a).length + 1 - i ∧ i ≤ (wInts a).length + 1 ∧ c ≤ 1 ∧ out.length = (wInts a).length + 1 ∧ W32 out ∧ (∀ j, i ≤ j → out.getD j 0 = (wInts a).getD j 0) ∧ valI out i + c * 4294967296 ^ i = valI (wInts a) i + valI (wInts b) i ∧
            fr = [(4, .ptr 4 0 0 0), (8, .slc 1002 1 0 (wInts b).length), (9, .slc 47 1 0 ((wInts a).length + 1)), (10, .val (.int .u32 c)), (52, .val (.int .i64 (((wInts a).length + 1 : Nat)))), (53, .val (.int .i64 i))] ∧ hp = [(4, ⟨32, true, .one [.nat 0]⟩), (1002, ⟨95, true, .ints .u32 (wArr b)⟩), (47, ⟨95, true, .ints .u32 out⟩)]) ((wInts a).length + 1) ?_ ?_ ?_
          · kernel_rfl
          · exact ⟨0, wInts a ++ [0], 0, by omega, by omega, by omega, by simp, w32_snoc (wInts_w32 a), (fun j _ => getD_snoc _ j), by simp [valI], rfl, rfl⟩
          rintro m _ _ ⟨i, out, c, rfl, hi, hc, hlen, hw, hrest, hval, rfl, rfl⟩
          by_cases hlt : i < (wInts a).length + 1
          · have t1 : decide ((i : Int) < (((wInts a).length + 1 : Nat) : Int)) = true := decide_eq_true (by omega)
            have e1 : 0 + (i : Int).toNat = i := by omega
            have e2 : IntKind.i64.wrap ((i : Int) + 1) = ((i + 1 : Nat) : Int) := by rw [wrap_i64 (by omega) (by omega)]; omega
            obtain ⟨o, ho⟩ := Int.eq_ofNat_of_zero_le (hw i).1
            obtain ⟨w, hww⟩ := Int.eq_ofNat_of_zero_le (wInts_w32 b i).1
            have ho2 := (hw i).2
            have hw2 := (wInts_w32 b i).2
            have k32 := c_Add32 o w c (by omega) (by omega) hc
            have hX : (wInts a).getD i 0 = o := by rw [← hrest i (Nat.le_refl _)]; exact ho
            have hstep := add_step (by omega) ho hX hww hval
            have hc' : (o + w + c) / 4294967296 ≤ 1 := by omega
            have hrest' : ∀ j, i + 1 ≤ j → (out.set i (((o + w + c) % 4294967296 : Nat) : Int)).getD j 0 = (wInts a).getD j 0 := fun j hj => by
              rw [getD_set, if_neg (by omega)]; exact hrest j (by omega)
            by_cases hy : i < (wInts b).length
            · have t2 : decide ((i : Int) < ((wInts b).length : Int)) = true := decide_eq_true (by omega)
              have hyl := wArr_len b
              have e3 : (wArr b).getD i 0 = (w : Int) := by rw [wArr_get hy]; exact hww
              conv => whnf
              (repeat ((first | refine step_w1 rfl rfl ?_ | refine And.intro (by first | decide | omega | (simp only [tl0, dlen, List.length_replicate, List.length_set, List.length_map, List.length_zipWith, List.length_take, List.length_append, List.length_cons, List.length_nil]; omega)) ?_ | refine g_c (by assumption) ?_ | rw [t1] | rw [t2] | rw [e1] | rw [e3] | rw [ho]); conv => whnf))
              rw [e2]
              exact ⟨(wInts a).length + 1 - (i + 1), fun k => k, [4, 8, 9, 10, 52, 53], [4, 1002, 47], by omega, by kernel_rfl, i + 1, _, _, rfl, by omega, hc', by simpa using hlen, hw.set (by omega) (by omega), hrest', hstep, rfl, rfl⟩
            · have t2 : decide ((i : Int) < ((wInts b).length : Int)) = false := decide_eq_false (by omega)
              have hw0 : w = 0 := by have := getD_ge (xs := wInts b) (i := i) (by omega); omega
              subst hw0
              conv => whnf
              (repeat ((first | refine step_w1 rfl rfl ?_ | refine step_w2 rfl rfl ?_ | refine And.intro (by first | decide | omega | (simp only [tl0, dlen, List.length_replicate, List.length_set, List.length_map, List.length_zipWith, List.length_take, List.length_append, List.length_cons, List.length_nil]; omega)) ?_ | refine g_c (by assumption) ?_ | rw [t1] | rw [t2] | rw [e1] | rw [ho]); conv => whnf))
              rw [e2]
              exact ⟨(wInts a).length + 1 - (i + 1), fun k => k, [4, 8, 9, 10, 52, 53], [4, 1002, 47], by omega, by kernel_rfl, i + 1, _, _, rfl, by omega, hc', by simpa using hlen, hw.set (by omega) (by omega), hrest', hstep, rfl, rfl⟩
          · have hi' : i = (wInts a).length + 1 := by omega
            subst hi'
            have t1 : decide ((((wInts a).length + 1 : Nat) : Int) < (((wInts a).length + 1 : Nat) : Int)) = false := decide_eq_false (by omega)
            rw [wInts_valge a (by omega), wInts_valge b (by omega)] at hval
            have hsum : (valI out ((wInts a).length + 1)).toNat = a + b := by
              have := add_fin hc (valI_nonneg hw _) hval (lt_of_len a) (lt_of_len b) (by omega)
              omega
            have kof := c_of out ((wInts a).length + 1) (by omega) (by omega) hw 47 true
            rw [hsum] at kof
            conv => whnf
            (repeat (first | (refine step_w2 rfl rfl ?_; conv => whnf) | (refine g_c1 (by assumption) rfl ?_; conv => whnf) | (rw [t1]; conv => whnf)))
            exact Recast.refl _
      · rw [big_eq, decide_eq_false h2]
        (repeat (first | (refine step_w2 rfl rfl ?_; conv => whnf) | (refine step_i (by kernel_rfl) ?_; conv => whnf) | (refine g_cn (by assumption) rfl ?_; conv => whnf)))
        by_cases hl : (wInts a).length < (wInts b).length
        · rw [decide_eq_true (show ((wInts a).length : Int) < ((wInts b).length : Int) by omega)]
          have ew : IntKind.i64.wrap (((wInts b).length : Int) + 1) = (((wInts b).length + 1 : Nat) : Int) := by rw [wrap_i64 (by omega) (by omega)]; omega
          (repeat (first | (refine step_w1 rfl rfl ?_; conv => whnf) | (refine And.intro (by first | decide | omega | (simp only [tl0, dlen, List.length_replicate, List.length_set, List.length_map, List.length_zipWith, List.length_take, List.length_append, List.length_cons, List.length_nil]; omega)) ?_; conv => whnf) | (rw [ew]; conv => whnf)))
          refine ⟨_, [(47, ⟨95, true, .ints .u32 (List.replicate ((wInts b).length + 1) 0)⟩), (1002, ⟨95, true, .ints .u32 (wArr b)⟩)], [], [(47, ⟨95, true, .ints .u32 (wInts b ++ [0])⟩)], op_copy (c := (wInts b).length) (n := (wInts b).length + 1) rfl rfl rfl (ev_ok rfl) (ev_ok rfl) (tabOK.get (t := 177) rfl) rfl (tabOK.get (t := 95) rfl) (List.mem_cons_self ..) (List.mem_cons_of_mem _ (List.mem_cons_self ..)) rfl rfl rfl rfl (by simp [dlen]) (by show 0 + _ ≤ (wArr b).length; have := wArr_len b; omega) (Nat.min_eq_left (Nat.le_succ _)).symm (dcopy_words b), two_fk rfl rfl, nil_new, one_upd (List.mem_cons_self ..) rfl rfl rfl, ?_⟩
          conv => whnf
          skip
          refine SW_loopN hE (fun k => k) [4, 8, 9, 10, 52, 53] [4, 1001, 47] (fun m fr hp => ∃ (i : Nat) (out : List Int) (c : Nat), m = (wInts b).length + 1 - i ∧ i ≤ (wInts b).length + 1 ∧ c ≤ 1 ∧ out.length = (wInts b).length + 1 ∧ W32 out ∧ (∀ j, i ≤ j → out.getD j 0 = (wInts b).getD j 0) ∧ valI out i + c * 4294967296 ^ i = valI (wInts b) i + valI (wInts a) i ∧
            fr = [(4, .ptr 4 0 0 0), (8, .slc 1001 1 0 (wInts a).length), (9, .slc 47 1 0 ((wInts b).length + 1)), (10, .val (.int .u32 c)), (52, .val (.int .i64 (((wInts b).length + 1 : Nat)))), (53, .val (.int .i64 i))] ∧ hp = [(4, ⟨32, true, .one [.nat 0]⟩), (1001, ⟨95, true, .ints .u32 (wArr a)⟩), (47, ⟨95, true, .ints .u32 out⟩)]) ((wInts b).length + 1) ?_ ?_ ?_
          · kernel_rfl
          · exact ⟨0, wInts b ++ [0], 0, by omega, by omega, by omega, by simp, w32_snoc (wInts_w32 b), (fun j _ => getD_snoc _ j), by simp [valI], rfl, rfl⟩
          rintro m _ _ ⟨i, out, c, rfl, hi, hc, hlen, hw, hrest, hval, rfl, rfl⟩
          by_cases hlt : i < (wInts b).length + 1
          · have t1 : decide ((i : Int) < (((wInts b).length + 1 : Nat) : Int)) = true := decide_eq_true (by omega)
            have e1 : 0 + (i : Int).toNat = i := by omega
            have e2 : IntKind.i64.wrap ((i : Int) + 1) = ((i + 1 : Nat) : Int) := by rw [wrap_i64 (by omega) (by omega)]; omega
            obtain ⟨o, ho⟩ := Int.eq_ofNat_of_zero_le (hw i).1
            obtain ⟨w, hww⟩ := Int.eq_ofNat_of_zero_le (wInts_w32 a i).1
            have ho2 := (hw i).2
            have hw2 := (wInts_w32 a i).2
            have k32 := c_Add32 o w c (by omega) (by omega) hc
            have hX : (wInts b).getD i 0 = o := by rw [← hrest i (Nat.le_refl _)]; exact ho
            have hstep := add_step (by omega) ho hX hww hval
            have hc' : (o + w + c) / 4294967296 ≤ 1 := by omega
            have hrest' : ∀ j, i + 1 ≤ j → (out.set i (((o + w + c) % 4294967296 : Nat) : Int)).getD j 0 = (wInts b).getD j 0 := fun j hj => by
              rw [getD_set, if_neg (by omega)]; exact hrest j (by omega)
            by_cases hy : i < (wInts a).length
            · have t2 : decide ((i : Int) < ((wInts a).length : Int)) = true := decide_eq_true (by omega)
              have hyl := wArr_len a
              have e3 : (wArr a).getD i 0 = (w : Int) := by rw [wArr_get hy]; exact hww
              conv => whnf
              (repeat ((first | refine step_w1 rfl rfl ?_ | refine And.intro (by first | decide | omega | (simp only [tl0, dlen, List.length_replicate, List.length_set, List.length_map, List.length_zipWith, List.length_take, List.length_append, List.length_cons, List.length_nil]; omega)) ?_ | refine g_c (by assumption) ?_ | rw [t1] | rw [t2] | rw [e1] | rw [e3] | rw [ho]); conv => whnf))
              rw [e2]
              exact ⟨(wInts b).length + 1 - (i + 1), fun k => k, [4, 8, 9, 10, 52, 53], [4, 1001, 47], by omega, by kernel_rfl, i + 1, _, _, rfl, by omega, hc', by simpa using hlen, hw.set (by omega) (by omega), hrest', hstep, rfl, rfl⟩
            · have t2 : decide ((i : Int) < ((wInts a).length : Int)) = false := decide_eq_false (by omega)
              have hw0 : w = 0 := by have := getD_ge (xs := wInts a) (i := i) (by omega); omega
              subst hw0
              conv => whnf
              (repeat ((first | refine step_w1 rfl rfl ?_ | refine step_w2 rfl rfl ?_ | refine And.intro (by first | decide | omega | (simp only [tl0, dlen, List.length_replicate, List.length_set, List.length_map, List.length_zipWith, List.length_take, List.length_append, List.length_cons, List.length_nil]; omega)) ?_ | refine g_c (by assumption) ?_ | rw [t1] | rw [t2] | rw [e1] | rw [ho]); conv => whnf))
              rw [e2]
              exact ⟨(wInts b).length + 1 - (i + 1), fun k => k, [4, 8, 9, 10, 52, 53], [4, 1001, 47], by omega, by kernel_rfl, i + 1, _, _, rfl, by omega, hc', by simpa using hlen, hw.set (by omega) (by omega), hrest', hstep, rfl, rfl⟩
          · have hi' : i = (wInts b).length + 1 := by omega
            subst hi'
            have t1 : decide ((((wInts b).length + 1 : Nat) : Int) < (((wInts b).length + 1 : Nat) : Int)) = false := decide_eq_false (by omega)
            rw [wInts_valge b (by omega), wInts_valge a (by omega)] at hval
            have hsum : (valI out ((wInts b).length + 1)).toNat = a + b := by
              have := add_fin hc (valI_nonneg hw _) hval (lt_of_len b) (lt_of_len a) (by omega)
              omega
            have kof := c_of out ((wInts b).length + 1) (by omega) (by omega) hw 47 true
            rw [hsum] at kof
            conv => whnf
            (repeat (first | (refine step_w2 rfl rfl ?_; conv => whnf) | (refine g_c1 (by assumption) rfl ?_; conv => whnf) | (rw [t1]; conv => whnf)))
            exact Recast.refl _
        · rw [decide_eq_false (show ¬ ((wInts a).length : Int) < ((wInts b).length : Int) by omega)]
          have ew : IntKind.i64.wrap (((wInts a).length : Int) + 1) = (((wInts a).length + 1 : Nat) : Int) := by rw [wrap_i64 (by omega) (by omega)]; omega
          (repeat (first | (refine step_w2 rfl rfl ?_; conv => whnf) | (refine And.intro (by first | decide | omega | (simp only [tl0, dlen, List.length_replicate, List.length_set, List.length_map, List.length_zipWith, List.length_take, List.length_append, List.length_cons, List.length_nil]; omega)) ?_; conv => whnf) | (rw [ew]; conv => whnf)))
          refine ⟨_, [(47, ⟨95, true, .ints .u32 (List.replicate ((wInts a).length + 1) 0)⟩), (1001, ⟨95, true, .ints .u32 (wArr a)⟩)], [], [(47, ⟨95, true, .ints .u32 (wInts a ++ [0])⟩)], op_copy (c := (wInts a).length) (n := (wInts a).length + 1) rfl rfl rfl (ev_ok rfl) (ev_ok rfl) (tabOK.get (t := 177) rfl) rfl (tabOK.get (t := 95) rfl) (List.mem_cons_self ..) (List.mem_cons_of_mem _ (List.mem_cons_self ..)) rfl rfl rfl rfl (by simp [dlen]) (by show 0 + _ ≤ (wArr a).length; have := wArr_len a; omega) (Nat.min_eq_left (Nat.le_succ _)).symm (dcopy_words a), two_fk rfl rfl, nil_new, one_upd (List.mem_cons_self ..) rfl rfl rfl, ?_⟩
          conv => whnf
          skip
          refine SW_loopN hE (fun k => k) [4, 8, 9, 10, 52, 53] [4, 1002, 47] (fun m fr hp => ∃ (i : Nat) (out : List Int) (c : Nat), m = (wInts a).length + 1 - i ∧ i ≤ (wInts a).length + 1 ∧ c ≤ 1 ∧ out.length = (wInts a).length + 1 ∧ W32 out ∧ (∀ j, i ≤ j → out.getD j 0 = (wInts a).getD j 0) ∧ valI out i + c * 4294967296 ^ i = valI (wInts a) i + valI (wInts b) i ∧
            fr = [(4, .ptr 4 0 0 0), (8, .slc 1002 1 0 (wInts b).length), (9, .slc 47 1 0 ((wInts a).length + 1)), (10, .val (.int .u32 c)), (52, .val (.int .i64 (((wInts a).length + 1 : Nat)))), (53, .val (.int .i64 i))] ∧ hp = [(4, ⟨32, true, .one [.nat 0]⟩), (1002, ⟨95, true, .ints .u32 (wArr b)⟩), (47, ⟨95, true, .ints .u32 out⟩)]) ((wInts a).length + 1) ?_ ?_ ?_
          · kernel_rfl
          · exact ⟨0, wInts a ++ [0], 0, by omega, by omega, by omega, by simp, w32_snoc (wInts_w32 a), (fun j _ => getD_snoc _ j), by simp [valI], rfl, rfl⟩
          rintro m _ _ ⟨i, out, c, rfl, hi, hc, hlen, hw, hrest, hval, rfl, rfl⟩
          by_cases hlt : i < (wInts a).length + 1
          · have t1 : decide ((i : Int) < (((wInts a).length + 1 : Nat) : Int)) = true := decide_eq_true (by omega)
            have e1 : 0 + (i : Int).toNat = i := by omega
            have e2 : IntKind.i64.wrap ((i : Int) + 1) = ((i + 1 : Nat) : Int) := by rw [wrap_i64 (by omega) (by omega)]; omega
            obtain ⟨o, ho⟩ := Int.eq_ofNat_of_zero_le (hw i).1
            obtain ⟨w, hww⟩ := Int.eq_ofNat_of_zero_le (wInts_w32 b i).1
            have ho2 := (hw i).2
            have hw2 := (wInts_w32 b i).2
            have k32 := c_Add32 o w c (by omega) (by omega) hc
            have hX : (wInts a).getD i 0 = o := by rw [← hrest i (Nat.le_refl _)]; exact ho
            have hstep := add_step (by omega) ho hX hww hval
            have hc' : (o + w + c) / 4294967296 ≤ 1 := by omega
            have hrest' : ∀ j, i + 1 ≤ j → (out.set i (((o + w + c) % 4294967296 : Nat) : Int)).getD j 0 = (wInts a).getD j 0 := fun j hj => by
              rw [getD_set, if_neg (by omega)]; exact hrest j (by omega)
            by_cases hy : i < (wInts b).length
            · have t2 : decide ((i : Int) < ((wInts b).length : Int)) = true := decide_eq_true (by omega)
              have hyl := wArr_len b
              have e3 : (wArr b).getD i 0 = (w : Int) := by rw [wArr_get hy]; exact hww
              conv => whnf
              (repeat ((first | refine step_w1 rfl rfl ?_ | refine And.intro (by first | decide | omega | (simp only [tl0, dlen, List.length_replicate, List.length_set, List.length_map, List.length_zipWith, List.length_take, List.length_append, List.length_cons, List.length_nil]; omega)) ?_ | refine g_c (by assumption) ?_ | rw [t1] | rw [t2] | rw [e1] | rw [e3] | rw [ho]); conv => whnf))
              rw [e2]
              exact ⟨(wInts a).length + 1 - (i + 1), fun k => k, [4, 8, 9, 10, 52, 53], [4, 1002, 47], by omega, by kernel_rfl, i + 1, _, _, rfl, by omega, hc', by simpa using hlen, hw.set (by omega) (by omega), hrest', hstep, rfl, rfl⟩
            · have t2 : decide ((i : Int) < ((wInts b).length : Int)) = false := decide_eq_false (by omega)
              have hw0 : w = 0 := by have := getD_ge (xs := wInts b) (i := i) (by omega); omega
              subst hw0
              conv => whnf
              (repeat ((first | refine step_w1 rfl rfl ?_ | refine step_w2 rfl rfl ?_ | refine And.intro (by first | decide | omega | (simp only [tl0, dlen, List.length_replicate, List.length_set, List.length_map, List.length_zipWith, List.length_take, List.length_append, List.length_cons, List.length_nil]; omega)) ?_ | refine g_c (by assumption) ?_ | rw [t1] | rw [t2] | rw [e1] | rw [ho]); conv => whnf))
              rw [e2]
              exact ⟨(wInts a).length + 1 - (i + 1), fun k => k, [4, 8, 9, 10, 52, 53], [4, 1002, 47], by omega, by kernel_rfl, i + 1, _, _, rfl, by omega, hc', by simpa using hlen, hw.set (by omega) (by omega), hrest', hstep, rfl, rfl⟩
          · have hi' : i = (wInts a).length + 1 := by omega
            subst hi'
            have t1 : decide ((((wInts a).length + 1 : Nat) : Int) < (((wInts a).length + 1 : Nat) : Int)) = false := decide_eq_false (by omega)
            rw [wInts_valge a (by omega), wInts_valge b (by omega)] at hval
            have hsum : (valI out ((wInts a).length + 1)).toNat = a + b := by
              have := add_fin hc (valI_nonneg hw _) hval (lt_of_len a) (lt_of_len b) (by omega)
              omega
            have kof := c_of out ((wInts a).length + 1) (by omega) (by omega) hw 47 true
            rw [hsum] at kof
            conv => whnf
            (repeat (first | (refine step_w2 rfl rfl ?_; conv => whnf) | (refine g_c1 (by assumption) rfl ?_; conv => whnf) | (rw [t1]; conv => whnf)))
            exact Recast.refl _
    · rw [big_eq, decide_eq_false h1]
      (repeat ((first | refine step_w2 rfl rfl ?_ | refine step_i (by kernel_rfl) ?_ | refine g_cn (by assumption) rfl ?_ | refine g_o (op_pickF rfl (ev_ok rfl) (ev_ok rfl)) ?_); conv => whnf))
      by_cases hl : (wInts a).length < (wInts b).length
      · rw [decide_eq_true (show ((wInts a).length : Int) < ((wInts b).length : Int) by omega)]
        have ew : IntKind.i64.wrap (((wInts b).length : Int) + 1) = (((wInts b).length + 1 : Nat) : Int) := by rw [wrap_i64 (by omega) (by omega)]; omega
        (repeat (first | (refine step_w1 rfl rfl ?_; conv => whnf) | (refine And.intro (by first | decide | omega | (simp only [tl0, dlen, List.length_replicate, List.length_set, List.length_map, List.length_zipWith, List.length_take, List.length_append, List.length_cons, List.length_nil]; omega)) ?_; conv => whnf) | (rw [ew]; conv => whnf)))
        refine ⟨_, [(47, ⟨95, true, .ints .u32 (List.replicate ((wInts b).length + 1) 0)⟩), (1002, ⟨95, true, .ints .u32 (wArr b)⟩)], [], [(47, ⟨95, true, .ints .u32 (wInts b ++ [0])⟩)], op_copy (c := (wInts b).length) (n := (wInts b).length + 1) rfl rfl rfl (ev_ok rfl) (ev_ok rfl) (tabOK.get (t := 177) rfl) rfl (tabOK.get (t := 95) rfl) (List.mem_cons_self ..) (List.mem_cons_of_mem _ (List.mem_cons_self ..)) rfl rfl rfl rfl (by simp [dlen]) (by show 0 + _ ≤ (wArr b).length; have := wArr_len b; omega) (Nat.min_eq_left (Nat.le_succ _)).symm (dcopy_words b), two_fk rfl rfl, nil_new, one_upd (List.mem_cons_self ..) rfl rfl rfl, ?_⟩
        conv => whnf
        skip
        refine SW_loopN hE (fun k => k) [4, 8, 9, 10, 52, 53] [4, 1001, 47] (fun m fr hp => ∃ (i : Nat) (out : List Int) (c : Nat), m = (wInts b).length + 1 - i ∧ i ≤ (wInts b).length + 1 ∧ c ≤ 1 ∧ out.length = (wInts b).length + 1 ∧ W32 out ∧ (∀ j, i ≤ j → out.getD j 0 = (wInts b).getD j 0) ∧ valI out i + c * 4294967296 ^ i = valI (wInts b) i + valI (wInts a) i ∧
          fr = [(4, .ptr 4 0 0 0), (8, .slc 1001 1 0 (wInts a).length), (9, .slc 47 1 0 ((wInts b).length + 1)), (10, .val (.int .u32 c)), (52, .val (.int .i64 (((wInts b).length + 1 : Nat)))), (53, .val (.int .i64 i))] ∧ hp = [(4, ⟨32, true, .one [.nat 0]⟩), (1001, ⟨95, true, .ints .u32 (wArr a)⟩), (47, ⟨95, true, .ints .u32 out⟩)]) ((wInts b).length + 1) ?_ ?_ ?_
        · kernel_rfl
        · exact ⟨0, wInts b ++ [0], 0, by omega, by omega, by omega, by simp, w32_snoc (wInts_w32 b), (fun j _ => getD_snoc _ j), by simp [valI], rfl, rfl⟩
        rintro m _ _ ⟨i, out, c, rfl, hi, hc, hlen, hw, hrest, hval, rfl, rfl⟩
        by_cases hlt : i < (wInts b).length + 1
        · have t1 : decide ((i : Int) < (((wInts b).length + 1 : Nat) : Int)) = true := decide_eq_true (by omega)
          have e1 : 0 + (i : Int).toNat = i := by omega
          have e2 : IntKind.i64.wrap ((i : Int) + 1) = ((i + 1 : Nat) : Int) := by rw [wrap_i64 (by omega) (by omega)]; omega
          obtain ⟨o, ho⟩ := Int.eq_ofNat_of_zero_le (hw i).1
          obtain ⟨w, hww⟩ := Int.eq_ofNat_of_zero_le (wInts_w32 a i).1
          have ho2 := (hw i).2
          have hw2 := (wInts_w32 a i).2
          have k32 := c_Add32 o w c (by omega) (by omega) hc
          have hX : (wInts b).getD i 0 = o := by rw [← hrest i (Nat.le_refl _)]; exact ho
          have hstep := add_step (by omega) ho hX hww hval
          have hc' : (o + w + c) / 4294967296 ≤ 1 := by omega
          have hrest' : ∀ j, i + 1 ≤ j → (out.set i (((o + w + c) % 4294967296 : Nat) : Int)).getD j 0 = (wInts b).getD j 0 := fun j hj => by
            rw [getD_set, if_neg (by omega)]; exact hrest j (by omega)
          by_cases hy : i < (wInts a).length
          · have t2 : decide ((i : Int) < ((wInts a).length : Int)) = true := decide_eq_true (by omega)
            have hyl := wArr_len a
            have e3 : (wArr a).getD i 0 = (w : Int) := by rw [wArr_get hy]; exact hww
            conv => whnf
            (repeat ((first | refine step_w1 rfl rfl ?_ | refine And.intro (by first | decide | omega | (simp only [tl0, dlen, List.length_replicate, List.length_set, List.length_map, List.length_zipWith, List.length_take, List.length_append, List.length_cons, List.length_nil]; omega)) ?_ | refine g_c (by assumption) ?_ | rw [t1] | rw [t2] | rw [e1] | rw [e3] | rw [ho]); conv => whnf))
            rw [e2]
            exact ⟨(wInts b).length + 1 - (i + 1), fun k => k, [4, 8, 9, 10, 52, 53], [4, 1001, 47], by omega, by kernel_rfl, i + 1, _, _, rfl, by omega, hc', by simpa using hlen, hw.set (by omega) (by omega), hrest', hstep, rfl, rfl⟩
          · have t2 : decide ((i : Int) < ((wInts a).length : Int)) = false := decide_eq_false (by omega)
            have hw0 : w = 0 := by have := getD_ge (xs := wInts a) (i := i) (by omega); omega
            subst hw0
            conv => whnf
            (repeat ((first | refine step_w1 rfl rfl ?_ | refine step_w2 rfl rfl ?_ | refine And.intro (by first | decide | omega | (simp only [tl0, dlen, List.length_replicate, List.length_set, List.length_map, List.length_zipWith, List.length_take, List.length_append, List.length_cons, List.length_nil]; omega)) ?_ | refine g_c (by assumption) ?_ | rw [t1] | rw [t2] | rw [e1] | rw [ho]); conv => whnf))
            rw [e2]
            exact ⟨(wInts b).length + 1 - (i + 1), fun k => k, [4, 8, 9, 10, 52, 53], [4, 1001, 47], by omega, by kernel_rfl, i + 1, _, _, rfl, by omega, hc', by simpa using hlen, hw.set (by omega) (by omega), hrest', hstep, rfl, rfl⟩
        · have hi' : i = (wInts b).length + 1 := by omega
          subst hi'
          have t1 : decide ((((wInts b).length + 1 : Nat) : Int) < (((wInts b).length + 1 : Nat) : Int)) = false := decide_eq_false (by omega)
          rw [wInts_valge b (by omega), wInts_valge a (by omega)] at hval
          have hsum : (valI out ((wInts b).length + 1)).toNat = a + b := by
            have := add_fin hc (valI_nonneg hw _) hval (lt_of_len b) (lt_of_len a) (by omega)
            omega
          have kof := c_of out ((wInts b).length + 1) (by omega) (by omega) hw 47 true
          rw [hsum] at kof
          conv => whnf
          (repeat (first | (refine step_w2 rfl rfl ?_; conv => whnf) | (refine g_c1 (by assumption) rfl ?_; conv => whnf) | (rw [t1]; conv => whnf)))
          exact Recast.refl _
      · rw [decide_eq_false (show ¬ ((wInts a).length : Int) < ((wInts b).length : Int) by omega)]
        have ew : IntKind.i64.wrap (((wInts a).length : Int) + 1) = (((wInts a).length + 1 : Nat) : Int) := by rw [wrap_i64 (by omega) (by omega)]; omega
        (repeat (first | (refine step_w2 rfl rfl ?_; conv => whnf) | (refine And.intro (by first | decide | omega | (simp only [tl0, dlen, List.length_replicate, List.length_set, List.length_map, List.length_zipWith, List.length_take, List.length_append, List.length_cons, List.length_nil]; omega)) ?_; conv => whnf) | (rw [ew]; conv => whnf)))
        refine ⟨_, [(47, ⟨95, true, .ints .u32 (List.replicate ((wInts a).length + 1) 0)⟩), (1001, ⟨95, true, .ints .u32 (wArr a)⟩)], [], [(47, ⟨95, true, .ints .u32 (wInts a ++ [0])⟩)], op_copy (c := (wInts a).length) (n := (wInts a).length + 1) rfl rfl rfl (ev_ok rfl) (ev_ok rfl) (tabOK.get (t := 177) rfl) rfl (tabOK.get (t := 95) rfl) (List.mem_cons_self ..) (List.mem_cons_of_mem _ (List.mem_cons_self ..)) rfl rfl rfl rfl (by simp [dlen]) (by show 0 + _ ≤ (wArr a).length; have := wArr_len a; omega) (Nat.min_eq_left (Nat.le_succ _)).symm (dcopy_words a), two_fk rfl rfl, nil_new, one_upd (List.mem_cons_self ..) rfl rfl rfl, ?_⟩
        conv => whnf
        skip
        refine SW_loopN hE (fun k => k) [4, 8, 9, 10, 52, 53] [4, 1002, 47] (fun m fr hp => ∃ (i : Nat) (out : List Int) (c : Nat), m = (wInts a).length + 1 - i ∧ i ≤ (wInts a).length + 1 ∧ c ≤ 1 ∧ out.length = (wInts a).length + 1 ∧ W32 out ∧ (∀ j, i ≤ j → out.getD j 0 = (wInts a).getD j 0) ∧ valI out i + c * 4294967296 ^ i = valI (wInts a) i + valI (wInts b) i ∧
          fr = [(4, .ptr 4 0 0 0), (8, .slc 1002 1 0 (wInts b).length), (9, .slc 47 1 0 ((wInts a).length + 1)), (10, .val (.int .u32 c)), (52, .val (.int .i64 (((wInts a).length + 1 : Nat)))), (53, .val (.int .i64 i))] ∧ hp = [(4, ⟨32, true, .one [.nat 0]⟩), (1002, ⟨95, true, .ints .u32 (wArr b)⟩), (47, ⟨95, true, .ints .u32 out⟩)]) ((wInts a).length + 1) ?_ ?_ ?_
        · kernel_rfl
        · exact ⟨0, wInts a ++ [0], 0, by omega, by omega, by omega, by simp, w32_snoc (wInts_w32 a), (fun j _ => getD_snoc _ j), by simp [valI], rfl, rfl⟩
        rintro m _ _ ⟨i, out, c, rfl, hi, hc, hlen, hw, hrest, hval, rfl, rfl⟩
        by_cases hlt : i < (wInts a).length + 1
        · have t1 : decide ((i : Int) < (((wInts a).length + 1 : Nat) : Int)) = true := decide_eq_true (by omega)
          have e1 : 0 + (i : Int).toNat = i := by omega
          have e2 : IntKind.i64.wrap ((i : Int) + 1) = ((i + 1 : Nat) : Int) := by rw [wrap_i64 (by omega) (by omega)]; omega
          obtain ⟨o, ho⟩ := Int.eq_ofNat_of_zero_le (hw i).1
          obtain ⟨w, hww⟩ := Int.eq_ofNat_of_zero_le (wInts_w32 b i).1
          have ho2 := (hw i).2
          have hw2 := (wInts_w32 b i).2
          have k32 := c_Add32 o w c (by omega) (by omega) hc
          have hX : (wInts a).getD i 0 = o := by rw [← hrest i (Nat.le_refl _)]; exact ho
          have hstep := add_step (by omega) ho hX hww hval
          have hc' : (o + w + c) / 4294967296 ≤ 1 := by omega
          have hrest' : ∀ j, i + 1 ≤ j → (out.set i (((o + w + c) % 4294967296 : Nat) : Int)).getD j 0 = (wInts a).getD j 0 := fun j hj => by
            rw [getD_set, if_neg (by omega)]; exact hrest j (by omega)
          by_cases hy : i < (wInts b).length
          · have t2 : decide ((i : Int) < ((wInts b).length : Int)) = true := decide_eq_true (by omega)
            have hyl := wArr_len b
            have e3 : (wArr b).getD i 0 = (w : Int) := by rw [wArr_get hy]; exact hww
            conv => whnf
            (repeat ((first | refine step_w1 rfl rfl ?_ | refine And.intro (by first | decide | omega | (simp only [tl0, dlen, List.length_replicate, List.length_set, List.length_map, List.length_zipWith, List.length_take, List.length_append, List.length_cons, List.length_nil]; omega)) ?_ | refine g_c (by assumption) ?_ | rw [t1] | rw [t2] | rw [e1] | rw [e3] | rw [ho]); conv => whnf))
            rw [e2]
            exact ⟨(wInts a).length + 1 - (i + 1), fun k => k, [4, 8, 9, 10, 52, 53], [4, 1002, 47], by omega, by kernel_rfl, i + 1, _, _, rfl, by omega, hc', by simpa using hlen, hw.set (by omega) (by omega), hrest', hstep, rfl, rfl⟩
          · have t2 : decide ((i : Int) < ((wInts b).length : Int)) = false := decide_eq_false (by omega)
            have hw0 : w = 0 := by have := getD_ge (xs := wInts b) (i := i) (by omega); omega
            subst hw0
            conv => whnf
            (repeat ((first | refine step_w1 rfl rfl ?_ | refine step_w2 rfl rfl ?_ | refine And.intro (by first | decide | omega | (simp only [tl0, dlen, List.length_replicate, List.length_set, List.length_map, List.length_zipWith, List.length_take, List.length_append, List.length_cons, List.length_nil]; omega)) ?_ | refine g_c (by assumption) ?_ | rw [t1] | rw [t2] | rw [e1] | rw [ho]); conv => whnf))
            rw [e2]
            exact ⟨(wInts a).length + 1 - (i + 1), fun k => k, [4, 8, 9, 10, 52, 53], [4, 1002, 47], by omega, by kernel_rfl, i + 1, _, _, rfl, by omega, hc', by simpa using hlen, hw.set (by omega) (by omega), hrest', hstep, rfl, rfl⟩
        · have hi' : i = (wInts a).length + 1 := by omega
          subst hi'
          have t1 : decide ((((wInts a).length + 1 : Nat) : Int) < (((wInts a).length + 1 : Nat) : Int)) = false := decide_eq_false (by omega)
          rw [wInts_valge a (by omega), wInts_valge b (by omega)] at hval
          have hsum : (valI out ((wInts a).length + 1)).toNat = a + b := by
            have := add_fin hc (valI_nonneg hw _) hval (lt_of_len a) (lt_of_len b) (by omega)
            omega
          have kof := c_of out ((wInts a).length + 1) (by omega) (by omega) hw 47 true
          rw [hsum] at kof
          conv => whnf
          (repeat (first | (refine step_w2 rfl rfl ?_; conv => whnf) | (refine g_c1 (by assumption) rfl ?_; conv => whnf) | (rw [t1]; conv => whnf)))
          exact Recast.refl _
end Go.Proofs.YtkpfineikahgfaaGreatDoor

namespace Go.Proofs.YtkpfineikahgfaaGreatDoor
open Go.Sx
set_option linter.unusedSimpArgs false
set_option linter.unusedVariables false
set_option maxRecDepth 100000
set_option maxHeartbeats 4000000

theorem c_SubF (a b : Nat) (ha : (wInts a).length < 549755813888) (hb : (wInts b).length < 549755813888) (h : a < b) :
    CallOK Tryz.prog 204 [.nat a, .nat b] [] (.tup [.nat 0, .val (.bool false)]) [] [] := by
  have k1 := c_Cmp a b (by omega) (by omega)
  rw [Int.sign_eq_neg_one_of_neg (show (a : Int) - b < 0 by omega)] at k1
  refine callV (Z := []) tabOK mixedOK Tryz.func204 rfl (by kernel_rfl) rfl rfl (by kernel_rfl) rfl ?_
  intro W0 w0 ρ0 hE
  conv => whnf
  (repeat (first | (refine step_w1 rfl rfl ?_; conv => whnf) | (refine g_c (by assumption) ?_; conv => whnf))); exact Recast.refl _

theorem sub_step {X Y out : List Int} {i o w c : Nat} (hi : i < out.length) (ho : out.getD i 0 = o) (hX : X.getD i 0 = o) (hY : Y.getD i 0 = w) (hv : valI out i - c * 4294967296 ^ i = valI X i - valI Y i)
    (hol : o < 4294967296) (hwl : w < 4294967296) (hc : c ≤ 1) :
    valI (out.set i (((o + 4294967296 - w - c) % 4294967296 : Nat) : Int)) (i + 1) - ((if o < w + c then 1 else 0 : Nat) : Int) * 4294967296 ^ (i + 1) = valI X (i + 1) - valI Y (i + 1) := by
  rw [valI, valI, valI, valI_set_ge (Nat.le_refl i), getD_set, if_pos ⟨rfl, hi⟩, hX, hY, Int.pow_succ]
  have hd : (((o + 4294967296 - w - c) % 4294967296 : Nat) : Int) = (o : Int) - w - c + ((if o < w + c then 1 else 0 : Nat) : Int) * 4294967296 := by
    split <;> omega
  rw [hd]
  generalize ((if o < w + c then 1 else 0 : Nat) : Int) = q
  generalize (4294967296 : Int) ^ i = P at *
  grind

theorem n_Sub (a b : Nat) (ha : (wInts a).length < 549755813888) (h : b ≤ a) :
    CallOK Tryz.prog 204 [.nat a, .nat b] [] (.tup [.nat (a - b), .val (.bool true)]) [] [] := by
  by_cases hs : a < 18446744073709551616
  · exact s_Sub a b hs h
  · have hlb : (wInts b).length ≤ (wInts a).length := len_le_of (Nat.lt_of_le_of_lt h (lt_of_len a))
    have k1 := c_Cmp a b (by omega) (by omega)
    have ht : decide (((a : Int) - b).sign < 0) = false := decide_eq_false (by have := Int.sign_nonneg_iff.2 (show 0 ≤ (a : Int) - b by omega); omega)
    have ka := c_words a 1001 (by omega)
    have kb := c_words b 1002 (by omega)
    refine callV (Z := []) tabOK mixedOK Tryz.func204 rfl (by kernel_rfl) rfl rfl (by kernel_rfl) rfl ?_
    intro W0 w0 ρ0 hE
    conv => whnf
    (repeat (first | (refine step_w2 rfl rfl ?_; conv => whnf) | (refine g_c (by assumption) ?_; conv => whnf) | (rw [ht]; conv => whnf)))
    rw [big_eq, decide_eq_false hs]
    (repeat (first | (refine step_w2 rfl rfl ?_; conv => whnf) | (refine step_i (by kernel_rfl) ?_; conv => whnf) | (refine g_cn (by assumption) rfl ?_; conv => whnf)))
    rw [show wArr a = wInts a from if_neg hs]
    refine SW_loopN hE (fun k => k) [4, 6, 7, 8, 30, 31] [4, 1001, 1002] (fun m fr hp => ∃ (i : Nat) (out : List Int) (c : Nat), m = (wInts a).length - i ∧ i ≤ (wInts a).length ∧ c ≤ 1 ∧ out.length = (wInts a).length ∧ W32 out ∧ (∀ j, i ≤ j → out.getD j 0 = (wInts a).getD j 0) ∧ valI out i - c * 4294967296 ^ i = valI (wInts a) i - valI (wInts b) i ∧
      fr = [(4, .ptr 4 0 0 0), (6, .slc 1001 1 0 (wInts a).length), (7, .slc 1002 1 0 (wInts b).length), (8, .val (.int .u32 c)), (30, .val (.int .i64 ((wInts a).length : Nat))), (31, .val (.int .i64 i))] ∧ hp = [(4, ⟨32, true, .one [.nat 0]⟩), (1001, ⟨95, true, .ints .u32 out⟩), (1002, ⟨95, true, .ints .u32 (wArr b)⟩)]) (wInts a).length ?_ ?_ ?_
    · kernel_rfl
    · exact ⟨0, wInts a, 0, by omega, by omega, by omega, rfl, wInts_w32 a, (fun j _ => rfl), by simp [valI], rfl, rfl⟩
    rintro m _ _ ⟨i, out, c, rfl, hi, hc, hlen, hw, hrest, hval, rfl, rfl⟩
    by_cases hlt : i < (wInts a).length
    · have t1 : decide ((i : Int) < ((wInts a).length : Int)) = true := decide_eq_true (by omega)
      have e1 : 0 + (i : Int).toNat = i := by omega
      have e2 : IntKind.i64.wrap ((i : Int) + 1) = ((i + 1 : Nat) : Int) := by rw [wrap_i64 (by omega) (by omega)]; omega
      obtain ⟨o, ho⟩ := Int.eq_ofNat_of_zero_le (hw i).1
      obtain ⟨w, hww⟩ := Int.eq_ofNat_of_zero_le (wInts_w32 b i).1
      have ho2 := (hw i).2
      have hw2 := (wInts_w32 b i).2
      have k32 := c_Sub32 o w c (by omega) (by omega) hc
      have hX : (wInts a).getD i 0 = o := by rw [← hrest i (Nat.le_refl _)]; exact ho
      have hstep := sub_step (by omega) ho hX hww hval (by omega) (by omega) hc
      have hc' : (if o < w + c then 1 else 0 : Nat) ≤ 1 := by split <;> omega
      have hrest' : ∀ j, i + 1 ≤ j → (out.set i (((o + 4294967296 - w - c) % 4294967296 : Nat) : Int)).getD j 0 = (wInts a).getD j 0 := fun j hj => by
        rw [getD_set, if_neg (by omega)]; exact hrest j (by omega)
      by_cases hy : i < (wInts b).length
      · have t2 : decide ((i : Int) < ((wInts b).length : Int)) = true := decide_eq_true (by omega)
        have hyl := wArr_len b
        have e3 : (wArr b).getD i 0 = (w : Int) := by rw [wArr_get hy]; exact hww
        conv => whnf
        (repeat ((first | refine step_w1 rfl rfl ?_ | refine And.intro (by first | decide | omega | (simp only [tl0, dlen, List.length_replicate, List.length_set, List.length_map, List.length_zipWith, List.length_take, List.length_append, List.length_cons, List.length_nil]; omega)) ?_ | refine g_c (by assumption) ?_ | rw [t1] | rw [t2] | rw [e1] | rw [e3] | rw [ho]); conv => whnf))
        rw [e2]
        exact ⟨(wInts a).length - (i + 1), fun k => k, [4, 6, 7, 8, 30, 31], [4, 1001, 1002], by omega, by kernel_rfl, i + 1, _, _, rfl, by omega, hc', by simpa using hlen, hw.set (by omega) (by omega), hrest', hstep, rfl, rfl⟩
      · have t2 : decide ((i : Int) < ((wInts b).length : Int)) = false := decide_eq_false (by omega)
        have hw0 : w = 0 := by have := getD_ge (xs := wInts b) (i := i) (by omega); omega
        subst hw0
        conv => whnf
        (repeat ((first | refine step_w1 rfl rfl ?_ | refine step_w2 rfl rfl ?_ | refine And.intro (by first | decide | omega | (simp only [tl0, dlen, List.length_replicate, List.length_set, List.length_map, List.length_zipWith, List.length_take, List.length_append, List.length_cons, List.length_nil]; omega)) ?_ | refine g_c (by assumption) ?_ | rw [t1] | rw [t2] | rw [e1] | rw [ho]); conv => whnf))
        rw [e2]
        exact ⟨(wInts a).length - (i + 1), fun k => k, [4, 6, 7, 8, 30, 31], [4, 1001, 1002], by omega, by kernel_rfl, i + 1, _, _, rfl, by omega, hc', by simpa using hlen, hw.set (by omega) (by omega), hrest', hstep, rfl, rfl⟩
    · have hi' : i = (wInts a).length := by omega
      subst hi'
      have t1 : decide (((wInts a).length : Int) < ((wInts a).length : Int)) = false := decide_eq_false (by omega)
      rw [wInts_valge a (by omega), wInts_valge b (by omega)] at hval
      have hsum : (valI out (wInts a).length).toNat = a - b := by
        have h1 := valI_lt hw (wInts a).length
        have h2 := powW_pos (wInts a).length
        have hcc : c = 0 ∨ c = 1 := by omega
        rcases hcc with rfl | rfl <;> omega
      have kof := c_of out (wInts a).length (by omega) (by omega) hw 1001 true
      rw [hsum] at kof
      conv => whnf
      (repeat (first | (refine step_w2 rfl rfl ?_; conv => whnf) | (refine g_c1 (by assumption) rfl ?_; conv => whnf) | (rw [t1]; conv => whnf)))
      exact Recast.refl _
end Go.Proofs.YtkpfineikahgfaaGreatDoor

namespace Go.Proofs.YtkpfineikahgfaaGreatDoor
open Go.Sx
set_option linter.unusedSimpArgs false
set_option linter.unusedVariables false
set_option maxRecDepth 100000
set_option maxHeartbeats 4000000

theorem four_words (p : Nat) (h : p < 340282366920938463463374607431768211456) :
    valI [((p % 18446744073709551616 % 4294967296 : Nat) : Int), ((p % 18446744073709551616 / 4294967296 : Nat) : Int), ((p / 18446744073709551616 % 4294967296 : Nat) : Int), ((p / 18446744073709551616 / 4294967296 : Nat) : Int)] 4 = p ∧
    W32 [((p % 18446744073709551616 % 4294967296 : Nat) : Int), ((p % 18446744073709551616 / 4294967296 : Nat) : Int), ((p / 18446744073709551616 % 4294967296 : Nat) : Int), ((p / 18446744073709551616 / 4294967296 : Nat) : Int)] := by
  constructor
  · simp only [valI, List.getD_cons_zero, List.getD_cons_succ, Int.pow_succ, Int.pow_zero]
    omega
  · refine W32_of fun x hx => ?_
    simp only [List.mem_cons, List.not_mem_nil, or_false] at hx
    rcases hx with rfl | rfl | rfl | rfl <;> omega

theorem c_Mul_s (a b : Nat) (ha : a < 18446744073709551616) (hb : b < 18446744073709551616) :
    CallOK Tryz.prog 163 [.nat a, .nat b] [] (.nat (a * b)) [] [] := by
  have k1 := c_Mul64 a b ha hb
  have hp : a * b < 340282366920938463463374607431768211456 := by
    have := Nat.mul_le_mul (show a ≤ 18446744073709551615 by omega) (show b ≤ 18446744073709551615 by omega)
    omega
  obtain ⟨h1, h2⟩ := four_words (a * b) hp
  have e1 : IntKind.u32.wrap ((a * b % 18446744073709551616 : Nat) : Int) = ((a * b % 18446744073709551616 % 4294967296 : Nat) : Int) := wu32m _
  have e2 : IntKind.u32.wrap (ishr .u64 ((a * b % 18446744073709551616 : Nat) : Int) 32) = ((a * b % 18446744073709551616 / 4294967296 : Nat) : Int) := by rw [ishr_hi, wu32 (by omega)]
  have e3 : IntKind.u32.wrap ((a * b / 18446744073709551616 : Nat) : Int) = ((a * b / 18446744073709551616 % 4294967296 : Nat) : Int) := wu32m _
  have e4 : IntKind.u32.wrap (ishr .u64 ((a * b / 18446744073709551616 : Nat) : Int) 32) = ((a * b / 18446744073709551616 / 4294967296 : Nat) : Int) := by rw [ishr_hi, wu32 (by omega)]
  have so := c_of _ 4 (by simp) (by simp) h2 41 true
  rw [h1, Int.toNat_natCast] at so
  refine callV (Z := []) tabOK mixedOK Tryz.func163 rfl (by kernel_rfl) rfl rfl (by kernel_rfl) rfl ?_
  intro W0 w0 ρ0 hE
  conv => whnf
  rw [big_eq, decide_eq_true ha]
  (repeat (first | (refine step_w1 rfl rfl ?_; conv => whnf) | (refine g_o (op_pickT rfl (ev_ok rfl) (ev_ok rfl)) ?_; conv => whnf)))
  rw [big_eq, decide_eq_true hb]
  (repeat ((first | refine step_w1 rfl rfl ?_ | refine And.intro (by first | decide | omega | (simp only [tl0, dlen, List.length_replicate, List.length_set, List.length_map, List.length_zipWith, List.length_take, List.length_append, List.length_cons, List.length_nil]; omega)) ?_ | refine g_c (by assumption) ?_ | refine g_c1 (by assumption) rfl ?_ | rw [low_small ha] | rw [low_small hb] | rw [e1] | rw [e2] | rw [e3] | rw [e4]); conv => whnf))
  exact Recast.refl _

theorem mul_step {out o2 Y : List Int} {i k o w v c : Nat} (hi : i + k < o2.length) (ho : o2.getD (i + k) 0 = o) (hout : out.getD (i + k) 0 = o) (hY : Y.getD k 0 = v)
    (hv : valI o2 (i + k) + c * 4294967296 ^ (i + k) = valI out (i + k) + w * 4294967296 ^ i * valI Y k) :
    valI (o2.set (i + k) (((c + (w * v + o)) % 4294967296 : Nat) : Int)) (i + (k + 1)) + (((c + (w * v + o)) / 4294967296 : Nat) : Int) * 4294967296 ^ (i + (k + 1)) = valI out (i + (k + 1)) + w * 4294967296 ^ i * valI Y (k + 1) := by
  rw [show i + (k + 1) = (i + k) + 1 from by omega, valI, valI, valI, valI_set_ge (Nat.le_refl _), getD_set, if_pos ⟨rfl, hi⟩, hout, hY, Int.pow_succ]
  have hd : (((c + (w * v + o)) % 4294967296 : Nat) : Int) = (c : Int) + (w * v + o) - (((c + (w * v + o)) / 4294967296 : Nat) : Int) * 4294967296 := by
    have := Nat.div_add_mod (c + (w * v + o)) 4294967296
    have h2 : ((w * v : Nat) : Int) = (w : Int) * v := Int.natCast_mul _ _
    omega
  rw [hd]
  rw [Int.pow_add] at hv ⊢
  generalize (((c + (w * v + o)) / 4294967296 : Nat) : Int) = q
  generalize (4294967296 : Int) ^ i = P at *
  generalize (4294967296 : Int) ^ k = Q at *
  grind

theorem mul_row {out o2 X : List Int} {i l w c b : Nat} {Y : List Int} (hi : i + l < o2.length) (ho : o2.getD (i + l) 0 = 0) (hX : X.getD i 0 = w) (hY : valI Y l = b)
    (hval : valI out (i + l) = valI X i * b) (hv : valI o2 (i + l) + c * 4294967296 ^ (i + l) = valI out (i + l) + w * 4294967296 ^ i * valI Y l) :
    valI (o2.set (i + l) (c : Int)) (i + l + 1) = valI X (i + 1) * b := by
  rw [valI, valI, valI_set_ge (Nat.le_refl _), getD_set, if_pos ⟨rfl, hi⟩, hX, hv, hval, hY]
  generalize (4294967296 : Int) ^ i = P at *
  grind


theorem n_Mul (a b : Nat) (ha : (wInts a).length < 274877906944) (hb : (wInts b).length < 274877906944) :
    CallOK Tryz.prog 163 [.nat a, .nat b] [] (.nat (a * b)) [] [] := by
  by_cases hs : a < 18446744073709551616 ∧ b < 18446744073709551616
  · exact c_Mul_s a b hs.1 hs.2
  · have ka := c_words a 1001 (by omega)
    have kb := c_words b 1002 (by omega)
    have ew : IntKind.i64.wrap (((wInts a).length : Int) + ((wInts b).length : Int)) = (((wInts a).length + (wInts b).length : Nat) : Int) := by rw [wrap_i64 (by omega) (by omega)]; omega
    refine callV (Z := []) tabOK mixedOK Tryz.func163 rfl (by kernel_rfl) rfl rfl (by kernel_rfl) rfl ?_
    intro W0 w0 ρ0 hE
    conv => whnf
    by_cases h1 : a < 18446744073709551616
    · rw [big_eq, decide_eq_true h1]
      (repeat (first | (refine step_w1 rfl rfl ?_; conv => whnf) | (refine g_o (op_pickT rfl (ev_ok rfl) (ev_ok rfl)) ?_; conv => whnf)))
      rw [big_eq, decide_eq_false (show ¬ b < 18446744073709551616 by omega)]
      (repeat ((first | refine step_w2 rfl rfl ?_ | refine step_i (by kernel_rfl) ?_ | refine And.intro (by first | decide | omega | (simp only [tl0, dlen, List.length_replicate, List.length_set, List.length_map, List.length_zipWith, List.length_take, List.length_append, List.length_cons, List.length_nil]; omega)) ?_ | refine g_cn (by assumption) rfl ?_ | rw [ew]); conv => whnf))
      refine SW_loopN hE (fun k => k) [4, 8, 9, 53, 54, 55] [4, 1001, 1002, 52] (fun m fr hp => ∃ (i : Nat) (out : List Int), m = (wInts a).length - i ∧ i ≤ (wInts a).length ∧ out.length = (wInts a).length + (wInts b).length ∧ W32 out ∧ (∀ j, i + (wInts b).length ≤ j → out.getD j 0 = 0) ∧ valI out (i + (wInts b).length) = valI (wInts a) i * b ∧
        fr = [(4, .ptr 4 0 0 0), (8, .slc 1002 1 0 (wInts b).length), (9, .slc 52 1 0 ((wInts a).length + (wInts b).length)), (53, .slc 1001 1 0 (wInts a).length), (54, .val (.int .i64 ((wInts a).length : Nat))), (55, .val (.int .i64 i))] ∧ hp = [(4, ⟨32, true, .one [.nat 0]⟩), (1001, ⟨95, true, .ints .u32 (wArr a)⟩), (1002, ⟨95, true, .ints .u32 (wArr b)⟩), (52, ⟨95, true, .ints .u32 out⟩)]) (wInts a).length ?_ ?_ ?_
      · kernel_rfl
      · exact ⟨0, List.replicate ((wInts a).length + (wInts b).length) 0, rfl, by omega, by simp, (fun i => by rw [getD_replicate]; decide), (fun j _ => getD_replicate), by rw [valI_zeros (k := 0) (fun i _ _ => getD_replicate) (by omega)]; simp [valI], rfl, rfl⟩
      rintro m _ _ ⟨i, out, rfl, hi, hlen, hw, hz, hval, rfl, rfl⟩
      by_cases hlt : i < (wInts a).length
      · have t1 : decide ((i : Int) < ((wInts a).length : Int)) = true := decide_eq_true (by omega)
        have e1 : 0 + (i : Int).toNat = i := by omega
        have e2 : IntKind.i64.wrap ((i : Int) + 1) = ((i + 1 : Nat) : Int) := by rw [wrap_i64 (by omega) (by omega)]; omega
        obtain ⟨w, hww⟩ := Int.eq_ofNat_of_zero_le (wInts_w32 a i).1
        have hw2 := (wInts_w32 a i).2
        have hal := wArr_len a
        have e3 : (wArr a).getD i 0 = (w : Int) := by rw [wArr_get hlt]; exact hww
        conv => whnf
        (repeat ((first | refine step_w1 rfl rfl ?_ | refine And.intro (by first | decide | omega | (simp only [tl0, dlen, List.length_replicate, List.length_set, List.length_map, List.length_zipWith, List.length_take, List.length_append, List.length_cons, List.length_nil]; omega)) ?_ | rw [t1] | rw [e1] | rw [e3]); conv => whnf))
        refine SW_loopN hE (fun k => k) [4, 8, 9, 10, 11, 12, 53, 54, 55, 60, 61, 62] [4, 1001, 1002, 52] (fun m fr hp => ∃ (k : Nat) (o2 : List Int) (c : Nat), m = (wInts b).length - k ∧ k ≤ (wInts b).length ∧ c < 4294967296 ∧ o2.length = (wInts a).length + (wInts b).length ∧ W32 o2 ∧ (∀ j, i + k ≤ j → o2.getD j 0 = out.getD j 0) ∧ valI o2 (i + k) + c * 4294967296 ^ (i + k) = valI out (i + k) + w * 4294967296 ^ i * valI (wInts b) k ∧
          fr = [(4, .ptr 4 0 0 0), (8, .slc 1002 1 0 (wInts b).length), (9, .slc 52 1 0 ((wInts a).length + (wInts b).length)), (10, .val (.int .i64 i)), (11, .val (.int .u32 w)), (12, .val (.int .u64 c)), (53, .slc 1001 1 0 (wInts a).length), (54, .val (.int .i64 ((wInts a).length : Nat))), (55, .val (.int .i64 i)), (60, .slc 1002 1 0 (wInts b).length), (61, .val (.int .i64 ((wInts b).length : Nat))), (62, .val (.int .i64 k))] ∧ hp = [(4, ⟨32, true, .one [.nat 0]⟩), (1001, ⟨95, true, .ints .u32 (wArr a)⟩), (1002, ⟨95, true, .ints .u32 (wArr b)⟩), (52, ⟨95, true, .ints .u32 o2⟩)]) (wInts b).length ?_ ?_ ?_
        · kernel_rfl
        · exact ⟨0, out, 0, rfl, by omega, by omega, hlen, hw, (fun j _ => rfl), by simp [valI], rfl, rfl⟩
        rintro m _ _ ⟨k, o2, c, rfl, hk, hc, hlen2, hw2', hrest, hval2, rfl, rfl⟩
        have e4 : IntKind.i64.wrap ((k : Int) + 1) = ((k + 1 : Nat) : Int) := by rw [wrap_i64 (by omega) (by omega)]; omega
        have hbl := wArr_len b
        by_cases hklt : k < (wInts b).length
        · have t2 : decide ((k : Int) < ((wInts b).length : Int)) = true := decide_eq_true (by omega)
          have e5 : 0 + (k : Int).toNat = k := by omega
          have e6 : IntKind.i64.wrap ((i : Int) + k) = ((i + k : Nat) : Int) := by rw [wrap_i64 (by omega) (by omega)]; omega
          have e7 : 0 + ((i + k : Nat) : Int).toNat = i + k := by omega
          obtain ⟨v, hvv⟩ := Int.eq_ofNat_of_zero_le (wInts_w32 b k).1
          have hv2 := (wInts_w32 b k).2
          obtain ⟨o, ho⟩ := Int.eq_ofNat_of_zero_le (hw2' (i + k)).1
          have ho2 := (hw2' (i + k)).2
          have e8 : (wArr b).getD k 0 = (v : Int) := by rw [wArr_get hklt]; exact hvv
          have hpv : w * v ≤ 4294967295 * 4294967295 := Nat.mul_le_mul (by omega) (by omega)
          have e9 : IntKind.u64.wrap ((c : Int) + IntKind.u64.wrap (IntKind.u64.wrap (IntKind.u64.wrap (w : Int) * IntKind.u64.wrap (v : Int)) + IntKind.u64.wrap (o : Int))) = ((c + (w * v + o) : Nat) : Int) := by
            rw [wu64 (n := w) (by omega), wu64 (n := v) (by omega), wu64 (n := o) (by omega), ← Int.natCast_mul, wu64 (n := w * v) (by omega), ← Int.natCast_add, wu64 (n := w * v + o) (by omega), ← Int.natCast_add, wu64 (by omega)]
          have e10 : IntKind.u32.wrap ((c + (w * v + o) : Nat) : Int) = (((c + (w * v + o)) % 4294967296 : Nat) : Int) := wu32m _
          have e11 : ishr .u64 ((c + (w * v + o) : Nat) : Int) 32 = (((c + (w * v + o)) / 4294967296 : Nat) : Int) := ishr_hi _
          have hc' : (c + (w * v + o)) / 4294967296 < 4294967296 := by omega
          have hstep := mul_step (i := i) (k := k) (Y := wInts b) (by omega) ho (by rw [← hrest (i + k) (Nat.le_refl _)]; exact ho) hvv hval2
          conv => whnf
          (repeat ((first | refine step_w1 rfl rfl ?_ | refine And.intro (by first | decide | omega | (simp only [tl0, dlen, List.length_replicate, List.length_set, List.length_map, List.length_zipWith, List.length_take, List.length_append, List.length_cons, List.length_nil]; omega)) ?_ | rw [t2] | rw [e5] | rw [e8] | rw [e6] | rw [e7] | rw [ho] | rw [e9] | rw [e10] | rw [e11] | rw [e4]); conv => whnf))
          exact ⟨(wInts b).length - (k + 1), fun k => k, [4, 8, 9, 10, 11, 12, 53, 54, 55, 60, 61, 62], [4, 1001, 1002, 52], by omega, by kernel_rfl, k + 1, _, _, rfl, by omega, hc', by simpa using hlen2, hw2'.set (by omega) (by omega), (fun j hj => by rw [getD_set, if_neg (by omega)]; exact hrest j (by omega)), hstep, rfl, rfl⟩
        · have hk' : k = (wInts b).length := by omega
          subst hk'
          have t2 : decide (((wInts b).length : Int) < ((wInts b).length : Int)) = false := decide_eq_false (by omega)
          have e6 : IntKind.i64.wrap ((i : Int) + ((wInts b).length : Int)) = ((i + (wInts b).length : Nat) : Int) := by rw [wrap_i64 (by omega) (by omega)]; omega
          have e7 : 0 + ((i + (wInts b).length : Nat) : Int).toNat = i + (wInts b).length := by omega
          have e8 : IntKind.u32.wrap (c : Int) = (c : Int) := wu32 hc
          have hfin := mul_row (X := wInts a) (o2 := o2) (by omega) (by rw [hrest _ (Nat.le_refl _)]; exact hz _ (Nat.le_refl _)) hww (wInts_val b) hval hval2
          conv => whnf
          (repeat ((first | refine step_w2 rfl rfl ?_ | refine And.intro (by first | decide | omega | (simp only [tl0, dlen, List.length_replicate, List.length_set, List.length_map, List.length_zipWith, List.length_take, List.length_append, List.length_cons, List.length_nil]; omega)) ?_ | rw [t2] | rw [e6] | rw [e7] | rw [e8] | rw [e2]); conv => whnf))
          exact ⟨(wInts a).length - (i + 1), fun k => k, [4, 8, 9, 53, 54, 55], [4, 1001, 1002, 52], by omega, by kernel_rfl, i + 1, _, rfl, by omega, by simpa using hlen2, hw2'.set (by omega) (by omega), (fun j hj => by rw [getD_set, if_neg (by omega), hrest j (by omega)]; exact hz j (by omega)), by rw [show i + 1 + (wInts b).length = i + (wInts b).length + 1 from by omega]; exact hfin, rfl, rfl⟩
      · have hi' : i = (wInts a).length := by omega
        subst hi'
        have t1 : decide (((wInts a).length : Int) < ((wInts a).length : Int)) = false := decide_eq_false (by omega)
        rw [wInts_val] at hval
        have hsum : (valI out ((wInts a).length + (wInts b).length)).toNat = a * b := by
          rw [hval, ← Int.natCast_mul, Int.toNat_natCast]
        have kof := c_of out ((wInts a).length + (wInts b).length) (by omega) (by omega) hw 52 true
        rw [hsum] at kof
        conv => whnf
        (repeat (first | (refine step_w2 rfl rfl ?_; conv => whnf) | (refine g_c1 (by assumption) rfl ?_; conv => whnf) | (rw [t1]; conv => whnf)))
        exact Recast.refl _
    · rw [big_eq, decide_eq_false h1]
      (repeat ((first | refine step_w2 rfl rfl ?_ | refine step_i (by kernel_rfl) ?_ | refine And.intro (by first | decide | omega | (simp only [tl0, dlen, List.length_replicate, List.length_set, List.length_map, List.length_zipWith, List.length_take, List.length_append, List.length_cons, List.length_nil]; omega)) ?_ | refine g_cn (by assumption) rfl ?_ | refine g_o (op_pickF rfl (ev_ok rfl) (ev_ok rfl)) ?_ | rw [ew]); conv => whnf))
      refine SW_loopN hE (fun k => k) [4, 8, 9, 53, 54, 55] [4, 1001, 1002, 52] (fun m fr hp => ∃ (i : Nat) (out : List Int), m = (wInts a).length - i ∧ i ≤ (wInts a).length ∧ out.length = (wInts a).length + (wInts b).length ∧ W32 out ∧ (∀ j, i + (wInts b).length ≤ j → out.getD j 0 = 0) ∧ valI out (i + (wInts b).length) = valI (wInts a) i * b ∧
        fr = [(4, .ptr 4 0 0 0), (8, .slc 1002 1 0 (wInts b).length), (9, .slc 52 1 0 ((wInts a).length + (wInts b).length)), (53, .slc 1001 1 0 (wInts a).length), (54, .val (.int .i64 ((wInts a).length : Nat))), (55, .val (.int .i64 i))] ∧ hp = [(4, ⟨32, true, .one [.nat 0]⟩), (1001, ⟨95, true, .ints .u32 (wArr a)⟩), (1002, ⟨95, true, .ints .u32 (wArr b)⟩), (52, ⟨95, true, .ints .u32 out⟩)]) (wInts a).length ?_ ?_ ?_
      · kernel_rfl
      · exact ⟨0, List.replicate ((wInts a).length + (wInts b).length) 0, rfl, by omega, by simp, (fun i => by rw [getD_replicate]; decide), (fun j _ => getD_replicate), by rw [valI_zeros (k := 0) (fun i _ _ => getD_replicate) (by omega)]; simp [valI], rfl, rfl⟩
      rintro m _ _ ⟨i, out, rfl, hi, hlen, hw, hz, hval, rfl, rfl⟩
      by_cases hlt : i < (wInts a).length
      · have t1 : decide ((i : Int) < ((wInts a).length : Int)) = true := decide_eq_true (by omega)
        have e1 : 0 + (i : Int).toNat = i := by omega
        have e2 : IntKind.i64.wrap ((i : Int) + 1) = ((i + 1 : Nat) : Int) := by rw [wrap_i64 (by omega) (by omega)]; omega
        obtain ⟨w, hww⟩ := Int.eq_ofNat_of_zero_le (wInts_w32 a i).1
        have hw2 := (wInts_w32 a i).2
        have hal := wArr_len a
        have e3 : (wArr a).getD i 0 = (w : Int) := by rw [wArr_get hlt]; exact hww
        conv => whnf
        (repeat ((first | refine step_w1 rfl rfl ?_ | refine And.intro (by first | decide | omega | (simp only [tl0, dlen, List.length_replicate, List.length_set, List.length_map, List.length_zipWith, List.length_take, List.length_append, List.length_cons, List.length_nil]; omega)) ?_ | rw [t1] | rw [e1] | rw [e3]); conv => whnf))
        refine SW_loopN hE (fun k => k) [4, 8, 9, 10, 11, 12, 53, 54, 55, 60, 61, 62] [4, 1001, 1002, 52] (fun m fr hp => ∃ (k : Nat) (o2 : List Int) (c : Nat), m = (wInts b).length - k ∧ k ≤ (wInts b).length ∧ c < 4294967296 ∧ o2.length = (wInts a).length + (wInts b).length ∧ W32 o2 ∧ (∀ j, i + k ≤ j → o2.getD j 0 = out.getD j 0) ∧ valI o2 (i + k) + c * 4294967296 ^ (i + k) = valI out (i + k) + w * 4294967296 ^ i * valI (wInts b) k ∧
          fr = [(4, .ptr 4 0 0 0), (8, .slc 1002 1 0 (wInts b).length), (9, .slc 52 1 0 ((wInts a).length + (wInts b).length)), (10, .val (.int .i64 i)), (11, .val (.int .u32 w)), (12, .val (.int .u64 c)), (53, .slc 1001 1 0 (wInts a).length), (54, .val (.int .i64 ((wInts a).length : Nat))), (55, .val (.int .i64 i)), (60, .slc 1002 1 0 (wInts b).length), (61, .val (.int .i64 ((wInts b).length : Nat))), (62, .val (.int .i64 k))] ∧ hp = [(4, ⟨32, true, .one [.nat 0]⟩), (1001, ⟨95, true, .ints .u32 (wArr a)⟩), (1002, ⟨95, true, .ints .u32 (wArr b)⟩), (52, ⟨95, true, .ints .u32 o2⟩)]) (wInts b).length ?_ ?_ ?_
        · kernel_rfl
        · exact ⟨0, out, 0, rfl, by omega, by omega, hlen, hw, (fun j _ => rfl), by simp [valI], rfl, rfl⟩
        rintro m _ _ ⟨k, o2, c, rfl, hk, hc, hlen2, hw2', hrest, hval2, rfl, rfl⟩
        have e4 : IntKind.i64.wrap ((k : Int) + 1) = ((k + 1 : Nat) : Int) := by rw [wrap_i64 (by omega) (by omega)]; omega
        have hbl := wArr_len b
        by_cases hklt : k < (wInts b).length
        · have t2 : decide ((k : Int) < ((wInts b).length : Int)) = true := decide_eq_true (by omega)
          have e5 : 0 + (k : Int).toNat = k := by omega
          have e6 : IntKind.i64.wrap ((i : Int) + k) = ((i + k : Nat) : Int) := by rw [wrap_i64 (by omega) (by omega)]; omega
          have e7 : 0 + ((i + k : Nat) : Int).toNat = i + k := by omega
          obtain ⟨v, hvv⟩ := Int.eq_ofNat_of_zero_le (wInts_w32 b k).1
          have hv2 := (wInts_w32 b k).2
          obtain ⟨o, ho⟩ := Int.eq_ofNat_of_zero_le (hw2' (i + k)).1
          have ho2 := (hw2' (i + k)).2
          have e8 : (wArr b).getD k 0 = (v : Int) := by rw [wArr_get hklt]; exact hvv
          have hpv : w * v ≤ 4294967295 * 4294967295 := Nat.mul_le_mul (by omega) (by omega)
          have e9 : IntKind.u64.wrap ((c : Int) + IntKind.u64.wrap (IntKind.u64.wrap (IntKind.u64.wrap (w : Int) * IntKind.u64.wrap (v : Int)) + IntKind.u64.wrap (o : Int))) = ((c + (w * v + o) : Nat) : Int) := by
            rw [wu64 (n := w) (by omega), wu64 (n := v) (by omega), wu64 (n := o) (by omega), ← Int.natCast_mul, wu64 (n := w * v) (by omega), ← Int.natCast_add, wu64 (n := w * v + o) (by omega), ← Int.natCast_add, wu64 (by omega)]
          have e10 : IntKind.u32.wrap ((c + (w * v + o) : Nat) : Int) = (((c + (w * v + o)) % 4294967296 : Nat) : Int) := wu32m _
          have e11 : ishr .u64 ((c + (w * v + o) : Nat) : Int) 32 = (((c + (w * v + o)) / 4294967296 : Nat) : Int) := ishr_hi _
          have hc' : (c + (w * v + o)) / 4294967296 < 4294967296 := by omega
          have hstep := mul_step (i := i) (k := k) (Y := wInts b) (by omega) ho (by rw [← hrest (i + k) (Nat.le_refl _)]; exact ho) hvv hval2
          conv => whnf
          (repeat ((first | refine step_w1 rfl rfl ?_ | refine And.intro (by first | decide | omega | (simp only [tl0, dlen, List.length_replicate, List.length_set, List.length_map, List.length_zipWith, List.length_take, List.length_append, List.length_cons, List.length_nil]; omega)) ?_ | rw [t2] | rw [e5] | rw [e8] | rw [e6] | rw [e7] | rw [ho] | rw [e9] | rw [e10] | rw [e11] | rw [e4]); conv => whnf))
          exact ⟨(wInts b).length - (k + 1), fun k => k, [4, 8, 9, 10, 11, 12, 53, 54, 55, 60, 61, 62], [4, 1001, 1002, 52], by omega, by kernel_rfl, k + 1, _, _, rfl, by omega, hc', by simpa using hlen2, hw2'.set (by omega) (by omega), (fun j hj => by rw [getD_set, if_neg (by omega)]; exact hrest j (by omega)), hstep, rfl, rfl⟩
        · have hk' : k = (wInts b).length := by omega
          subst hk'
          have t2 : decide (((wInts b).length : Int) < ((wInts b).length : Int)) = false := decide_eq_false (by omega)
          have e6 : IntKind.i64.wrap ((i : Int) + ((wInts b).length : Int)) = ((i + (wInts b).length : Nat) : Int) := by rw [wrap_i64 (by omega) (by omega)]; omega
          have e7 : 0 + ((i + (wInts b).length : Nat) : Int).toNat = i + (wInts b).length := by omega
          have e8 : IntKind.u32.wrap (c : Int) = (c : Int) := wu32 hc
          have hfin := mul_row (X := wInts a) (o2 := o2) (by omega) (by rw [hrest _ (Nat.le_refl _)]; exact hz _ (Nat.le_refl _)) hww (wInts_val b) hval hval2
          conv => whnf
          (repeat ((first | refine step_w2 rfl rfl ?_ | refine And.intro (by first | decide | omega | (simp only [tl0, dlen, List.length_replicate, List.length_set, List.length_map, List.length_zipWith, List.length_take, List.length_append, List.length_cons, List.length_nil]; omega)) ?_ | rw [t2] | rw [e6] | rw [e7] | rw [e8] | rw [e2]); conv => whnf))
          exact ⟨(wInts a).length - (i + 1), fun k => k, [4, 8, 9, 53, 54, 55], [4, 1001, 1002, 52], by omega, by kernel_rfl, i + 1, _, rfl, by omega, by simpa using hlen2, hw2'.set (by omega) (by omega), (fun j hj => by rw [getD_set, if_neg (by omega), hrest j (by omega)]; exact hz j (by omega)), by rw [show i + 1 + (wInts b).length = i + (wInts b).length + 1 from by omega]; exact hfin, rfl, rfl⟩
      · have hi' : i = (wInts a).length := by omega
        subst hi'
        have t1 : decide (((wInts a).length : Int) < ((wInts a).length : Int)) = false := decide_eq_false (by omega)
        rw [wInts_val] at hval
        have hsum : (valI out ((wInts a).length + (wInts b).length)).toNat = a * b := by
          rw [hval, ← Int.natCast_mul, Int.toNat_natCast]
        have kof := c_of out ((wInts a).length + (wInts b).length) (by omega) (by omega) hw 52 true
        rw [hsum] at kof
        conv => whnf
        (repeat (first | (refine step_w2 rfl rfl ?_; conv => whnf) | (refine g_c1 (by assumption) rfl ?_; conv => whnf) | (rw [t1]; conv => whnf)))
        exact Recast.refl _
end Go.Proofs.YtkpfineikahgfaaGreatDoor
