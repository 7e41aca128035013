/- Contracts: bits.Mul64. -/
import Derived.Test.YtghdcjhlhcoijaaDoorTab
namespace Go.Proofs.YtghdcjhlhcoijaaDoor
open Go.Sx
set_option maxRecDepth 100000
set_option maxHeartbeats 2000000

theorem and32 (n : Nat) : n &&& 4294967295 = n % 4294967296 := by
  have := Nat.and_two_pow_sub_one_eq_mod n 32
  simpa using this

theorem iand_lo {n : Nat} (h : n < 18446744073709551616) : iand .u64 (n : Int) 4294967295 = ((n % 4294967296 : Nat) : Int) := by
  have := iand_u64 (x := n) (y := 4294967295) h (by decide)
  rw [and32] at this
  exact this
theorem ishr_hi (n : Nat) : ishr .u64 (n : Int) 32 = ((n / 4294967296 : Nat) : Int) := ishr_nat .u64 (s := 32) (by decide)

/-- The high word of the schoolbook product. -/
theorem mul_hi (x y : Nat) :
    x / 4294967296 * (y / 4294967296) + (x / 4294967296 * (y % 4294967296) + x % 4294967296 * (y % 4294967296) / 4294967296) / 4294967296 + ((x / 4294967296 * (y % 4294967296) + x % 4294967296 * (y % 4294967296) / 4294967296) % 4294967296 + x % 4294967296 * (y / 4294967296)) / 4294967296 = x * y / 18446744073709551616 := by
  have e1 : x * y = (x / 4294967296 * (y / 4294967296)) * 18446744073709551616 + (x / 4294967296 * (y % 4294967296)) * 4294967296 + (x % 4294967296 * (y / 4294967296)) * 4294967296 + x % 4294967296 * (y % 4294967296) := by
    have hx' : x = 4294967296 * (x / 4294967296) + x % 4294967296 := by omega
    have hy' : y = 4294967296 * (y / 4294967296) + y % 4294967296 := by omega
    generalize x / 4294967296 = a at *
    generalize x % 4294967296 = b at *
    generalize y / 4294967296 = c at *
    generalize y % 4294967296 = d at *
    rw [hx', hy', Nat.add_mul, Nat.mul_add, Nat.mul_add, Nat.mul_mul_mul_comm, Nat.mul_assoc 4294967296 a d, Nat.mul_left_comm b 4294967296 c]
    omega
  generalize x / 4294967296 * (y / 4294967296) = A at *
  generalize x / 4294967296 * (y % 4294967296) = B at *
  generalize x % 4294967296 * (y / 4294967296) = C at *
  generalize x % 4294967296 * (y % 4294967296) = D at *
  omega

theorem c_Mul64 (x y : Nat) (hx : x < 18446744073709551616) (hy : y < 18446744073709551616) :
    CallOK Tryd.prog 78 [.val (.int .u64 x), .val (.int .u64 y)] [] (.tup [.val (.int .u64 (x * y / 18446744073709551616 : Nat)), .val (.int .u64 (x * y % 18446744073709551616 : Nat))]) [] [] := by
  refine callV tabOK mixedOK Tryd.func78 rfl (by kernel_rfl) rfl rfl (by kernel_rfl) rfl ?_
  intro W0 w0 ρ0 hE
  conv => whnf
  iterate 5
    refine ⟨by decide, ?_⟩
    conv => whnf
  have hh := mul_hi x y
  have elo : IntKind.u64.wrap ((x : Int) * y) = ((x * y % 18446744073709551616 : Nat) : Int) := by rw [wrap_u64', ← Int.natCast_mul]; omega
  rw [elo, ishr_hi x, ishr_hi y, iand_lo hx, iand_lo hy]
  have ba : x / 4294967296 ≤ 4294967295 := by omega
  have bb : x % 4294967296 ≤ 4294967295 := by omega
  have bc : y / 4294967296 ≤ 4294967295 := by omega
  have bd : y % 4294967296 ≤ 4294967295 := by omega
  generalize x / 4294967296 = a at *
  generalize x % 4294967296 = b at *
  generalize y / 4294967296 = c at *
  generalize y % 4294967296 = d at *
  have pac := Nat.mul_le_mul ba bc
  have pad := Nat.mul_le_mul ba bd
  have pbc := Nat.mul_le_mul bb bc
  have pbd := Nat.mul_le_mul bb bd
  have wu : ∀ {n : Nat}, n < 18446744073709551616 → IntKind.u64.wrap (n : Int) = n := fun h => wrap_u64 (by omega) (by omega)
  rw [← Int.natCast_mul, ← Int.natCast_mul, ← Int.natCast_mul, ← Int.natCast_mul, wu (n := a * c) (by omega), wu (n := a * d) (by omega), wu (n := b * d) (by omega), wu (n := b * c) (by omega), ishr_hi (b * d), ← Int.natCast_add, wu (n := a * d + b * d / 4294967296) (by omega), ishr_hi, iand_lo (by omega), ← Int.natCast_add, ← Int.natCast_add, wu (n := a * c + (a * d + b * d / 4294967296) / 4294967296) (by omega), wu (n := (a * d + b * d / 4294967296) % 4294967296 + b * c) (by omega), ishr_hi, ← Int.natCast_add, hh, wu (by omega)]
  exact Recast.refl _
end Go.Proofs.YtghdcjhlhcoijaaDoor
