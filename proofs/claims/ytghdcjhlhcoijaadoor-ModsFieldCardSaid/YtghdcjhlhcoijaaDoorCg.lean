/- Contracts: the smallest of nats and ints. -/
import Derived.Test.YtghdcjhlhcoijaaDoorTab
namespace Go.Proofs.YtghdcjhlhcoijaaDoor
open Go.Sx
set_option maxRecDepth 100000

theorem guard_nat : Tryd.prog.eqGuardType Tryd.prog.depth 45 = false := by kernel_rfl
theorem guard_size : Tryd.prog.eqGuardType Tryd.prog.depth 47 = false := by kernel_rfl

theorem eqTy_nat (a b : Nat) : eqTy tab good 10 45 (natCells a) (natCells b) = some (decide (a = b)) := by
  rw [← nat_eq_iff, ← Bool.and_true (low a == low b && _), Bool.and_assoc]
  rfl
theorem eqTy_size (a b : Nat) : eqTy tab good 10 47 (natCells a) (natCells b) = some (decide (a = b)) := by
  have : eqTy tab good 10 47 (natCells a) (natCells b) = some (((low a == low b) && (((big a).toList == (big b).toList) && true)) && true) := rfl
  rw [this, Bool.and_true, Bool.and_true, nat_eq_iff]

theorem c_nOf (n : Nat) (hn : n < 18446744073709551616) : CallOK Tryd.prog 44 [.val (.int .u64 n)] [] (.nat n) [] [] := by
  refine callV tabOK mixedOK Tryd.func44 rfl (by kernel_rfl) rfl rfl (by kernel_rfl) rfl ?_
  intro W0 w0 ρ0 hE
  conv => whnf
  exact recast_flat (l := natCells n) (by rw [natCells_small hn]; rfl) rfl (fun _ h => by cases h)

theorem c_nZero (n : Nat) : CallOK Tryd.prog 85 [.nat n] [] (.val (.bool (decide (n = 0)))) [] [] := by
  refine callV tabOK mixedOK Tryd.func85 rfl (by kernel_rfl) rfl rfl (by kernel_rfl) rfl ?_
  intro W0 w0 ρ0 hE
  conv => whnf
  refine ⟨_, op_eqAgg tabOK goodOK rfl (ev_ok rfl) (ev_ok rfl) rfl rfl rfl rfl (eqTy_nat n 0) guard_nat, ?_⟩
  conv => whnf
  exact Recast.refl _

theorem c_sZero (n : Nat) : CallOK Tryd.prog 68 [.nat n] [] (.val (.bool (decide (n = 0)))) [] [] := by
  refine callV tabOK mixedOK Tryd.func68 rfl (by kernel_rfl) rfl rfl (by kernel_rfl) rfl ?_
  intro W0 w0 ρ0 hE
  conv => whnf
  refine ⟨_, op_eqAgg tabOK goodOK rfl (ev_ok rfl) (ev_ok rfl) rfl rfl rfl rfl (eqTy_size n 0) guard_size, ?_⟩
  conv => whnf
  exact Recast.refl _

theorem c_Abs (z : Int) : CallOK Tryd.prog 45 [.int z] [] (.nat z.natAbs) [] [] := by
  refine callV tabOK mixedOK Tryd.func45 rfl (by kernel_rfl) rfl rfl (by kernel_rfl) rfl ?_
  intro W0 w0 ρ0 hE
  conv => whnf
  exact recast_flat (l := natCells z.natAbs) rfl rfl (fun _ h => by cases h)

theorem big_eq (n : Nat) : ((big n).toList == (ByteArray.mk #[]).toList) = decide (n < 18446744073709551616) := by
  rw [Bool.eq_iff_iff, show (ByteArray.mk #[]).toList = [] from by rw [ByteArray.toList_eq]]
  simp [big_empty]

theorem c_U64 (n : Nat) : CallOK Tryd.prog 46 [.nat n] [] (.tup [.val (.int .u64 (low n)), .val (.bool (decide (n < 18446744073709551616)))]) [] [] := by
  refine callV tabOK mixedOK Tryd.func46 rfl (by kernel_rfl) rfl rfl (by kernel_rfl) rfl ?_
  intro W0 w0 ρ0 hE
  conv => whnf
  refine ⟨by kernel_rfl, ?_⟩
  conv => whnf
  rw [big_eq]
  exact Recast.refl _

/-- The sign put before a size. -/
def signed (neg : Bool) (n : Nat) : Int := if neg then -(n : Int) else n

theorem c_From (neg : Bool) (n : Nat) : CallOK Tryd.prog 41 [.val (.bool neg), .nat n] [] (.int (signed neg n)) [] [] := by
  refine callV tabOK mixedOK Tryd.func41 rfl (by kernel_rfl) rfl rfl (by kernel_rfl) rfl ?_
  intro W0 w0 ρ0 hE
  cases neg
  · conv => whnf
    refine ⟨(fun h => by cases h), fun _ => ?_⟩
    conv => whnf
    refine ⟨(fun h => by cases h), fun _ => ?_⟩
    conv => whnf
    refine ⟨(fun h => by cases h), fun _ => ?_⟩
    conv => whnf
    refine ⟨.val (.bool false), [], [], [], op_pick rfl (ev_ok rfl) (fun hb => by cases hb) (fun _ => ev_ok rfl) rfl (c1 := .any), nil_fk, nil_new, nil_upd, ?_⟩
    conv => whnf
    refine ⟨by kernel_rfl, ?_⟩
    conv => whnf
    refine recast_flat (l := intCells (signed false n)) ?_ rfl (fun _ h => by cases h)
    have e1 : (signed false n).natAbs = n := by simp [signed]
    have e2 : decide (signed false n < 0) = false := by simp [signed]
    rw [intCells, e1, e2]
    rfl
  · conv => whnf
    refine ⟨fun _ => ?_, fun h => by cases h⟩
    conv => whnf
    refine ⟨fun _ => ?_, fun h => by cases h⟩
    conv => whnf
    refine ⟨[], _, [], [], c_sZero n, nil_fk, nil_new, nil_upd, ?_⟩
    conv => whnf
    refine ⟨fun _ => ?_, fun h => by cases h⟩
    conv => whnf
    refine ⟨.val (.bool (!decide (n = 0))), [], [], [], op_pick rfl (ev_ok rfl) (fun _ => ev_ok rfl) (fun hb => by cases hb) rfl (c2 := .any), nil_fk, nil_new, nil_upd, ?_⟩
    conv => whnf
    refine ⟨by kernel_rfl, ?_⟩
    conv => whnf
    refine recast_flat (l := intCells (signed true n)) ?_ rfl (fun _ h => by cases h)
    have e1 : (signed true n).natAbs = n := by simp [signed]
    have e2 : decide (signed true n < 0) = !decide (n = 0) := by rw [Bool.eq_iff_iff]; simp [signed]; omega
    rw [intCells, e1, e2]
    rfl

theorem c_Sign (z : Int) : CallOK Tryd.prog 71 [.int z] [] (.val (.int .i64 z.sign)) [] [] := by
  refine callV tabOK mixedOK Tryd.func71 rfl (by kernel_rfl) rfl rfl (by kernel_rfl) rfl ?_
  intro W0 w0 ρ0 hE
  conv => whnf
  refine ⟨[], _, [], [], c_sZero z.natAbs, nil_fk, nil_new, nil_upd, ?_⟩
  conv => whnf
  refine ⟨fun h => ?_, fun h => ?_⟩
  · have hz : z = 0 := by have := of_decide_eq_true h; omega
    conv => whnf
    subst hz
    exact Recast.refl _
  · have hz : z ≠ 0 := by have := of_decide_eq_false h; omega
    conv => whnf
    refine ⟨fun h => ?_, fun h => ?_⟩
    · have hz : z.sign = -1 := Int.sign_eq_neg_one_of_neg (of_decide_eq_true h)
      conv => whnf
      rw [hz]
      exact Recast.refl _
    · have hz : z.sign = 1 := Int.sign_eq_one_of_pos (by have := of_decide_eq_false h; omega)
      conv => whnf
      rw [hz]
      exact Recast.refl _

theorem c_Neg (z : Int) : CallOK Tryd.prog 27 [.int z] [] (.int (-z)) [] [] := by
  refine callV tabOK mixedOK Tryd.func27 rfl (by kernel_rfl) rfl rfl (by kernel_rfl) rfl ?_
  intro W0 w0 ρ0 hE
  conv => whnf
  refine ⟨[], _, [], [], c_From (!decide (z < 0)) z.natAbs, nil_fk, nil_new, nil_upd, ?_⟩
  have e : signed (!decide (z < 0)) z.natAbs = -z := by
    unfold signed
    by_cases h : z < 0 <;> simp [h] <;> omega
  rw [e]
  conv => whnf
  exact Recast.refl _

theorem c_iOf (z : Int) (h0 : -9223372036854775808 ≤ z) (h1 : z < 9223372036854775808) : CallOK Tryd.prog 35 [.val (.int .i64 z)] [] (.int z) [] [] := by
  refine callV tabOK mixedOK Tryd.func35 rfl (by kernel_rfl) rfl rfl (by kernel_rfl) rfl ?_
  intro W0 w0 ρ0 hE
  conv => whnf
  refine ⟨fun h => ?_, fun h => ?_⟩
  · have hz := of_decide_eq_true h
    conv => whnf
    have e1 : IntKind.u64.wrap (0 - IntKind.u64.wrap z) = ((z.natAbs : Nat) : Int) := by rw [wrap_u64', wrap_u64']; omega
    rw [e1]
    refine ⟨[], _, [], [], c_nOf z.natAbs (by omega), nil_fk, nil_new, nil_upd, ?_⟩
    conv => whnf
    refine ⟨[], _, [], [], c_From true z.natAbs, nil_fk, nil_new, nil_upd, ?_⟩
    have e : signed true z.natAbs = z := by simp [signed]; omega
    rw [e]
    conv => whnf
    exact Recast.refl _
  · have hz := of_decide_eq_false h
    conv => whnf
    have e1 : IntKind.u64.wrap z = ((z.natAbs : Nat) : Int) := by rw [wrap_u64']; omega
    rw [e1]
    refine ⟨[], _, [], [], c_nOf z.natAbs (by omega), nil_fk, nil_new, nil_upd, ?_⟩
    conv => whnf
    refine ⟨[], _, [], [], c_From false z.natAbs, nil_fk, nil_new, nil_upd, ?_⟩
    have e : signed false z.natAbs = z := by simp [signed]; omega
    rw [e]
    conv => whnf
    exact Recast.refl _
end Go.Proofs.YtghdcjhlhcoijaaDoor
