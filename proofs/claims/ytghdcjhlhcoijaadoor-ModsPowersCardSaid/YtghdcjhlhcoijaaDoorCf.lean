/- Contracts: mods.Next, gussetlaw06.P. -/
import Derived.Test.YtghdcjhlhcoijaaDoorCe
namespace Go.Proofs.YtghdcjhlhcoijaaDoor
open Go.Sx
set_option maxRecDepth 100000

/-- The first q below 2^31 that the test takes, from q on; f counts what is left. -/
def nextF : Nat → Nat → Int × Int
  | 0, _ => (0, 3)
  | f + 1, q => if primeF q then (q, 0) else nextF f (q + 1)

theorem c_Next (n : Nat) (hn : n < 4294967296) :
    CallOK Tryd.prog 8 [.val (.int .u32 n)] [] (.tup [.val (.int .u32 (nextF (2147483648 - (n + 1)) (n + 1)).1), .val (.int .i64 (nextF (2147483648 - (n + 1)) (n + 1)).2)]) [] [] := by
  refine callV tabOK mixedOK Tryd.func8 rfl (by kernel_rfl) rfl rfl (by kernel_rfl) rfl ?_
  intro W0 w0 ρ0 hE
  conv => whnf
  have e1 : IntKind.u64.wrap (IntKind.u64.wrap (n : Int) + 1) = ((n + 1 : Nat) : Int) := by rw [wrap_u64 (n := (n : Int)) (by omega) (by omega), wrap_u64 (by omega) (by omega)]; omega
  rw [e1]
  refine SW_loopN hE (fun k => k) [4] [] (fun m fr hp => ∃ q, m = 2147483648 - q ∧ q ≤ 4294967296 ∧ nextF (2147483648 - q) q = nextF (2147483648 - (n + 1)) (n + 1) ∧ fr = [(4, .val (.int .u64 (q : Nat)))] ∧ hp = []) (2147483648 - (n + 1)) ?_ ?_ ?_
  · kernel_rfl
  · exact ⟨n + 1, rfl, by omega, rfl, rfl, rfl⟩
  rintro m _ _ ⟨q, rfl, hq0, hT, rfl, rfl⟩
  conv => whnf
  refine ⟨fun h => ?_, fun h => ?_⟩
  · have hq : q < 2147483648 := by have := of_decide_eq_true h; omega
    rw [show 2147483648 - q = (2147483648 - (q + 1)) + 1 from by omega] at hT
    simp only [nextF] at hT
    conv => whnf
    have e2 : IntKind.u32.wrap (q : Int) = q := wrap_u32 (by omega) (by omega)
    rw [e2]
    refine ⟨[], _, [], [], c_Prime q (by omega), nil_fk, nil_new, nil_upd, ?_⟩
    conv => whnf
    refine ⟨fun h => ?_, fun h => ?_⟩
    · rw [if_pos h] at hT
      conv => whnf
      rw [e2, ← hT]
      exact Recast.refl _
    · rw [if_neg (by simp [h])] at hT
      conv => whnf
      rw [show IntKind.u64.wrap ((q : Int) + 1) = ((q + 1 : Nat) : Int) from by rw [wrap_u64 (by omega) (by omega)]; omega]
      exact ⟨2147483648 - (q + 1), fun k => k, [4], [], by omega, by kernel_rfl, q + 1, rfl, by omega, hT, rfl, rfl⟩
  · have hq : 2147483648 - q = 0 := by have := of_decide_eq_false h; omega
    rw [hq] at hT
    simp only [nextF] at hT
    conv => whnf
    rw [← hT]
    exact Recast.refl _
end Go.Proofs.YtghdcjhlhcoijaaDoor
