/- Contracts: nats.Mul for small numbers. -/
import Derived.Test.YtghdcjhlhcoijaaDoorCm
import Derived.Test.YtghdcjhlhcoijaaDoorCl
namespace Go.Proofs.YtghdcjhlhcoijaaDoor
open Go.Sx
set_option maxRecDepth 100000
set_option maxHeartbeats 2000000

theorem mul4 (p : Nat) : cutN [((p % 4294967296 : Nat) : Int), ((p / 4294967296 : Nat) : Int), 0, 0] 4 ≤ 2 ∧ valN [((p % 4294967296 : Nat) : Int), ((p / 4294967296 : Nat) : Int), 0, 0] (cutN [((p % 4294967296 : Nat) : Int), ((p / 4294967296 : Nat) : Int), 0, 0] 4) = p := by
  have hp : p = p % 4294967296 + p / 4294967296 * 4294967296 := by omega
  generalize p % 4294967296 = u at *
  generalize p / 4294967296 = v at *
  subst hp
  by_cases hv : v = 0
  · subst hv
    by_cases hu : u = 0
    · subst hu; exact ⟨by decide, by decide⟩
    · simp [cutN, hu, valN]
  · simp [cutN, hv, valN]

theorem s_Mul (a b : Nat) (ha : a < 18446744073709551616) (hb : b < 18446744073709551616) (h : a * b < 18446744073709551616) :
    CallOK Tryd.prog 60 [.nat a, .nat b] [] (.nat (a * b)) [] [] := by
  refine callV tabOK mixedOK Tryd.func60 rfl (by kernel_rfl) rfl rfl (by kernel_rfl) rfl ?_
  intro W0 w0 ρ0 hE
  conv => whnf
  rw [big_eq, decide_eq_true ha]
  refine ⟨fun _ => ?_, fun h => by cases h⟩
  conv => whnf
  refine ⟨fun _ => ?_, fun h => by cases h⟩
  conv => whnf
  refine ⟨fun _ => ?_, fun h => by cases h⟩
  conv => whnf
  rw [big_eq, decide_eq_true hb]
  refine ⟨.val (.bool true), [], [], [], op_pick rfl (ev_ok rfl) (fun _ => ev_ok rfl) (fun hb => by cases hb) rfl (c2 := .any), nil_fk, nil_new, nil_upd, ?_⟩
  conv => whnf
  refine ⟨fun _ => ?_, fun h => by cases h⟩
  conv => whnf
  rw [low_small ha, low_small hb]
  refine ⟨[], _, [], [], c_Mul64 a b ha hb, nil_fk, nil_new, nil_upd, ?_⟩
  rw [Nat.mod_eq_of_lt h, Nat.div_eq_of_lt h]
  generalize a * b = p at *
  conv => whnf
  refine ⟨by decide, ?_⟩
  conv => whnf
  refine ⟨by decide, ?_⟩
  conv => whnf
  have e1 : IntKind.u32.wrap (p : Int) = ((p % 4294967296 : Nat) : Int) := by rw [wrap_u32']; omega
  have e2 : IntKind.u32.wrap (ishr .u64 (p : Int) 32) = ((p / 4294967296 : Nat) : Int) := by rw [ishr_hi, wrap_u32 (by omega) (by omega)]
  rw [e1, e2]
  rw [show IntKind.u32.wrap ((0 : Nat) : Int) = 0 from rfl, show IntKind.u32.wrap (ishr .u64 ((0 : Nat) : Int) 32) = 0 from rfl]
  obtain ⟨k1, k2⟩ := mul4 p
  have so := s_of [((p % 4294967296 : Nat) : Int), ((p / 4294967296 : Nat) : Int), 0, 0] 4 (by simp) (by simp) (by simp; omega) 41 true k1
  rw [k2] at so
  refine ⟨_, _, [], [], so, one_fk rfl, nil_new, nil_upd, ?_⟩
  conv => whnf
  exact Recast.refl _

end Go.Proofs.YtghdcjhlhcoijaaDoor
