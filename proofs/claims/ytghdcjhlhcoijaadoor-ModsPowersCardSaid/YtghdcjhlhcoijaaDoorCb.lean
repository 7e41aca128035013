/- Contracts: mods.Pow. -/
import Derived.Test.YtghdcjhlhcoijaaDoorCa
namespace Go.Proofs.YtghdcjhlhcoijaaDoor
open Go.Sx
set_option maxRecDepth 100000

theorem md_lt {n p : Int} (h3 : 0 ≤ p) (hp : p ≠ 0) : 0 ≤ md n p ∧ md n p < p := by
  simp only [md, hp, if_false]
  exact ⟨Int.emod_nonneg _ hp, Int.emod_lt_of_pos n (by omega)⟩

theorem mul_cong {p x x' y y' : Int} (h : x % p = x' % p) (h' : y % p = y' % p) : (x * y) % p = (x' * y') % p := by
  rw [Int.mul_emod, h, h', ← Int.mul_emod]
theorem emod_cong (x p : Int) : (x % p) % p = x % p := Int.emod_emod_of_dvd _ (Int.dvd_refl p)
theorem pow_cong {p x x' : Int} (h : x % p = x' % p) : ∀ n : Nat, (x ^ n) % p = (x' ^ n) % p
  | 0 => by rw [Int.pow_zero, Int.pow_zero]
  | n + 1 => by rw [Int.pow_succ, Int.pow_succ]; exact mul_cong (pow_cong h n) h

/-- What stands at the head of Pow's loop. -/
structure PowI (t p : Int) (n : Nat) (out a : Int) : Prop where
  o0 : 0 ≤ out
  o1 : out < 4294967296
  a0 : 0 ≤ a
  a1 : a < 4294967296
  n1 : n < 18446744073709551616
  z : p = 0 → out = 0
  s : p ≠ 0 → out < p ∧ (out * a ^ n) % p = t % p

theorem PowI.step {t p out a : Int} {n : Nat} (h3 : 0 ≤ p) (h4 : p < 4294967296) (h : PowI t p n out a) : PowI t p (n / 2) (if n % 2 = 1 then md (out * a) p else out) (md (a * a) p) := by
  have hb := md_bd (n := out * a) h3
  have hc := md_bd (n := a * a) h3
  refine ⟨by split <;> first | exact hb.1 | exact h.o0, by split <;> first | omega | exact h.o1, hc.1, by omega, by have := h.n1; omega, fun hz => ?_, fun hz => ?_⟩
  · split
    · simp [md, hz]
    · exact h.z hz
  · obtain ⟨s1, s2⟩ := h.s hz
    refine ⟨by split <;> first | exact (md_lt h3 hz).2 | exact s1, ?_⟩
    rw [← s2]
    have hn : n = n % 2 + 2 * (n / 2) := by omega
    have hpow : a ^ n = a ^ (n % 2) * (a * a) ^ (n / 2) := by
      conv => lhs; rw [hn, Int.pow_add, Int.pow_mul]
      rw [show a ^ 2 = a * a from by rw [Int.pow_succ, Int.pow_succ, Int.pow_zero, Int.one_mul]]
    rw [hpow]
    simp only [md, hz, if_false]
    split
    · rename_i h1
      rw [h1, Int.pow_succ, Int.pow_zero, Int.one_mul, ← Int.mul_assoc]
      exact mul_cong (emod_cong _ _) (pow_cong (emod_cong _ _) _)
    · rename_i h1
      have h0 : n % 2 = 0 := by omega
      rw [h0, Int.pow_zero, Int.one_mul]
      exact mul_cong rfl (pow_cong (emod_cong _ _) _)

theorem c_Pow (a p : Int) (n : Nat) (ha : 0 ≤ a) (ha' : a < 4294967296) (hn : n < 18446744073709551616) (h3 : 0 ≤ p) (h4 : p < 4294967296) :
    CallOK Tryd.prog 20 [.val (.int .u32 a), .val (.int .u64 n), .val (.int .u32 p)] [] (.val (.int .u32 (md (a ^ n) p))) [] [] := by
  refine callV tabOK mixedOK Tryd.func20 rfl (by kernel_rfl) rfl rfl (by kernel_rfl) rfl ?_
  intro W0 w0 ρ0 hE
  conv => whnf
  refine ⟨[], _, [], [], c_mod 1 p (by omega) h3 h4, nil_fk, nil_new, nil_upd, ?_⟩
  conv => whnf
  have hb1 := md_bd (n := 1) h3
  refine SW_loopN hE (fun k => k) [0, 1, 2, 7] [] (fun m fr hp => ∃ out b, PowI (a ^ n) p m out b ∧ fr = [(0, .val (.int .u32 b)), (1, .val (.int .u64 m)), (2, .val (.int .u32 p)), (7, .val (.int .u32 out))] ∧ hp = []) n (by kernel_rfl)
    ⟨md 1 p, a, ⟨hb1.1, by omega, ha, ha', hn, fun hz => by simp [md, hz], fun hz => ⟨(md_lt h3 hz).2, by simp only [md, hz, if_false]; rw [show a ^ n = 1 * a ^ n from (Int.one_mul _).symm, ← Int.mul_assoc, Int.mul_one]; exact mul_cong (emod_cong _ _) rfl⟩⟩, rfl, rfl⟩ ?_
  rintro m _ _ ⟨out, b, hI, rfl, rfl⟩
  conv => whnf
  refine ⟨fun h => ?_, fun h => ?_⟩
  · conv => whnf
    have hm : 0 < m := by simpa using h
    have e1 : iand .u64 (m : Int) 1 = ((m % 2 : Nat) : Int) := by
      have := iand_u64 (x := m) (y := 1) hI.n1 (by decide)
      rw [Nat.and_one_is_mod] at this
      exact this
    have e2 : ishr .u64 (m : Int) 1 = ((m / 2 : Nat) : Int) := ishr_nat .u64 (x := m) (s := 1) (by decide)
    have hst := hI.step h3 h4
    rw [e1]
    refine ⟨fun h => ?_, fun h => ?_⟩
    · have h : m % 2 = 1 := by have := of_decide_eq_true h; omega
      rw [if_pos h] at hst
      conv => whnf
      refine ⟨[], _, [], [], c_Mul out b p hI.o0 hI.o1 hI.a0 hI.a1 h3 h4, nil_fk, nil_new, nil_upd, ?_⟩
      conv => whnf
      refine ⟨[], _, [], [], c_Mul b b p hI.a0 hI.a1 hI.a0 hI.a1 h3 h4, nil_fk, nil_new, nil_upd, ?_⟩
      conv => whnf
      refine ⟨by decide, ?_⟩
      conv => whnf
      rw [e2]
      exact ⟨m / 2, fun k => k, [0, 1, 2, 7], [], by omega, by kernel_rfl, _, _, hst, rfl, rfl⟩
    · have h : ¬ m % 2 = 1 := by have := of_decide_eq_false h; omega
      rw [if_neg h] at hst
      conv => whnf
      refine ⟨[], _, [], [], c_Mul b b p hI.a0 hI.a1 hI.a0 hI.a1 h3 h4, nil_fk, nil_new, nil_upd, ?_⟩
      conv => whnf
      refine ⟨by decide, ?_⟩
      conv => whnf
      rw [e2]
      exact ⟨m / 2, fun k => k, [0, 1, 2, 7], [], by omega, by kernel_rfl, _, _, hst, rfl, rfl⟩
  · conv => whnf
    have hm : m = 0 := by have := of_decide_eq_false h; omega
    have e3 : out = md (a ^ n) p := by
      by_cases hz : p = 0
      · simp [md, hz, hI.z hz]
      · obtain ⟨s1, s2⟩ := hI.s hz
        simp only [md, hz, if_false, ← s2, hm, Int.pow_zero, Int.mul_one]
        exact (Int.emod_eq_of_lt hI.o0 s1).symm
    rw [e3]
    exact Recast.refl _
end Go.Proofs.YtghdcjhlhcoijaaDoor
