/- ModsPrimes returns true for every input and leaves its arguments as they were: the row, and the card that ties its tables to the program's text. -/
import Derived.Laws.Externs
import Derived.Shelf.Abstract
import Derived.Test.YtdcaodkjofkmgaaDoorCards
import Derived.Test.YtdcaodkjofkmgaaDoorTie
import Derived.WalkKit
import Derived.ProofKit
import Derived.OpenShut
import Derived.Deep.DeepHandedRow
import Derived.Lib.LaidTab
import Derived.Test.YtdcaodkjofkmgaaDoorQLModsPrimes11
namespace Go.Proofs.YtdcaodkjofkmgaaDoor
open Go.Sx
set_option linter.unusedSimpArgs false
set_option linter.unusedVariables false
set_option maxRecDepth 100000

theorem search {q m : Nat} (hp : PrimeN q) (h62 : 62 ≤ q) (hq2 : q ≤ 65536) (hqm : q ≤ m) (hn : q * m < 4294967296) (cop : Nat.gcd m 58644190679703485491635 = 1)
    (F2 : 2 ^ (q * m - 1) % (q * m) = 1) (F7 : 7 ^ (q * m - 1) % (q * m) = 1) (F61 : 61 ^ (q * m - 1) % (q * m) = 1) : mrB (q * m) = false := by
  have hg : ∃ L, GoodQ q L := by
    by_cases h : q < 1000
    · exact smallQ hp h62 h
    · refine bigT_good hp (by omega) ?_
      by_cases h2 : q < 33768
      · exact bigs0 q (by omega) h2
      · exact bigs1 q (by omega) (by omega)
  obtain ⟨L, hg⟩ := hg
  exact good_mr hp h62 hq2 hg hqm hn cop F2 F7 F61

theorem small_div : ∀ e, e < 62 → 2 ≤ e → ∃ q ∈ firsts, q ∣ e := by decide
theorem firsts_prime' : ∀ q ∈ firsts, 2 ≤ q ∧ ∀ d, d < q + 1 → d ∣ q → d = 1 ∨ d = q := by decide +kernel
theorem firsts_prime (q : Nat) (h : q ∈ firsts) : PrimeN q :=
  ⟨(firsts_prime' q h).1, fun d hd => (firsts_prime' q h).2 d (by have := Nat.le_of_dvd (by have := (firsts_prime' q h).1; omega) hd; omega) hd⟩
theorem trial_none {n : Nat} : ∀ {l : List Nat}, trial n l = none → ∀ q ∈ l, n % q ≠ 0
  | [], _, q, hq => by cases hq
  | a :: l, h, q, hq => by
    simp only [trial] at h
    split at h
    · cases h
    · rcases List.mem_cons.1 hq with rfl | hq
      · assumption
      · exact trial_none h q hq
theorem trial_some {n : Nat} {b : Bool} : ∀ {l : List Nat}, trial n l = some b → ∃ q ∈ l, n % q = 0 ∧ b = (n == q)
  | [], h => by cases h
  | a :: l, h => by
    simp only [trial] at h
    split at h
    · rename_i hz
      cases h
      exact ⟨a, by simp, hz, rfl⟩
    · obtain ⟨q, h1, h2, h3⟩ := trial_some h
      exact ⟨q, by simp [h1], h2, h3⟩

theorem sq_one {p z : Nat} (hp : PrimeN p) (hz : z < p) (h : z * z % p = 1) : z = 1 ∨ z = p - 1 := by
  rcases Nat.eq_zero_or_pos z with h0 | h0
  · subst h0; simp at h
  obtain ⟨y, rfl⟩ : ∃ y, z = y + 1 := ⟨z - 1, by omega⟩
  have hd : p ∣ y * (y + 2) := by
    have e : (y + 1) * (y + 1) = y * (y + 2) + 1 := by
      rw [Nat.mul_add y y 2, Nat.add_mul, Nat.mul_add]; omega
    have := Nat.div_add_mod ((y + 1) * (y + 1)) p
    rw [h, e] at this
    exact ⟨(y * (y + 2) + 1) / p, by omega⟩
  rcases hp.dvd_mul hd with h1 | h1
  · rcases Nat.eq_zero_or_pos y with e | e
    · subst e; exact .inl rfl
    · have := Nat.le_of_dvd e h1; omega
  · have := Nat.le_of_dvd (by omega) h1
    exact .inr (by omega)
theorem strong_of {p y : Nat} (hp : PrimeN p) : ∀ t, y ^ (2 ^ t) % p = 1 → y % p = 1 ∨ ∃ j, j < t ∧ y ^ (2 ^ j) % p = p - 1
  | 0, h => .inl (by simpa using h)
  | t + 1, h => by
    have e : y ^ (2 ^ (t + 1)) = y ^ (2 ^ t) * y ^ (2 ^ t) := by rw [Nat.pow_succ, Nat.pow_mul, Nat.pow_two]
    rw [e, Nat.mul_mod] at h
    have := hp.two
    rcases sq_one hp (Nat.mod_lt _ (by omega)) h with h | h
    · rcases strong_of hp t h with h | ⟨j, hj, h⟩
      · exact .inl h
      · exact .inr ⟨j, by omega, h⟩
    · exact .inr ⟨t, by omega, h⟩
theorem iterF_of : ∀ (k x n j : Nat), 1 ≤ j → j ≤ k → x ^ (2 ^ j) % n = n - 1 → iterF k x n = true
  | 0, _, _, _, h1, h2, _ => by omega
  | k + 1, x, n, j, h1, h2, h => by
    simp only [iterF, Bool.or_eq_true, beq_iff_eq]
    by_cases hj : j = 1
    · subst hj
      rw [Nat.pow_one, Nat.pow_two] at h
      exact .inl h
    · refine .inr (iterF_of k _ n (j - 1) (by omega) (by omega) ?_)
      rw [← Nat.pow_mod, ← Nat.pow_two, ← Nat.pow_mul, Nat.mul_comm, ← Nat.pow_succ, show (j - 1).succ = j from by omega]
      exact h
theorem wit_prime {n w t d : Nat} (hp : PrimeN n) (hd : d < 2 ^ 64) (ht : n - 1 = 2 ^ t * d) (hw : ¬ n ∣ w) : witF n t w = true := by
  have hn := hp.two
  have hq : (n - 1) / 2 ^ t = d := by rw [ht]; exact Nat.mul_div_cancel_left _ (Nat.pow_pos (by decide))
  have o1 : 1 % n = 1 := Nat.mod_eq_of_lt (by omega)
  have hx : powM 64 (1 % n) w d n = w ^ d % n := by
    rw [powM_spec 64 _ _ _ _ hd (Nat.mod_lt _ (by omega)), o1, Nat.one_mul]
  have hf := fermat hp hw
  rw [ht, Nat.mul_comm, Nat.pow_mul] at hf
  unfold witF
  rw [hq, hx]
  simp only [Bool.or_eq_true, beq_iff_eq]
  rcases strong_of hp t hf with h | ⟨j, hj, h⟩
  · exact .inl h
  · by_cases h0 : j = 0
    · subst h0
      rw [Nat.pow_zero, Nat.pow_one] at h
      exact .inr (.inl h)
    · refine .inr (.inr (iterF_of _ _ _ j (by omega) (by omega) ?_))
      rw [← Nat.pow_mod]; exact h

/-- The code's test tells the primes. -/
theorem primeF_iff {n : Nat} (hn : n < 4294967296) : primeF n = true ↔ PrimeN n := by
  cases ht : trial n firsts with
  | some b =>
    obtain ⟨q, hq, hm, hb⟩ := trial_some ht
    have e : primeF n = (n == q) := by simp only [primeF, ht, hb]
    rw [e, beq_iff_eq]
    constructor
    · rintro rfl; exact firsts_prime _ hq
    · intro hp
      rcases hp.div q (Nat.dvd_of_mod_eq_zero hm) with h | h
      · have := (firsts_prime q hq).two; omega
      · exact h.symm
  | none =>
    have hnd := trial_none ht
    have hs : ∀ e, 2 ≤ e → e < 62 → ¬ e ∣ n := fun e h2 h62 hd => by
      obtain ⟨q, hq, hqe⟩ := small_div e h62 h2
      exact hnd q hq (Nat.mod_eq_zero_of_dvd (Nat.dvd_trans hqe hd))
    by_cases h2 : n < 2
    · have e : primeF n = false := by simp only [primeF, ht, h2, if_true]
      rw [e]
      exact ⟨fun h => (by cases h), fun h => by have := h.two; omega⟩
    · have e : primeF n = mrB n := by simp only [primeF, ht, h2, if_false]; rfl
      have h62 : 62 ≤ n := by
        by_cases h : n < 62
        · exact absurd (Nat.dvd_refl n) (hs n (by omega) h)
        · omega
      obtain ⟨m, hm⟩ := tzF_spec 32 (n - 1) (by omega) (by omega)
      have t0 : 0 < tzF 32 (n - 1) := by
        rcases Nat.eq_zero_or_pos (tzF 32 (n - 1)) with h | h
        · rw [h, Nat.pow_zero, Nat.one_mul] at hm
          exact absurd ⟨m + 1, by omega⟩ (hs 2 (by omega) (by omega))
        · exact h
      have hd : 2 * m + 1 < 2 ^ 64 := by
        have h1 := Nat.le_mul_of_pos_left (2 * m + 1) (Nat.pow_pos (n := tzF 32 (n - 1)) (show 0 < 2 by decide))
        rw [← hm] at h1
        have : (4294967296 : Nat) < 2 ^ 64 := by decide
        omega
      rw [e]
      constructor
      · intro h
        have h' := h
        simp only [mrB, Bool.and_eq_true] at h'
        rcases split_small (by omega) hn hs with hp | ⟨q, k, hp, h62', hq2, rfl, hqm, cop⟩
        · exact hp
        · have := search hp h62' hq2 hqm hn cop (wit_fermat (by omega) hd hm t0 h'.1) (wit_fermat (by omega) hd hm t0 h'.2.1) (wit_fermat (by omega) hd hm t0 h'.2.2)
          rw [h] at this; cases this
      · intro hp
        have nw : ∀ w, 0 < w → w < 62 → ¬ n ∣ w := fun w h0 h1 hd => by have := Nat.le_of_dvd h0 hd; omega
        simp only [mrB, Bool.and_eq_true]
        exact ⟨wit_prime hp hd hm (nw 2 (by decide) (by decide)), wit_prime hp hd hm (nw 7 (by decide) (by decide)), wit_prime hp hd hm (nw 61 (by decide) (by decide))⟩
end Go.Proofs.YtdcaodkjofkmgaaDoor

namespace Go.Proofs.YtdcaodkjofkmgaaDoor
open Go.Sx
set_option linter.unusedSimpArgs false
set_option linter.unusedVariables false
set_option maxRecDepth 100000

/-- The first q below 2^31 that the test takes, from q on; f counts what is left. -/
def nextF : Nat → Nat → Int × Int
  | 0, _ => (0, 3)
  | f + 1, q => if primeF q then (q, 0) else nextF f (q + 1)

theorem c_Next (n : Nat) (hn : n < 4294967296) :
    CallOK Tryd.prog 4 [.val (.int .u32 n)] [] (.tup [.val (.int .u32 (nextF (2147483648 - (n + 1)) (n + 1)).1), .val (.int .i64 (nextF (2147483648 - (n + 1)) (n + 1)).2)]) [] [] := by
  refine callV (Z := []) tabOK mixedOK Tryd.func4 rfl (by kernel_rfl) rfl rfl (by kernel_rfl) rfl ?_
  intro W0 w0 ρ0 hE
  conv => whnf
  have e1 : IntKind.u64.wrap (IntKind.u64.wrap (n : Int) + 1) = ((n + 1 : Nat) : Int) := by rw [wrap_u64 (n := (n : Int)) (by omega) (by omega), wrap_u64 (by omega) (by omega)]; omega
  rw [e1]
  refine SW_loopN hE (fun k => k) [4] [] (fun m fr hp => ∃ q, m = 2147483648 - q ∧ q ≤ 4294967296 ∧ nextF (2147483648 - q) q = nextF (2147483648 - (n + 1)) (n + 1) ∧ fr = [(4, .val (.int .u64 (q : Nat)))] ∧ hp = []) (2147483648 - (n + 1)) ?_ ?_ ?_
  · kernel_rfl
  · exact ⟨n + 1, rfl, by omega, rfl, rfl, rfl⟩
  rintro m _ _ ⟨q, rfl, hq0, hT, rfl, rfl⟩
  conv => whnf
  refine ⟨fun h => ?_, fun h => ?_⟩
  · have hq : q < 2147483648 := by have := of_decide_eq_true h; omega
    rw [show 2147483648 - q = (2147483648 - (q + 1)) + 1 from by omega] at hT
    simp only [nextF] at hT
    conv => whnf
    have e2 : IntKind.u32.wrap (q : Int) = q := wrap_u32 (by omega) (by omega)
    rw [e2]
    refine ⟨[], _, [], [], c_Prime q (by omega), nil_fk, nil_new, nil_upd, ?_⟩
    conv => whnf
    refine ⟨fun h => ?_, fun h => ?_⟩
    · rw [if_pos h] at hT
      conv => whnf
      rw [e2, ← hT]
      exact Recast.refl _
    · rw [if_neg (by simp [h])] at hT
      conv => whnf
      rw [show IntKind.u64.wrap ((q : Int) + 1) = ((q + 1 : Nat) : Int) from by rw [wrap_u64 (by omega) (by omega)]; omega]
      exact ⟨2147483648 - (q + 1), fun k => k, [4], [], by omega, by kernel_rfl, q + 1, rfl, by omega, hT, rfl, rfl⟩
  · have hq : 2147483648 - q = 0 := by have := of_decide_eq_false h; omega
    rw [hq] at hT
    simp only [nextF] at hT
    conv => whnf
    rw [← hT]
    exact Recast.refl _
end Go.Proofs.YtdcaodkjofkmgaaDoor

namespace Go.Proofs.YtdcaodkjofkmgaaDoor
open Go.Sx
set_option linter.unusedSimpArgs false
set_option linter.unusedVariables false
set_option maxRecDepth 100000

theorem guard_nat : Tryd.prog.eqGuardType Tryd.prog.depth 38 = false := by kernel_rfl
theorem guard_size : Tryd.prog.eqGuardType Tryd.prog.depth 40 = false := by kernel_rfl

theorem eqTy_nat (a b : Nat) : eqTy tab good 10 38 (natCells a) (natCells b) = some (decide (a = b)) := by
  rw [← nat_eq_iff, ← Bool.and_true (low a == low b && _), Bool.and_assoc]
  rfl
theorem eqTy_size (a b : Nat) : eqTy tab good 10 40 (natCells a) (natCells b) = some (decide (a = b)) := by
  have : eqTy tab good 10 40 (natCells a) (natCells b) = some (((low a == low b) && (((big a).toList == (big b).toList) && true)) && true) := rfl
  rw [this, Bool.and_true, Bool.and_true, nat_eq_iff]

theorem c_nOf (n : Nat) (hn : n < 18446744073709551616) : CallOK Tryd.prog 26 [.val (.int .u64 n)] [] (.nat n) [] [] := by
  refine callV (Z := []) tabOK mixedOK Tryd.func26 rfl (by kernel_rfl) rfl rfl (by kernel_rfl) rfl ?_
  intro W0 w0 ρ0 hE
  conv => whnf
  exact recast_flat (l := natCells n) (by rw [natCells_small hn]; rfl) rfl (fun _ h => by cases h)

theorem c_nZero (n : Nat) : CallOK Tryd.prog 42 [.nat n] [] (.val (.bool (decide (n = 0)))) [] [] := by
  refine callV (Z := []) tabOK mixedOK Tryd.func42 rfl (by kernel_rfl) rfl rfl (by kernel_rfl) rfl ?_
  intro W0 w0 ρ0 hE
  conv => whnf
  refine ⟨_, op_eqAgg tabOK goodOK rfl (ev_ok rfl) (ev_ok rfl) rfl rfl rfl rfl (eqTy_nat n 0) guard_nat, ?_⟩
  conv => whnf
  exact Recast.refl _

theorem c_sZero (n : Nat) : CallOK Tryd.prog 29 [.nat n] [] (.val (.bool (decide (n = 0)))) [] [] := by
  refine callV (Z := []) tabOK mixedOK Tryd.func29 rfl (by kernel_rfl) rfl rfl (by kernel_rfl) rfl ?_
  intro W0 w0 ρ0 hE
  conv => whnf
  refine ⟨_, op_eqAgg tabOK goodOK rfl (ev_ok rfl) (ev_ok rfl) rfl rfl rfl rfl (eqTy_size n 0) guard_size, ?_⟩
  conv => whnf
  exact Recast.refl _

theorem c_Abs (z : Int) : CallOK Tryd.prog 27 [.int z] [] (.nat z.natAbs) [] [] := by
  refine callV (Z := []) tabOK mixedOK Tryd.func27 rfl (by kernel_rfl) rfl rfl (by kernel_rfl) rfl ?_
  intro W0 w0 ρ0 hE
  conv => whnf
  exact recast_flat (l := natCells z.natAbs) rfl rfl (fun _ h => by cases h)

theorem big_eq (n : Nat) : ((big n).toList == (ByteArray.mk #[]).toList) = decide (n < 18446744073709551616) := by
  rw [Bool.eq_iff_iff, show (ByteArray.mk #[]).toList = [] from by rw [ByteArray.toList_eq]]
  simp [big_empty]

theorem c_U64 (n : Nat) : CallOK Tryd.prog 28 [.nat n] [] (.tup [.val (.int .u64 (low n)), .val (.bool (decide (n < 18446744073709551616)))]) [] [] := by
  refine callV (Z := []) tabOK mixedOK Tryd.func28 rfl (by kernel_rfl) rfl rfl (by kernel_rfl) rfl ?_
  intro W0 w0 ρ0 hE
  conv => whnf
  refine ⟨by kernel_rfl, ?_⟩
  conv => whnf
  rw [big_eq]
  exact Recast.refl _

/-- The sign put before a size. -/
def signed (neg : Bool) (n : Nat) : Int := if neg then -(n : Int) else n

theorem c_From (neg : Bool) (n : Nat) : CallOK Tryd.prog 21 [.val (.bool neg), .nat n] [] (.int (signed neg n)) [] [] := by
  refine callV (Z := []) tabOK mixedOK Tryd.func21 rfl (by kernel_rfl) rfl rfl (by kernel_rfl) rfl ?_
  intro W0 w0 ρ0 hE
  cases neg
  · conv => whnf
    refine ⟨(fun h => by cases h), fun _ => ?_⟩
    conv => whnf
    refine ⟨(fun h => by cases h), fun _ => ?_⟩
    conv => whnf
    refine ⟨(fun h => by cases h), fun _ => ?_⟩
    conv => whnf
    refine ⟨.val (.bool false), [], [], [], op_pick rfl (ev_ok rfl) (fun hb => by cases hb) (fun _ => ev_ok rfl) rfl (c1 := .any), nil_fk, nil_new, nil_upd, ?_⟩
    conv => whnf
    refine ⟨by kernel_rfl, ?_⟩
    conv => whnf
    refine recast_flat (l := intCells (signed false n)) ?_ rfl (fun _ h => by cases h)
    have e1 : (signed false n).natAbs = n := by simp [signed]
    have e2 : decide (signed false n < 0) = false := by simp [signed]
    rw [intCells, e1, e2]
    rfl
  · conv => whnf
    refine ⟨fun _ => ?_, fun h => by cases h⟩
    conv => whnf
    refine ⟨fun _ => ?_, fun h => by cases h⟩
    conv => whnf
    refine ⟨[], _, [], [], c_sZero n, nil_fk, nil_new, nil_upd, ?_⟩
    conv => whnf
    refine ⟨fun _ => ?_, fun h => by cases h⟩
    conv => whnf
    refine ⟨.val (.bool (!decide (n = 0))), [], [], [], op_pick rfl (ev_ok rfl) (fun _ => ev_ok rfl) (fun hb => by cases hb) rfl (c2 := .any), nil_fk, nil_new, nil_upd, ?_⟩
    conv => whnf
    refine ⟨by kernel_rfl, ?_⟩
    conv => whnf
    refine recast_flat (l := intCells (signed true n)) ?_ rfl (fun _ h => by cases h)
    have e1 : (signed true n).natAbs = n := by simp [signed]
    have e2 : decide (signed true n < 0) = !decide (n = 0) := by rw [Bool.eq_iff_iff]; simp [signed]; omega
    rw [intCells, e1, e2]
    rfl

theorem c_Sign (z : Int) : CallOK Tryd.prog 36 [.int z] [] (.val (.int .i64 z.sign)) [] [] := by
  refine callV (Z := []) tabOK mixedOK Tryd.func36 rfl (by kernel_rfl) rfl rfl (by kernel_rfl) rfl ?_
  intro W0 w0 ρ0 hE
  conv => whnf
  refine ⟨[], _, [], [], c_sZero z.natAbs, nil_fk, nil_new, nil_upd, ?_⟩
  conv => whnf
  refine ⟨fun h => ?_, fun h => ?_⟩
  · have hz : z = 0 := by have := of_decide_eq_true h; omega
    conv => whnf
    subst hz
    exact Recast.refl _
  · have hz : z ≠ 0 := by have := of_decide_eq_false h; omega
    conv => whnf
    refine ⟨fun h => ?_, fun h => ?_⟩
    · have hz : z.sign = -1 := Int.sign_eq_neg_one_of_neg (of_decide_eq_true h)
      conv => whnf
      rw [hz]
      exact Recast.refl _
    · have hz : z.sign = 1 := Int.sign_eq_one_of_pos (by have := of_decide_eq_false h; omega)
      conv => whnf
      rw [hz]
      exact Recast.refl _

theorem c_Neg (z : Int) : CallOK Tryd.prog 50 [.int z] [] (.int (-z)) [] [] := by
  refine callV (Z := []) tabOK mixedOK Tryd.func50 rfl (by kernel_rfl) rfl rfl (by kernel_rfl) rfl ?_
  intro W0 w0 ρ0 hE
  conv => whnf
  refine ⟨[], _, [], [], c_From (!decide (z < 0)) z.natAbs, nil_fk, nil_new, nil_upd, ?_⟩
  have e : signed (!decide (z < 0)) z.natAbs = -z := by
    unfold signed
    by_cases h : z < 0 <;> simp [h] <;> omega
  rw [e]
  conv => whnf
  exact Recast.refl _

theorem c_iOf (z : Int) (h0 : -9223372036854775808 ≤ z) (h1 : z < 9223372036854775808) : CallOK Tryd.prog 19 [.val (.int .i64 z)] [] (.int z) [] [] := by
  refine callV (Z := []) tabOK mixedOK Tryd.func19 rfl (by kernel_rfl) rfl rfl (by kernel_rfl) rfl ?_
  intro W0 w0 ρ0 hE
  conv => whnf
  refine ⟨fun h => ?_, fun h => ?_⟩
  · have hz := of_decide_eq_true h
    conv => whnf
    have e1 : IntKind.u64.wrap (0 - IntKind.u64.wrap z) = ((z.natAbs : Nat) : Int) := by rw [wrap_u64', wrap_u64']; omega
    rw [e1]
    refine ⟨[], _, [], [], c_nOf z.natAbs (by omega), nil_fk, nil_new, nil_upd, ?_⟩
    conv => whnf
    refine ⟨[], _, [], [], c_From true z.natAbs, nil_fk, nil_new, nil_upd, ?_⟩
    have e : signed true z.natAbs = z := by simp [signed]; omega
    rw [e]
    conv => whnf
    exact Recast.refl _
  · have hz := of_decide_eq_false h
    conv => whnf
    have e1 : IntKind.u64.wrap z = ((z.natAbs : Nat) : Int) := by rw [wrap_u64']; omega
    rw [e1]
    refine ⟨[], _, [], [], c_nOf z.natAbs (by omega), nil_fk, nil_new, nil_upd, ?_⟩
    conv => whnf
    refine ⟨[], _, [], [], c_From false z.natAbs, nil_fk, nil_new, nil_upd, ?_⟩
    have e : signed false z.natAbs = z := by simp [signed]; omega
    rw [e]
    conv => whnf
    exact Recast.refl _
end Go.Proofs.YtdcaodkjofkmgaaDoor

namespace Go.Proofs.YtdcaodkjofkmgaaDoor
open Go.Sx
set_option linter.unusedSimpArgs false
set_option linter.unusedVariables false
set_option maxRecDepth 100000
set_option maxHeartbeats 2000000

/-- The contracts of nats, for numbers of at most M binary digits. -/
structure NatOK (M : Nat) : Prop where
  big : 64 ≤ M
  cmp : ∀ a b, sz a ≤ M → sz b ≤ M → CallOK Tryd.prog 43 [.nat a, .nat b] [] (.val (.int .i64 ((a : Int) - b).sign)) [] []
  add : ∀ a b, sz (a + b) ≤ M → CallOK Tryd.prog 37 [.nat a, .nat b] [] (.nat (a + b)) [] []
  sub : ∀ a b, sz a ≤ M → b ≤ a → CallOK Tryd.prog 54 [.nat a, .nat b] [] (.tup [.nat (a - b), .val (.bool true)]) [] []
  subF : ∀ a b, sz b ≤ M → a < b → CallOK Tryd.prog 54 [.nat a, .nat b] [] (.tup [.nat 0, .val (.bool false)]) [] []
  mul : ∀ a b, sz a + sz b ≤ M → CallOK Tryd.prog 57 [.nat a, .nat b] [] (.nat (a * b)) [] []
  div : ∀ a b, sz a ≤ M → sz b ≤ M → b ≠ 0 → CallOK Tryd.prog 33 [.nat a, .nat b] [] (.tup [.nat (a / b), .nat (a % b), .val (.bool true)]) [] []
  divZ : ∀ a, CallOK Tryd.prog 33 [.nat a, .nat 0] [] (.tup [.nat 0, .nat 0, .val (.bool false)]) [] []
  gcd : ∀ a b, sz a ≤ M → sz b ≤ M → CallOK Tryd.prog 53 [.nat a, .nat b] [] (.nat (Nat.gcd a b)) [] []

variable {M : Nat}

theorem signed_abs (s : Bool) (n : Nat) : (signed s n).natAbs = n := by cases s <;> simp [signed]

theorem c_plus (ok : NatOK M) (a b : Int) (ha : sz a.natAbs < M) (hb : sz b.natAbs < M) :
    CallOK Tryd.prog 49 [.int a, .int b] [] (.int (a + b)) [] [] := by
  have hs : sz (a.natAbs + b.natAbs) ≤ M := by
    have := sz_add (k := M - 1) (show sz a.natAbs ≤ M - 1 by omega) (show sz b.natAbs ≤ M - 1 by omega)
    omega
  refine callV (Z := []) tabOK mixedOK Tryd.func49 rfl (by kernel_rfl) rfl rfl (by kernel_rfl) rfl ?_
  intro W0 w0 ρ0 hE
  conv => whnf
  refine ⟨fun h1 => ?_, fun h1 => ?_⟩
  · have h1 : decide (a < 0) = decide (b < 0) := by simpa using h1
    conv => whnf
    refine ⟨[], _, [], [], (ok.add _ _ hs), nil_fk, nil_new, nil_upd, ?_⟩; conv => whnf
    have e : signed (decide (a < 0)) (a.natAbs + b.natAbs) = a + b := by
      have := decide_eq_decide.1 h1
      unfold signed
      by_cases h : a < 0 <;> simp [h] <;> omega
    have := c_From (decide (a < 0)) (a.natAbs + b.natAbs)
    rw [e] at this
    refine ⟨[], _, [], [], (this), nil_fk, nil_new, nil_upd, ?_⟩; conv => whnf
    (repeat (first | (refine step_i (by kernel_rfl) ?_; conv => whnf))); exact Recast.refl _
  · have h1 : ¬ (a < 0 ↔ b < 0) := by
      intro h2
      simp [h2] at h1
    conv => whnf
    by_cases hab : b.natAbs ≤ a.natAbs
    · refine ⟨[], _, [], [], (ok.sub a.natAbs b.natAbs (by omega) hab), nil_fk, nil_new, nil_upd, ?_⟩; conv => whnf
      (repeat (first | (refine step_w1 rfl rfl ?_; conv => whnf)))
      have e : signed (decide (a < 0)) (a.natAbs - b.natAbs) = a + b := by
        unfold signed
        by_cases h : a < 0 <;> simp [h] <;> omega
      have := c_From (decide (a < 0)) (a.natAbs - b.natAbs)
      rw [e] at this
      refine ⟨[], _, [], [], (this), nil_fk, nil_new, nil_upd, ?_⟩; conv => whnf
      skip; exact Recast.refl _
    · refine ⟨[], _, [], [], (ok.subF a.natAbs b.natAbs (by omega) (by omega)), nil_fk, nil_new, nil_upd, ?_⟩; conv => whnf
      (repeat (first | (refine step_w2 rfl rfl ?_; conv => whnf)))
      refine ⟨[], _, [], [], (ok.sub b.natAbs a.natAbs (by omega) (by omega)), nil_fk, nil_new, nil_upd, ?_⟩; conv => whnf
      have e : signed (decide (b < 0)) (b.natAbs - a.natAbs) = a + b := by
        unfold signed
        by_cases h : b < 0 <;> simp [h] <;> omega
      have := c_From (decide (b < 0)) (b.natAbs - a.natAbs)
      rw [e] at this
      refine ⟨[], _, [], [], (this), nil_fk, nil_new, nil_upd, ?_⟩; conv => whnf
      skip; exact Recast.refl _

theorem c_told (f : FuncId) (a b c : Int) (hc : CallOK Tryd.prog f [.int a, .int b] [] (.int c) [] []) :
    CallOK Tryd.prog 48 [.clo f [] [], .int a, .int b] [] (.int c) [] [] := by
  refine callV (Z := []) tabOK mixedOK Tryd.func48 rfl (by kernel_rfl) rfl rfl (by kernel_rfl) rfl ?_
  intro W0 w0 ρ0 hE
  conv => whnf
  refine ⟨[], _, [], [], (hc), nil_fk, nil_new, nil_upd, ?_⟩; conv => whnf
  skip; exact Recast.refl _

theorem c_iAdd (ok : NatOK M) (a b : Int) (ha : sz a.natAbs < M) (hb : sz b.natAbs < M) :
    CallOK Tryd.prog 34 [.int a, .int b] [] (.int (a + b)) [] [] := by
  refine callV (Z := []) tabOK mixedOK Tryd.func34 rfl (by kernel_rfl) rfl rfl (by kernel_rfl) rfl ?_
  intro W0 w0 ρ0 hE
  conv => whnf
  refine ⟨[], _, [], [], (c_told _ a b _ (c_plus ok a b ha hb)), nil_fk, nil_new, nil_upd, ?_⟩; conv => whnf
  skip; exact Recast.refl _

theorem c_iSub (ok : NatOK M) (a b : Int) (ha : sz a.natAbs < M) (hb : sz b.natAbs < M) :
    CallOK Tryd.prog 35 [.int a, .int b] [] (.int (a - b)) [] [] := by
  rw [Int.sub_eq_add_neg]
  refine callV (Z := []) tabOK mixedOK Tryd.func35 rfl (by kernel_rfl) rfl rfl (by kernel_rfl) rfl ?_
  intro W0 w0 ρ0 hE
  conv => whnf
  refine ⟨[], _, [], [], (c_Neg b), nil_fk, nil_new, nil_upd, ?_⟩; conv => whnf
  refine ⟨[], _, [], [], (c_told _ a (-b) _ (c_plus ok a (-b) ha (by rwa [Int.natAbs_neg]))), nil_fk, nil_new, nil_upd, ?_⟩; conv => whnf
  (repeat (first | (refine step_i (by kernel_rfl) ?_; conv => whnf))); exact Recast.refl _

theorem signed_mul (a b : Int) : signed (decide (a < 0) != decide (b < 0)) (a.natAbs * b.natAbs) = a * b := by
  unfold signed
  rw [Int.natCast_mul]
  by_cases h1 : a < 0 <;> by_cases h2 : b < 0
  · rw [show (a.natAbs : Int) = -a from by omega, show (b.natAbs : Int) = -b from by omega]; simp [h1, h2, Int.neg_mul_neg]
  · rw [show (a.natAbs : Int) = -a from by omega, show (b.natAbs : Int) = b from by omega]; simp [h1, h2, Int.neg_mul]
  · rw [show (a.natAbs : Int) = a from by omega, show (b.natAbs : Int) = -b from by omega]; simp [h1, h2, Int.mul_neg]
  · rw [show (a.natAbs : Int) = a from by omega, show (b.natAbs : Int) = b from by omega]; simp [h1, h2]

theorem c_times (ok : NatOK M) (a b : Int) (h : sz a.natAbs + sz b.natAbs ≤ M) :
    CallOK Tryd.prog 66 [.int a, .int b] [] (.int (a * b)) [] [] := by
  refine callV (Z := []) tabOK mixedOK Tryd.func66 rfl (by kernel_rfl) rfl rfl (by kernel_rfl) rfl ?_
  intro W0 w0 ρ0 hE
  conv => whnf
  refine ⟨[], _, [], [], (ok.mul _ _ h), nil_fk, nil_new, nil_upd, ?_⟩; conv => whnf
  have := c_From (decide (a < 0) != decide (b < 0)) (a.natAbs * b.natAbs)
  rw [signed_mul] at this
  refine ⟨[], _, [], [], (this), nil_fk, nil_new, nil_upd, ?_⟩; conv => whnf
  (repeat (first | (refine step_i (by kernel_rfl) ?_; conv => whnf))); exact Recast.refl _

theorem c_iMul (ok : NatOK M) (a b : Int) (h : sz a.natAbs + sz b.natAbs ≤ M) :
    CallOK Tryd.prog 56 [.int a, .int b] [] (.int (a * b)) [] [] := by
  refine callV (Z := []) tabOK mixedOK Tryd.func56 rfl (by kernel_rfl) rfl rfl (by kernel_rfl) rfl ?_
  intro W0 w0 ρ0 hE
  conv => whnf
  refine ⟨[], _, [], [], (c_told _ a b _ (c_times ok a b h)), nil_fk, nil_new, nil_upd, ?_⟩; conv => whnf
  skip; exact Recast.refl _

theorem div_uniq {a b q r : Int} (h1 : r + b * q = a) (h2 : 0 ≤ r) (h3 : r < b.natAbs) : a / b = q ∧ a % b = r := by
  have hb : b ≠ 0 := by omega
  rcases Int.lt_or_gt_of_ne hb with h | h
  · have := (Int.ediv_emod_unique (a := a) (b := -b) (r := r) (q := -q) (by omega)).2 ⟨by rw [Int.neg_mul_neg]; exact h1, h2, by omega⟩
    rw [Int.ediv_neg, Int.emod_neg] at this
    exact ⟨by omega, this.2⟩
  · exact (Int.ediv_emod_unique (a := a) (b := b) (r := r) (q := q) h).2 ⟨h1, h2, by omega⟩

theorem divLaw (a b : Int) (Q M : Nat) (hA : (b.natAbs : Int) * (Q : Int) + (M : Int) = (a.natAbs : Int)) (hlt : M < b.natAbs) :
    (signed (decide (a < 0)) M < 0 → a / b = signed (decide (a < 0) != decide (b < 0)) Q - b.sign ∧ a % b = signed (decide (a < 0)) M + b.natAbs) ∧
    (¬ signed (decide (a < 0)) M < 0 → a / b = signed (decide (a < 0) != decide (b < 0)) Q ∧ a % b = signed (decide (a < 0)) M) := by
  have hs : b * b.sign = b.natAbs := by
    rcases Int.lt_trichotomy b 0 with h | h | h
    · rw [Int.sign_eq_neg_one_of_neg h]; omega
    · omega
    · rw [Int.sign_eq_one_of_pos h]; omega
  have hq : b * signed (decide (a < 0) != decide (b < 0)) Q = if a < 0 then -((b.natAbs : Int) * Q) else (b.natAbs : Int) * Q := by
    unfold signed
    by_cases ha : a < 0 <;> by_cases hb : b < 0
    · rw [show (b.natAbs : Int) = -b from by omega]; simp [ha, hb, Int.neg_mul]
    · rw [show (b.natAbs : Int) = b from by omega]; simp [ha, hb, Int.mul_neg]
    · rw [show (b.natAbs : Int) = -b from by omega]; simp [ha, hb, Int.mul_neg, Int.neg_mul]
    · rw [show (b.natAbs : Int) = b from by omega]; simp [ha, hb]
  refine ⟨fun hr => div_uniq ?_ ?_ ?_, fun hr => div_uniq ?_ ?_ ?_⟩
  · rw [Int.mul_sub, hs, hq]
    by_cases ha : a < 0 <;> simp [signed, ha] at hr ⊢ <;> omega
  · by_cases ha : a < 0 <;> simp [signed, ha] at hr ⊢ <;> omega
  · by_cases ha : a < 0 <;> simp [signed, ha] at hr ⊢ <;> omega
  · rw [hq]
    by_cases ha : a < 0 <;> simp [signed, ha] at hr ⊢ <;> omega
  · omega
  · by_cases ha : a < 0 <;> simp [signed, ha] at hr ⊢ <;> omega

theorem c_iDivZ (ok : NatOK M) (a : Int) : CallOK Tryd.prog 25 [.int a, .int 0] [] (.tup [.int 0, .int 0, .val (.bool false)]) [] [] := by
  refine callV (Z := []) tabOK mixedOK Tryd.func25 rfl (by kernel_rfl) rfl rfl (by kernel_rfl) rfl ?_
  intro W0 w0 ρ0 hE
  conv => whnf
  refine ⟨[], _, [], [], (ok.divZ a.natAbs), nil_fk, nil_new, nil_upd, ?_⟩; conv => whnf
  (repeat (first | (refine step_w1 rfl rfl ?_; conv => whnf))); exact Recast.refl _

theorem sz_signbit (z : Int) : sz z.sign.natAbs ≤ 1 := by
  rw [sz_le]
  have : z.sign.natAbs ≤ 1 := by
    rcases Int.lt_trichotomy z 0 with h | h | h
    · rw [Int.sign_eq_neg_one_of_neg h]; decide
    · subst h; decide
    · rw [Int.sign_eq_one_of_pos h]; decide
  omega

theorem c_iDiv (ok : NatOK M) (a b : Int) (ha : sz a.natAbs < M) (hb : sz b.natAbs < M) (h0 : b ≠ 0) :
    CallOK Tryd.prog 25 [.int a, .int b] [] (.tup [.int (a / b), .int (a % b), .val (.bool true)]) [] [] := by
  have hM := ok.big
  refine callV (Z := []) tabOK mixedOK Tryd.func25 rfl (by kernel_rfl) rfl rfl (by kernel_rfl) rfl ?_
  intro W0 w0 ρ0 hE
  conv => whnf
  refine ⟨[], _, [], [], (ok.div a.natAbs b.natAbs (by omega) (by omega) (by omega)), nil_fk, nil_new, nil_upd, ?_⟩; conv => whnf
  (repeat (first | (refine step_w2 rfl rfl ?_; conv => whnf)))
  refine ⟨[], _, [], [], (c_From _ _), nil_fk, nil_new, nil_upd, ?_⟩; conv => whnf
  refine ⟨[], _, [], [], (c_From _ _), nil_fk, nil_new, nil_upd, ?_⟩; conv => whnf
  (repeat (first | (refine step_i (by kernel_rfl) ?_; conv => whnf)))
  have hA : (b.natAbs : Int) * ((a.natAbs / b.natAbs : Nat) : Int) + ((a.natAbs % b.natAbs : Nat) : Int) = (a.natAbs : Int) := by
    rw [← Int.natCast_mul, ← Int.natCast_add, Nat.div_add_mod]
  have hlt : a.natAbs % b.natAbs < b.natAbs := Nat.mod_lt _ (by omega)
  have hdl : sz (a.natAbs / b.natAbs) ≤ sz a.natAbs := sz_div _ _
  have hml : sz (a.natAbs % b.natAbs) ≤ sz a.natAbs := sz_mod _ _
  obtain ⟨u1, u2⟩ := divLaw a b (a.natAbs / b.natAbs) (a.natAbs % b.natAbs) hA hlt
  have hbq : (signed (decide (a < 0) != decide (b < 0)) (a.natAbs / b.natAbs)).natAbs = a.natAbs / b.natAbs := signed_abs _ _
  have hbr : (signed (decide (a < 0)) (a.natAbs % b.natAbs)).natAbs = a.natAbs % b.natAbs := signed_abs _ _
  generalize a.natAbs / b.natAbs = Q at *
  generalize a.natAbs % b.natAbs = M at *
  generalize signed (decide (a < 0) != decide (b < 0)) Q = q at *
  generalize signed (decide (a < 0)) M = r at *
  subst hbq hbr
  refine ⟨fun h => ?_, fun h => ?_⟩
  · have hr := of_decide_eq_true h
    obtain ⟨v1, v2⟩ := u1 hr
    rw [v1, v2]
    conv => whnf
    refine ⟨[], _, [], [], (c_From false b.natAbs), nil_fk, nil_new, nil_upd, ?_⟩; conv => whnf
    rw [show signed false b.natAbs = (b.natAbs : Int) from rfl]
    refine ⟨[], _, [], [], (c_iAdd ok r b.natAbs (by omega) (by rw [Int.natAbs_natCast]; exact hb)), nil_fk, nil_new, nil_upd, ?_⟩; conv => whnf
    (repeat (first | (refine step_i (by kernel_rfl) ?_; conv => whnf)))
    refine ⟨[], _, [], [], (c_Sign b), nil_fk, nil_new, nil_upd, ?_⟩; conv => whnf
    have hsb : -1 ≤ b.sign ∧ b.sign ≤ 1 := by
      rcases Int.lt_trichotomy b 0 with h | h | h
      · rw [Int.sign_eq_neg_one_of_neg h]; omega
      · omega
      · rw [Int.sign_eq_one_of_pos h]; omega
    have := sz_signbit b
    refine ⟨[], _, [], [], (c_iOf b.sign (by omega) (by omega)), nil_fk, nil_new, nil_upd, ?_⟩; conv => whnf
    refine ⟨[], _, [], [], (c_iSub ok q b.sign (by omega) (by omega)), nil_fk, nil_new, nil_upd, ?_⟩; conv => whnf
    (repeat (first | (refine step_i (by kernel_rfl) ?_; conv => whnf))); exact Recast.refl _
  · obtain ⟨v1, v2⟩ := u2 (of_decide_eq_false h)
    rw [v1, v2]
    conv => whnf
    (repeat (first | (refine step_i (by kernel_rfl) ?_; conv => whnf))); exact Recast.refl _
end Go.Proofs.YtdcaodkjofkmgaaDoor

namespace Go.Proofs.YtdcaodkjofkmgaaDoor
open Go.Sx
set_option linter.unusedSimpArgs false
set_option linter.unusedVariables false
set_option maxRecDepth 100000
set_option maxHeartbeats 2000000

/-- The greater of the sizes of numerator and denominator. -/
def fsz (q : Rat) : Nat := max (sz q.num.natAbs) (sz q.den)

theorem fsz_num (q : Rat) : sz q.num.natAbs ≤ fsz q := Nat.le_max_left _ _
theorem fsz_den (q : Rat) : sz q.den ≤ fsz q := Nat.le_max_right _ _
theorem fsz_le {q : Rat} {k : Nat} (h1 : sz q.num.natAbs ≤ k) (h2 : sz q.den ≤ k) : fsz q ≤ k := Nat.max_le.2 ⟨h1, h2⟩

theorem num_mkRat {n : Int} {d : Nat} (hd : d ≠ 0) : (mkRat n d).num = n / (Nat.gcd n.natAbs d : Nat) := by
  rw [← Rat.normalize_eq_mkRat hd, Rat.num_normalize]
theorem den_mkRat {n : Int} {d : Nat} (hd : d ≠ 0) : (mkRat n d).den = d / Nat.gcd n.natAbs d := by
  rw [← Rat.normalize_eq_mkRat hd, Rat.den_normalize]

theorem den_pred (q : Rat) : q.den - 1 + 1 = q.den := by have := q.den_pos; omega
variable {M : Nat}

theorem c_den (ok : NatOK M) (q : Rat) (h : sz q.den ≤ M) : CallOK Tryd.prog 30 [.frac q] [] (.nat q.den) [] [] := by
  refine callV (Z := []) tabOK mixedOK Tryd.func30 rfl (by kernel_rfl) rfl rfl (by kernel_rfl) rfl ?_
  intro W0 w0 ρ0 hE
  conv => whnf
  refine ⟨[], _, [], [], (c_nOf 1 (by decide)), nil_fk, nil_new, nil_upd, ?_⟩; conv => whnf
  have := ok.add (q.den - 1) 1 (by rw [den_pred]; exact h)
  rw [den_pred] at this
  refine ⟨[], _, [], [], (this), nil_fk, nil_new, nil_upd, ?_⟩; conv => whnf
  (repeat (first | (refine step_i (by kernel_rfl) ?_; conv => whnf))); exact Recast.refl _

theorem recast_frac {x : Int} {y : Nat} {q : Rat} (hx : x = q.num) (hy : y = q.den - 1) : Recast (.agg [.int x, .nat y]) (.frac q) := by
  subst hx hy
  exact recast_flat (l := fracCells q) rfl rfl (fun _ h => by cases h)

theorem c_lowest (ok : NatOK M) (n : Int) (d : Nat) (h1 : sz n.natAbs ≤ M) (h2 : sz d ≤ M) (hd : d ≠ 0) :
    CallOK Tryd.prog 39 [.int n, .nat d] [] (.frac (mkRat n d)) [] [] := by
  have hb := ok.big
  have hg : Nat.gcd n.natAbs d ≠ 0 := fun h => hd (Nat.gcd_eq_zero_iff.1 h).2
  have hgs : sz (Nat.gcd n.natAbs d) ≤ M := Nat.le_trans (sz_gcd_r hd) h2
  have hq : d / Nat.gcd n.natAbs d ≠ 0 := Nat.div_ne_zero_iff.2 ⟨hg, Nat.le_of_dvd (by omega) (Nat.gcd_dvd_right _ _)⟩
  refine callV (Z := []) tabOK mixedOK Tryd.func39 rfl (by kernel_rfl) rfl rfl (by kernel_rfl) rfl ?_
  intro W0 w0 ρ0 hE
  conv => whnf
  refine ⟨[], _, [], [], (c_Abs n), nil_fk, nil_new, nil_upd, ?_⟩; conv => whnf
  refine ⟨[], _, [], [], (ok.gcd n.natAbs d h1 h2), nil_fk, nil_new, nil_upd, ?_⟩; conv => whnf
  (repeat (first | (refine step_i (by kernel_rfl) ?_; conv => whnf)))
  refine ⟨[], _, [], [], (c_Abs n), nil_fk, nil_new, nil_upd, ?_⟩; conv => whnf
  refine ⟨[], _, [], [], (ok.div n.natAbs _ h1 hgs hg), nil_fk, nil_new, nil_upd, ?_⟩; conv => whnf
  (repeat (first | (refine step_i (by kernel_rfl) ?_; conv => whnf)))
  refine ⟨[], _, [], [], (ok.div d _ h2 hgs hg), nil_fk, nil_new, nil_upd, ?_⟩; conv => whnf
  skip
  refine ⟨[], _, [], [], (c_nOf 1 (by decide)), nil_fk, nil_new, nil_upd, ?_⟩; conv => whnf
  refine ⟨[], _, [], [], (ok.sub _ 1 (Nat.le_trans (sz_div _ _) h2) (Nat.pos_of_ne_zero hq)), nil_fk, nil_new, nil_upd, ?_⟩; conv => whnf
  (repeat (first | (refine step_i (by kernel_rfl) ?_; conv => whnf)))
  refine ⟨[], _, [], [], (c_Sign n), nil_fk, nil_new, nil_upd, ?_⟩; conv => whnf
  have e : signed (decide (n.sign < 0)) (n.natAbs / Nat.gcd n.natAbs d) = (mkRat n d).num := by
    rw [num_mkRat hd]
    have hdv : Nat.gcd n.natAbs d ∣ n.natAbs := Nat.gcd_dvd_left _ _
    unfold signed
    by_cases hn : n < 0
    · rw [Int.sign_eq_neg_one_of_neg hn]
      simp only [show decide ((-1 : Int) < 0) = true from rfl, if_true]
      have : n = -(n.natAbs : Int) := by omega
      rw [Int.natCast_ediv, ← Int.neg_ediv_of_dvd (Int.natCast_dvd_natCast.2 hdv), ← this]
    · have : ¬ n.sign < 0 := fun h => hn (Int.sign_neg_iff.1 h)
      rw [decide_eq_false this]
      simp only [Bool.false_eq_true, if_false]
      have : n = (n.natAbs : Int) := by omega
      rw [Int.natCast_ediv, ← this]
  have hf := c_From (decide (n.sign < 0)) (n.natAbs / Nat.gcd n.natAbs d)
  rw [e] at hf
  refine ⟨[], _, [], [], (hf), nil_fk, nil_new, nil_upd, ?_⟩; conv => whnf
  (repeat (first | (refine step_i (by kernel_rfl) ?_; conv => whnf)))
  exact recast_frac rfl (by rw [den_mkRat hd])

theorem c_whole (n : Int) : CallOK Tryd.prog 41 [.int n] [] (.frac n) [] [] := by
  refine callV (Z := []) tabOK mixedOK Tryd.func41 rfl (by kernel_rfl) rfl rfl (by kernel_rfl) rfl ?_
  intro W0 w0 ρ0 hE
  conv => whnf
  skip
  exact recast_frac rfl rfl
theorem c_fInt (n : Int) (h0 : -9223372036854775808 ≤ n) (h1 : n < 9223372036854775808) : CallOK Tryd.prog 32 [.val (.int .i64 n)] [] (.frac n) [] [] := by
  refine callV (Z := []) tabOK mixedOK Tryd.func32 rfl (by kernel_rfl) rfl rfl (by kernel_rfl) rfl ?_
  intro W0 w0 ρ0 hE
  conv => whnf
  refine ⟨[], _, [], [], (c_iOf n h0 h1), nil_fk, nil_new, nil_upd, ?_⟩; conv => whnf
  refine ⟨[], _, [], [], (c_whole n), nil_fk, nil_new, nil_upd, ?_⟩; conv => whnf
  skip; exact Recast.refl _
theorem c_Num (q : Rat) : CallOK Tryd.prog 23 [.frac q] [] (.int q.num) [] [] := by
  refine callV (Z := []) tabOK mixedOK Tryd.func23 rfl (by kernel_rfl) rfl rfl (by kernel_rfl) rfl ?_
  intro W0 w0 ρ0 hE
  conv => whnf
  skip
  exact recast_flat (l := intCells q.num) rfl rfl (fun _ h => by cases h)
theorem c_Den (ok : NatOK M) (q : Rat) (h : sz q.den ≤ M) : CallOK Tryd.prog 22 [.frac q] [] (.nat q.den) [] [] := by
  refine callV (Z := []) tabOK mixedOK Tryd.func22 rfl (by kernel_rfl) rfl rfl (by kernel_rfl) rfl ?_
  intro W0 w0 ρ0 hE
  conv => whnf
  refine ⟨[], _, [], [], (c_den ok q h), nil_fk, nil_new, nil_upd, ?_⟩; conv => whnf
  skip; exact Recast.refl _
theorem c_Whole (q : Rat) : CallOK Tryd.prog 55 [.frac q] [] (.val (.bool (decide (q.den = 1)))) [] [] := by
  refine callV (Z := []) tabOK mixedOK Tryd.func55 rfl (by kernel_rfl) rfl rfl (by kernel_rfl) rfl ?_
  intro W0 w0 ρ0 hE
  conv => whnf
  skip
  refine ⟨_, op_eqAgg tabOK goodOK rfl (ev_ok rfl) (ev_ok rfl) rfl rfl rfl rfl (eqTy_nat (q.den - 1) 0) guard_nat, ?_⟩
  have := q.den_pos
  rw [show decide (q.den - 1 = 0) = decide (q.den = 1) from decide_eq_decide.2 (by omega)]
  conv => whnf
  skip; exact Recast.refl _
theorem c_fSign (q : Rat) : CallOK Tryd.prog 38 [.frac q] [] (.val (.int .i64 q.num.sign)) [] [] := by
  refine callV (Z := []) tabOK mixedOK Tryd.func38 rfl (by kernel_rfl) rfl rfl (by kernel_rfl) rfl ?_
  intro W0 w0 ρ0 hE
  conv => whnf
  skip
  refine ⟨[], _, [], [], (c_Sign q.num), nil_fk, nil_new, nil_upd, ?_⟩; conv => whnf
  skip; exact Recast.refl _

theorem int_of_den {q : Rat} (h : q.den = 1) : q = (q.num : Rat) := Rat.ext rfl h

theorem c_fMul (ok : NatOK M) (a b : Rat) (h : fsz a + fsz b ≤ M) : CallOK Tryd.prog 40 [.frac a, .frac b] [] (.frac (a * b)) [] [] := by
  have ha := fsz_num a; have ha' := fsz_den a; have hb := fsz_num b; have hb' := fsz_den b
  have gen : CallOK Tryd.prog 40 [.frac a, .frac b] [] (.frac (mkRat (a.num * b.num) (a.den * b.den))) [] [] → CallOK Tryd.prog 40 [.frac a, .frac b] [] (.frac (a * b)) [] [] := by rw [Rat.mul_def']; exact id
  have hw : a.den = 1 → b.den = 1 → ((a.num * b.num : Int) : Rat) = a * b := by
    intro h1 h2
    rw [int_of_den h1, int_of_den h2, Rat.intCast_mul]; rfl
  have hlow := c_lowest ok (a.num * b.num) (a.den * b.den) (by rw [Int.natAbs_mul]; have := sz_mul a.num.natAbs b.num.natAbs; omega) (by have := sz_mul a.den b.den; omega) (Nat.mul_ne_zero a.den_nz b.den_nz)
  rw [← Rat.mul_def'] at hlow
  have wa := c_Whole a
  have wb := c_Whole b
  have k1 := c_iMul ok a.num b.num (by omega)
  have k2 := c_den ok a (by omega)
  have k3 := c_den ok b (by omega)
  have k4 := ok.mul a.den b.den (by omega)
  have k5 := c_whole (a.num * b.num)
  refine callV (Z := []) tabOK mixedOK Tryd.func40 rfl (by kernel_rfl) rfl rfl (by kernel_rfl) rfl ?_
  intro W0 w0 ρ0 hE
  conv => whnf
  by_cases h1 : a.den = 1
  · rw [decide_eq_true h1] at wa
    by_cases h2 : b.den = 1
    · rw [decide_eq_true h2] at wb
      rw [hw h1 h2] at k5
      (repeat (first | (refine step_w1 rfl rfl ?_; conv => whnf) | (refine g_c (by assumption) ?_; conv => whnf) | (refine g_o (op_pickT rfl (ev_ok rfl) (ev_ok rfl)) ?_; conv => whnf))); exact Recast.refl _
    · rw [decide_eq_false h2] at wb
      (repeat ((first | refine step_w1 rfl rfl ?_ | refine step_w2 rfl rfl ?_ | refine step_i (by kernel_rfl) ?_ | refine g_c (by assumption) ?_ | refine g_o (op_pickT rfl (ev_ok rfl) (ev_ok rfl)) ?_); conv => whnf)); exact Recast.refl _
  · rw [decide_eq_false h1] at wa
    (repeat ((first | refine step_w2 rfl rfl ?_ | refine step_i (by kernel_rfl) ?_ | refine g_c (by assumption) ?_ | refine g_o (op_pickF rfl (ev_ok rfl) (ev_ok rfl)) ?_); conv => whnf)); exact Recast.refl _

theorem fsz_inv (b : Rat) : fsz b⁻¹ ≤ fsz b := by
  have h1 := fsz_num b
  have h2 := fsz_den b
  by_cases h : b.num = 0
  · rw [Rat.num_eq_zero] at h
    subst h
    rw [Rat.inv_zero]; exact Nat.le_refl _
  · refine fsz_le ?_ ?_
    · rw [Rat.num_inv, Int.natAbs_mul, Int.natAbs_natCast]
      refine Nat.le_trans (sz_mono ?_) h2
      have : b.num.sign.natAbs = 1 := by rw [Int.natAbs_sign]; simp [h]
      rw [this, Nat.one_mul]; exact Nat.le_refl _
    · rw [Rat.den_inv, if_neg h]; exact h1

theorem mkRat_inv {b : Rat} (h : b.num ≠ 0) : mkRat (signed (decide (b.num.sign < 0)) b.den) b.num.natAbs = b⁻¹ := by
  have hd : b.num.natAbs ≠ 0 := by omega
  have hg : Nat.gcd (signed (decide (b.num.sign < 0)) b.den).natAbs b.num.natAbs = 1 := by rw [signed_abs]; exact b.reduced.symm
  refine Rat.ext ?_ ?_
  · rw [num_mkRat hd, hg, Rat.num_inv]
    rcases Int.lt_or_gt_of_ne h with h' | h'
    · rw [Int.sign_eq_neg_one_of_neg h']; simp [signed]
    · rw [Int.sign_eq_one_of_pos h']; simp [signed]
  · rw [den_mkRat hd, hg, Rat.den_inv, if_neg h]; simp

theorem c_fDiv (ok : NatOK M) (a b : Rat) (hb : b ≠ 0) (h : fsz a + fsz b ≤ M) : CallOK Tryd.prog 31 [.frac a, .frac b] [] (.tup [.frac (a / b), .val (.int .i64 0)]) [] [] := by
  have hn : b.num ≠ 0 := fun h => hb (Rat.num_eq_zero.1 h)
  have h1 := fsz_num b
  have h2 := fsz_den b
  have k1 := c_fSign b
  have k2 := c_den ok b (by omega)
  have k3 := c_From (decide (b.num.sign < 0)) b.den
  have k4 := c_Abs b.num
  have k5 := c_lowest ok (signed (decide (b.num.sign < 0)) b.den) b.num.natAbs (by rw [signed_abs]; omega) (by omega) (by omega)
  rw [mkRat_inv hn] at k5
  have k6 := c_fMul ok a b⁻¹ (by have := fsz_inv b; omega)
  rw [← Rat.div_def] at k6
  have hs : (b.num.sign == 0) = false := by simpa using hn
  refine callV (Z := []) tabOK mixedOK Tryd.func31 rfl (by kernel_rfl) rfl rfl (by kernel_rfl) rfl ?_
  intro W0 w0 ρ0 hE
  conv => whnf
  refine ⟨[], _, [], [], (k1), nil_fk, nil_new, nil_upd, ?_⟩; conv => whnf
  rw [hs]
  (repeat (first | (refine step_w2 rfl rfl ?_; conv => whnf) | (refine step_i (by kernel_rfl) ?_; conv => whnf) | (refine g_c (by assumption) ?_; conv => whnf))); exact Recast.refl _
theorem c_fOf (ok : NatOK M) (n d : Int) (hM : fsz (n : Rat) + fsz (d : Rat) ≤ M) (h0 : -9223372036854775808 ≤ n) (h1 : n < 9223372036854775808) (h2 : -9223372036854775808 ≤ d) (h3 : d < 9223372036854775808) (hd : d ≠ 0) :
    CallOK Tryd.prog 24 [.val (.int .i64 n), .val (.int .i64 d)] [] (.tup [.frac ((n : Rat) / (d : Rat)), .val (.int .i64 0)]) [] [] := by
  have k1 := c_fInt n h0 h1
  have k2 := c_fInt d h2 h3
  have k3 := c_fDiv ok (n : Rat) (d : Rat) (fun h => hd (by simpa using h)) hM
  refine callV (Z := []) tabOK mixedOK Tryd.func24 rfl (by kernel_rfl) rfl rfl (by kernel_rfl) rfl ?_
  intro W0 w0 ρ0 hE
  conv => whnf
  (repeat (first | (refine g_c (by assumption) ?_; conv => whnf))); exact Recast.refl _
end Go.Proofs.YtdcaodkjofkmgaaDoor

namespace Go.Proofs.YtdcaodkjofkmgaaDoor
open Go.Sx
set_option linter.unusedSimpArgs false
set_option linter.unusedVariables false
set_option maxRecDepth 100000
set_option maxHeartbeats 2000000
variable {M : Nat}

theorem c_lawOf (ok : NatOK M) (n d : Int) (hM : fsz (n : Rat) + fsz (d : Rat) ≤ M) (h0 : -9223372036854775808 ≤ n) (h1 : n < 9223372036854775808) (h2 : -9223372036854775808 ≤ d) (h3 : d < 9223372036854775808) (hd : d ≠ 0) :
    CallOK Tryd.prog 17 [.val (.int .i64 n), .val (.int .i64 d)] [] (.frac ((n : Rat) / (d : Rat))) [] [] := by
  have k1 := c_fOf ok n d hM h0 h1 h2 h3 hd
  refine callV (Z := []) tabOK mixedOK Tryd.func17 rfl (by kernel_rfl) rfl rfl (by kernel_rfl) rfl ?_
  intro W0 w0 ρ0 hE
  conv => whnf
  (repeat (first | (refine g_c (by assumption) ?_; conv => whnf))); exact Recast.refl _

theorem c_OfInt (ok : NatOK M) (z p : Int) (hz : sz z.natAbs < M) (h3 : 0 ≤ p) (h4 : p < 4294967296) :
    CallOK Tryd.prog 18 [.int z, .val (.int .u32 p)] [] (.val (.int .u32 (md z p))) [] [] := by
  have hb := ok.big
  have e1 : IntKind.u64.wrap p = ((p.toNat : Nat) : Int) := by rw [wrap_u64 h3 (by omega)]; omega
  have k1 := c_nOf p.toNat (by omega)
  have k2 := c_From false p.toNat
  rw [show signed false p.toNat = p from by simp [signed]; omega] at k2
  refine callV (Z := []) tabOK mixedOK Tryd.func18 rfl (by kernel_rfl) rfl rfl (by kernel_rfl) rfl ?_
  intro W0 w0 ρ0 hE
  conv => whnf
  rw [e1]
  by_cases hp : p = 0
  · subst hp
    have k3 := c_iDivZ ok z
    have k4 := c_Abs 0
    have k5 := c_U64 (Int.natAbs 0)
    (repeat (first | (refine step_w1 rfl rfl ?_; conv => whnf) | (refine step_i (by kernel_rfl) ?_; conv => whnf) | (refine g_c (by assumption) ?_; conv => whnf))); exact Recast.refl _
  · have hps : sz p.natAbs < M := Nat.lt_of_le_of_lt (sz_le.2 (show p.natAbs < 2 ^ 32 by omega)) (by omega)
    have k3 := c_iDiv ok z p hz hps hp
    have k4 := c_Abs (z % p)
    have k5 := c_U64 (z % p).natAbs
    (repeat (first | (refine step_w2 rfl rfl ?_; conv => whnf) | (refine step_i (by kernel_rfl) ?_; conv => whnf) | (refine g_c (by assumption) ?_; conv => whnf)))
    have h5 := Int.emod_nonneg z hp
    have h6 := Int.emod_lt_of_pos z (show 0 < p by omega)
    rw [low_small (by omega), wrap_u32 (by omega) (by omega)]
    rw [show (((z % p).natAbs : Nat) : Int) = md z p from by simp only [md, hp, if_false]; omega]
    exact Recast.refl _

/-- The residue of a natural number. -/
def mdN (n p : Nat) : Nat := if p = 0 then 0 else n % p
theorem md_nat (n p : Nat) : md n p = (mdN n p : Nat) := by
  unfold md mdN
  by_cases h : p = 0 <;> simp [h]
theorem mdN_le {n p : Nat} (hp : p < 4294967296) : mdN n p < 4294967296 := by
  unfold mdN
  split
  · omega
  · have := Nat.mod_lt n (show 0 < p by omega); omega

theorem invF_bd {a p : Nat} (h : p < 4294967296) : 0 ≤ (invF a p).1 ∧ (invF a p).1 < 4294967296 := by
  unfold invF
  split
  · exact ⟨by decide, by decide⟩
  · simp only []
    split
    · have h1 := Int.emod_nonneg (eu p (a % p) 0 1).2 (show (p : Int) ≠ 0 by omega)
      have h2 := Int.emod_lt_of_pos (eu p (a % p) 0 1).2 (show (0 : Int) < p by omega)
      exact ⟨h1, by omega⟩
    · exact ⟨by decide, by decide⟩

/-- What mods.OfFrac gives. -/
def ofFracF (q : Rat) (p : Nat) : Int × Bool :=
  if (invF (mdN q.den p) p).2 then (md (md q.num p * (invF (mdN q.den p) p).1) p, true) else (0, false)

theorem c_OfFrac (ok : NatOK M) (q : Rat) (p : Nat) (hq : fsz q < M) (hp : p < 4294967296) :
    CallOK Tryd.prog 16 [.frac q, .val (.int .u32 p)] [] (.tup [.val (.int .u32 (ofFracF q p).1), .val (.bool (ofFracF q p).2)]) [] [] := by
  have h1 := fsz_num q
  have h2 := fsz_den q
  have k1 := c_Den ok q (by omega)
  have k2 := c_From false q.den
  rw [show signed false q.den = (q.den : Int) from rfl] at k2
  have k3 := c_OfInt ok q.den p (by rw [Int.natAbs_natCast]; omega) (by omega) (by omega)
  rw [md_nat] at k3
  have k4 := c_Inv (mdN q.den p) p (mdN_le hp) hp
  have k5 := c_Num q
  have k6 := c_OfInt ok q.num p (by omega) (by omega) (by omega)
  obtain ⟨b1, b2⟩ := invF_bd (a := mdN q.den p) hp
  have h5 := md_bd (n := q.num) (p := p) (by omega)
  have k7 := c_Mul (md q.num p) (invF (mdN q.den p) p).1 p h5.1 (by omega) b1 b2 (by omega) (by omega)
  have hr : ofFracF q p = if (invF (mdN q.den p) p).2 then (md (md q.num p * (invF (mdN q.den p) p).1) p, true) else (0, false) := rfl
  rw [hr]
  generalize invF (mdN q.den p) p = iv at *
  obtain ⟨v, b⟩ := iv
  refine callV (Z := []) tabOK mixedOK Tryd.func16 rfl (by kernel_rfl) rfl rfl (by kernel_rfl) rfl ?_
  intro W0 w0 ρ0 hE
  conv => whnf
  cases b
  · (repeat (first | (refine step_w1 rfl rfl ?_; conv => whnf) | (refine g_c (by assumption) ?_; conv => whnf))); exact Recast.refl _
  · (repeat (first | (refine step_w2 rfl rfl ?_; conv => whnf) | (refine g_c (by assumption) ?_; conv => whnf))); exact Recast.refl _
end Go.Proofs.YtdcaodkjofkmgaaDoor

namespace Go.Proofs.YtdcaodkjofkmgaaDoor
open Go.Sx
set_option linter.unusedSimpArgs false
set_option linter.unusedVariables false
set_option maxRecDepth 100000

theorem c_Add64 (x y : Nat) (hx : x < 18446744073709551616) (hy : y < 18446744073709551616) :
    CallOK Tryd.prog 51 [.val (.int .u64 x), .val (.int .u64 y), .val (.int .u64 0)] [] (.tup [.val (.int .u64 ((x + y) % 18446744073709551616 : Nat)), .val (.int .u64 ((x + y) / 18446744073709551616 : Nat))]) [] [] := by
  refine .inr fun ρ w z hz hp => ?_
  simp only [HasZ, HasC] at hz
  obtain ⟨_, _, rfl, ⟨rfl, _⟩, _, _, rfl, ⟨rfl, _⟩, _, _, rfl, ⟨rfl, _⟩, rfl⟩ := hz
  refine ⟨.tuple #[.int .u64 ((x + y) % 18446744073709551616 : Nat), .int .u64 ((x + y) / 18446744073709551616 : Nat)], ρ, w, ?_, .pure ?_⟩
  · show (callFunc 51 #[.int .u64 x, .int .u64 y, .int .u64 0]).run Tryd.prog w = _
    rw [run_callFunc_extern Tryd.func51 (by kernel_rfl) (by kernel_rfl) (by kernel_rfl) (e := add64Entry) (by kernel_rfl), run_add64 x y 0 (by omega) (by omega) (by omega) (by omega)]
    simp only [Result.andThen]
    congr 5 <;> omega
  · simp only [Has, HasZ, HasC]
    exact ⟨_, ⟨_, _, rfl, ⟨rfl, rfl⟩, _, _, rfl, ⟨rfl, rfl⟩, rfl⟩, rfl⟩

theorem s_Cmp (a b : Nat) (ha : a < 18446744073709551616) (hb : b < 18446744073709551616) :
    CallOK Tryd.prog 43 [.nat a, .nat b] [] (.val (.int .i64 ((a : Int) - b).sign)) [] [] := by
  refine callV (Z := []) tabOK mixedOK Tryd.func43 rfl (by kernel_rfl) rfl rfl (by kernel_rfl) rfl ?_
  intro W0 w0 ρ0 hE
  conv => whnf
  rw [big_eq, decide_eq_true ha]
  refine ⟨fun _ => ?_, fun h => by cases h⟩
  conv => whnf
  refine ⟨fun _ => ?_, fun h => by cases h⟩
  conv => whnf
  refine ⟨fun _ => ?_, fun h => by cases h⟩
  conv => whnf
  rw [big_eq, decide_eq_true hb]
  refine ⟨.val (.bool true), [], [], [], op_pick rfl (ev_ok rfl) (fun _ => ev_ok rfl) (fun hb => by cases hb) rfl (c2 := .any), nil_fk, nil_new, nil_upd, ?_⟩
  conv => whnf
  refine ⟨fun _ => ?_, fun h => by cases h⟩
  conv => whnf
  rw [low_small ha, low_small hb]
  refine ⟨fun h => ?_, fun h => ?_⟩
  · have hz : ((a : Int) - b).sign = -1 := Int.sign_eq_neg_one_of_neg (by have := of_decide_eq_true h; omega)
    conv => whnf
    rw [hz]
    exact Recast.refl _
  · have h1 := of_decide_eq_false h
    conv => whnf
    rw [low_small ha, low_small hb]
    refine ⟨fun h => ?_, fun h => ?_⟩
    · have hz : ((a : Int) - b).sign = 1 := Int.sign_eq_one_of_pos (by have := of_decide_eq_true h; omega)
      conv => whnf
      rw [hz]
      exact Recast.refl _
    · have hz : ((a : Int) - b).sign = 0 := by rw [Int.sign_eq_zero_iff_zero]; have := of_decide_eq_false h; omega
      conv => whnf
      rw [hz]
      exact Recast.refl _

theorem hasC_nat {x : Int} {n : Nat} {s : ByteArray} (hx : x = n) (hs : s = ByteArray.empty) (hn : n < 18446744073709551616) : ∀ ρ y, HasC ρ (.agg [.val (.int .u64 x), .val (.string s)]) y → HasC ρ (.nat n) y :=
  hasC_flat (l := natCells n) (by rw [natCells_small hn, hx, hs]; rfl) rfl (fun _ h => by cases h)

theorem recast_nat {n : Nat} (hn : n < 18446744073709551616) : Recast (.agg [.val (.int .u64 n), .val (.string .empty)]) (.nat n) :=
  recast_flat (l := natCells n) (by rw [natCells_small hn]; rfl) rfl (fun _ h => by cases h)

theorem s_Add (a b : Nat) (h : a + b < 18446744073709551616) :
    CallOK Tryd.prog 37 [.nat a, .nat b] [] (.nat (a + b)) [] [] := by
  have ha : a < 18446744073709551616 := by omega
  have hb : b < 18446744073709551616 := by omega
  refine callV (Z := []) tabOK mixedOK Tryd.func37 rfl (by kernel_rfl) rfl rfl (by kernel_rfl) rfl ?_
  intro W0 w0 ρ0 hE
  conv => whnf
  rw [big_eq, decide_eq_true ha]
  refine ⟨fun _ => ?_, fun h => by cases h⟩
  conv => whnf
  refine ⟨fun _ => ?_, fun h => by cases h⟩
  conv => whnf
  refine ⟨fun _ => ?_, fun h => by cases h⟩
  conv => whnf
  rw [big_eq, decide_eq_true hb]
  refine ⟨.val (.bool true), [], [], [], op_pick rfl (ev_ok rfl) (fun _ => ev_ok rfl) (fun hb => by cases hb) rfl (c2 := .any), nil_fk, nil_new, nil_upd, ?_⟩
  conv => whnf
  refine ⟨fun _ => ?_, fun h => by cases h⟩
  conv => whnf
  rw [low_small ha, low_small hb]
  refine ⟨[], _, [], [], c_Add64 a b ha hb, nil_fk, nil_new, nil_upd, ?_⟩
  rw [Nat.mod_eq_of_lt h, Nat.div_eq_of_lt h]
  conv => whnf
  refine ⟨fun _ => ?_, fun h => by cases h⟩
  conv => whnf
  exact recast_nat h

theorem s_Sub (a b : Nat) (ha : a < 18446744073709551616) (h : b ≤ a) :
    CallOK Tryd.prog 54 [.nat a, .nat b] [] (.tup [.nat (a - b), .val (.bool true)]) [] [] := by
  have hb : b < 18446744073709551616 := by omega
  refine callV (Z := []) tabOK mixedOK Tryd.func54 rfl (by kernel_rfl) rfl rfl (by kernel_rfl) rfl ?_
  intro W0 w0 ρ0 hE
  conv => whnf
  refine ⟨[], _, [], [], s_Cmp a b ha hb, nil_fk, nil_new, nil_upd, ?_⟩
  have hs : decide (((a : Int) - b).sign < 0) = false := by
    rw [decide_eq_false_iff_not, Int.not_lt]
    exact Int.sign_nonneg_iff.2 (by omega)
  conv => whnf
  rw [hs]
  refine ⟨fun h => (by cases h), fun _ => ?_⟩
  conv => whnf
  rw [big_eq, decide_eq_true ha]
  refine ⟨fun _ => ?_, fun h => by cases h⟩
  conv => whnf
  refine recast_tup2 (hasC_nat ?_ rfl (by omega)) rfl (fun _ _ h => h) rfl
  rw [low_small ha, low_small hb, wrap_u64 (by omega) (by omega)]
  omega

theorem s_Div (a b : Nat) (ha : a < 18446744073709551616) (hb : b < 18446744073709551616) (h0 : b ≠ 0) :
    CallOK Tryd.prog 33 [.nat a, .nat b] [] (.tup [.nat (a / b), .nat (a % b), .val (.bool true)]) [] [] := by
  refine callV (Z := []) tabOK mixedOK Tryd.func33 rfl (by kernel_rfl) rfl rfl (by kernel_rfl) rfl ?_
  intro W0 w0 ρ0 hE
  conv => whnf
  refine ⟨[], _, [], [], c_nZero b, nil_fk, nil_new, nil_upd, ?_⟩
  rw [decide_eq_false h0]
  conv => whnf
  refine ⟨fun h => (by cases h), fun _ => ?_⟩
  conv => whnf
  refine ⟨[], _, [], [], s_Cmp a b ha hb, nil_fk, nil_new, nil_upd, ?_⟩
  conv => whnf
  refine ⟨fun h => ?_, fun h => ?_⟩
  · have hlt : a < b := by
      have h := of_decide_eq_true h
      have := Int.sign_neg_iff.1 h
      omega
    conv => whnf
    refine ⟨by kernel_rfl, ?_⟩
    conv => whnf
    rw [Nat.div_eq_of_lt hlt, Nat.mod_eq_of_lt hlt]
    exact Recast.refl _
  · have hle : b ≤ a := by
      have h := of_decide_eq_false h
      have := Int.sign_nonneg_iff.1 (Int.not_lt.1 h)
      omega
    conv => whnf
    rw [big_eq, decide_eq_true ha]
    refine ⟨fun _ => ?_, fun h => by cases h⟩
    conv => whnf
    rw [low_small hb]
    refine ⟨by omega, ?_⟩
    conv => whnf
    refine ⟨by rw [low_small hb]; omega, ?_⟩
    conv => whnf
    refine ⟨by kernel_rfl, ?_⟩
    conv => whnf
    have hd : a / b ≤ a := Nat.div_le_self a b
    have hm : a % b ≤ a := Nat.mod_le a b
    refine recast_tup3 (hasC_nat ?_ rfl (by omega)) rfl (hasC_nat ?_ rfl (by omega)) rfl (fun _ _ h => h) rfl
    · rw [low_small ha, show (a : Int).tdiv (b : Int) = ((a / b : Nat) : Int) from rfl, wrap_u64 (Int.natCast_nonneg _) (by exact Int.ofNat_lt.2 (Nat.lt_of_le_of_lt hd ha))]
    · rw [low_small ha, low_small hb]; rfl

theorem s_Gcd (a b : Nat) (ha : a < 18446744073709551616) (hb : b < 18446744073709551616) :
    CallOK Tryd.prog 53 [.nat a, .nat b] [] (.nat (Nat.gcd a b)) [] [] := by
  refine callV (Z := []) tabOK mixedOK Tryd.func53 rfl (by kernel_rfl) rfl rfl (by kernel_rfl) rfl ?_
  intro W0 w0 ρ0 hE
  conv => whnf
  refine SW_loopN hE (fun k => k) [2, 3, 4] [2, 3, 4] (fun m fr hp => ∃ x, x < 18446744073709551616 ∧ m < 18446744073709551616 ∧ Nat.gcd x m = Nat.gcd a b ∧ fr = [(2, .ptr 2 0 0 0), (3, .ptr 3 0 0 0), (4, .ptr 4 0 0 0)] ∧ hp = [(2, ⟨38, true, .one [.nat x]⟩), (3, ⟨38, true, .one [.nat m]⟩), (4, ⟨38, true, .one [.nat 0]⟩)]) b ?_ ?_ ?_
  · kernel_rfl
  · exact ⟨a, ha, hb, rfl, rfl, rfl⟩
  rintro m _ _ ⟨x, hx, hm, hg, rfl, rfl⟩
  conv => whnf
  refine ⟨[], _, [], [], c_nZero m, nil_fk, nil_new, nil_upd, ?_⟩
  conv => whnf
  refine ⟨fun h => ?_, fun h => ?_⟩
  · have h0 : m ≠ 0 := by simpa using h
    conv => whnf
    refine ⟨[], _, [], [], s_Div x m hx hm h0, nil_fk, nil_new, nil_upd, ?_⟩
    conv => whnf
    refine ⟨by kernel_rfl, ?_⟩
    have hlt := Nat.mod_lt x (Nat.pos_of_ne_zero h0)
    refine ⟨x % m, fun k => k, [2, 3, 4], [2, 3, 4], hlt, by kernel_rfl, m, hm, by omega, ?_, rfl, rfl⟩
    rw [← hg, Nat.gcd_comm m, ← Nat.gcd_rec, Nat.gcd_comm]
  · have h0 : m = 0 := by simpa using h
    subst h0
    conv => whnf
    rw [← hg, Nat.gcd_zero_right]
    exact Recast.refl _

theorem s_SubF (a b : Nat) (ha : a < 18446744073709551616) (hb : b < 18446744073709551616) (h : a < b) :
    CallOK Tryd.prog 54 [.nat a, .nat b] [] (.tup [.nat 0, .val (.bool false)]) [] [] := by
  refine callV (Z := []) tabOK mixedOK Tryd.func54 rfl (by kernel_rfl) rfl rfl (by kernel_rfl) rfl ?_
  intro W0 w0 ρ0 hE
  conv => whnf
  refine ⟨[], _, [], [], s_Cmp a b ha hb, nil_fk, nil_new, nil_upd, ?_⟩
  have hs : decide (((a : Int) - b).sign < 0) = true := by
    rw [decide_eq_true_eq]
    exact Int.sign_neg_iff.2 (by omega)
  conv => whnf
  rw [hs]
  refine ⟨fun _ => ?_, fun h => by cases h⟩
  conv => whnf
  exact Recast.refl _

theorem c_DivZ (a : Nat) : CallOK Tryd.prog 33 [.nat a, .nat 0] [] (.tup [.nat 0, .nat 0, .val (.bool false)]) [] [] := by
  refine callV (Z := []) tabOK mixedOK Tryd.func33 rfl (by kernel_rfl) rfl rfl (by kernel_rfl) rfl ?_
  intro W0 w0 ρ0 hE
  conv => whnf
  refine ⟨[], _, [], [], c_nZero 0, nil_fk, nil_new, nil_upd, ?_⟩
  conv => whnf
  refine ⟨fun _ => ?_, fun h => by cases h⟩
  conv => whnf
  exact Recast.refl _

end Go.Proofs.YtdcaodkjofkmgaaDoor

namespace Go.Proofs.YtdcaodkjofkmgaaDoor
open Go.Sx
set_option linter.unusedSimpArgs false
set_option linter.unusedVariables false
set_option maxRecDepth 100000
set_option maxHeartbeats 2000000

theorem c_cut (xs : List Int) (n : Nat) (hn : n ≤ xs.length) (hl : xs.length < 4611686018427387904) (K : Nat) (wr : Bool) :
    CallOK Tryd.prog 59 [.slc K 1 0 n] [(K, ⟨22, wr, .ints .u32 xs⟩)] (.slc K 1 0 (cutN xs n)) [] [] := by
  refine CallOK.anyWr ?_
  refine callK (Z := []) tabOK mixedOK Tryd.func59 rfl (by kernel_rfl) (args := [.slc 0 1 0 n]) (fk := [(0, ⟨22, false, .ints .u32 xs⟩)]) (c := .slc 0 1 0 (cutN xs n)) (new := []) (upd := []) ?_ rfl (fun _ => K) ?_ ?_
  · exact ⟨rfl, rfl, rfl, rfl, rfl, (fun _ _ h => by cases h), (fun k b h hw => by simp at h; rw [h.2] at hw; cases hw), rfl, rfl, rfl, rfl⟩
  · exact ⟨(fun q q' b b' h h' hne => by simp at h h'; omega), (fun _ _ h => by simp [keysOf] at h), (fun _ _ h => by simp [keysOf] at h)⟩
  intro W0 w0 ρ0 hE
  conv => whnf
  refine SW_loopN hE (fun k => k) [0] [0] (fun m fr hp => m ≤ n ∧ cutN xs m = cutN xs n ∧ fr = [(0, .slc 0 1 0 m)] ∧ hp = [(0, ⟨22, false, .ints .u32 xs⟩)]) n ?_ ?_ ?_
  · kernel_rfl
  · exact ⟨by omega, rfl, rfl, rfl⟩
  rintro m _ _ ⟨hm, hc, rfl, rfl⟩
  conv => whnf
  refine ⟨fun h => ?_, fun h => ?_⟩
  · have h0 : 0 < m := by have := of_decide_eq_true h; omega
    obtain ⟨m, rfl⟩ : ∃ k, m = k + 1 := ⟨m - 1, by omega⟩
    have hd : decide (((m + 1 : Nat) : Int) > 0) = true := decide_eq_true (by omega)
    have hw : IntKind.i64.wrap (((m + 1 : Nat) : Int) - 1) = (m : Int) := by rw [wrap_i64 (by omega) (by omega)]; omega
    rw [hd]
    conv => whnf
    refine ⟨fun _ => ?_, fun h => by cases h⟩
    conv => whnf
    refine ⟨fun _ => ?_, fun h => by cases h⟩
    conv => whnf
    refine ⟨fun _ => ?_, fun h => by cases h⟩
    conv => whnf
    refine ⟨fun _ => ?_, fun h => by cases h⟩
    conv => whnf
    rw [hw]
    refine ⟨⟨by omega, by omega⟩, ?_⟩
    conv => whnf
    refine ⟨fun _ => ?_, fun h => by cases h⟩
    conv => whnf
    refine ⟨by omega, ?_⟩
    conv => whnf
    rw [show 0 + (m : Int).toNat = m from by omega]
    refine ⟨fun _ => ?_, fun h => by cases h⟩
    conv => whnf
    refine ⟨.val (.bool (xs.getD m 0 == 0)), [], [], [], op_pick rfl (ev_ok rfl) (fun _ => ev_ok rfl) (fun hb => by cases hb) rfl (c2 := .any), nil_fk, nil_new, nil_upd, ?_⟩
    conv => whnf
    refine ⟨fun h => ?_, fun h => ?_⟩
    · have hx : xs.getD m 0 = 0 := by simpa using h
      conv => whnf
      rw [hw]
      refine ⟨by omega, ?_⟩
      conv => whnf
      rw [show ((m : Int) - 0).toNat = m from by omega]
      refine ⟨m, fun k => k, [0], [0], by omega, by kernel_rfl, by omega, ?_, rfl, rfl⟩
      rw [← hc, cutN, if_pos hx]
    · have hx : ¬ xs.getD m 0 = 0 := by simpa using h
      conv => whnf
      rw [← hc, cutN, if_neg hx]
      exact ⟨Recast.refl _, (fun _ _ h => by cases h), (fun _ _ h => by cases h)⟩
  · have h0 : m = 0 := by have := of_decide_eq_false h; omega
    subst h0
    rw [show decide (((0 : Nat) : Int) > 0) = false from rfl]
    conv => whnf
    iterate 6
      refine ⟨fun h => (by cases h), fun _ => ?_⟩
      conv => whnf
    refine ⟨.val (.bool false), [], [], [], op_pick rfl (ev_ok rfl) (fun hb => by cases hb) (fun _ => ev_ok rfl) rfl (c1 := .any), nil_fk, nil_new, nil_upd, ?_⟩
    conv => whnf
    refine ⟨fun h => (by cases h), fun _ => ?_⟩
    conv => whnf
    rw [← hc]
    exact ⟨Recast.refl _, (fun _ _ h => by cases h), (fun _ _ h => by cases h)⟩
end Go.Proofs.YtdcaodkjofkmgaaDoor

namespace Go.Proofs.YtdcaodkjofkmgaaDoor
open Go.Sx
set_option linter.unusedSimpArgs false
set_option linter.unusedVariables false
set_option maxRecDepth 100000
set_option maxHeartbeats 2000000

theorem val_step (xs : List Int) (hx : W32 xs) (i : Nat) (hi : i < 2) :
    ior .u64 (valI xs i) (ishl .u64 (IntKind.u64.wrap (xs.getD i 0)) ((32 * i : Nat) : Int)) = valI xs (i + 1) := by
  obtain ⟨a0, a1⟩ := hx 0
  obtain ⟨b0, b1⟩ := hx 1
  have hc : i = 0 ∨ i = 1 := by omega
  rcases hc with rfl | rfl
  · obtain ⟨w, hw⟩ := Int.eq_ofNat_of_zero_le a0
    have e : ishl .u64 (IntKind.u64.wrap (xs.getD 0 0)) ((32 * 0 : Nat) : Int) = (w : Int) := by
      rw [hw, wrap_u64 (by omega) (by omega)]
      show IntKind.u64.wrap ((w : Int) * 1) = w
      rw [Int.mul_one, wrap_u64 (by omega) (by omega)]
    rw [e, show valI xs 0 = ((0 : Nat) : Int) from rfl, ior_u64 (by omega) (by omega), Nat.zero_or]
    simp only [valI, hw, Int.pow_zero, Int.mul_one, Int.zero_add]
  · obtain ⟨w, hw⟩ := Int.eq_ofNat_of_zero_le b0
    obtain ⟨v, hv⟩ := Int.eq_ofNat_of_zero_le a0
    have e : ishl .u64 (IntKind.u64.wrap (xs.getD 1 0)) ((32 * 1 : Nat) : Int) = ((4294967296 * w : Nat) : Int) := by
      rw [hw, wrap_u64 (by omega) (by omega)]
      show IntKind.u64.wrap ((w : Int) * 4294967296) = _
      rw [wrap_u64 (by omega) (by omega)]
      omega
    have e1 : valI xs 1 = (v : Int) := by simp only [valI, hv, Int.pow_zero, Int.mul_one, Int.zero_add]
    have e2 : valI xs (1 + 1) = ((v + w * 4294967296 : Nat) : Int) := by
      simp only [valI, hv, hw, Int.pow_zero, Int.mul_one, Int.zero_add, Int.pow_succ, Int.one_mul]; omega
    rw [e, e1, e2, ior_u64 (by omega) (by omega), Nat.or_comm]
    have := Nat.two_pow_add_eq_or_of_lt (i := 32) (b := v) (by omega) w
    rw [show 4294967296 * w = 2 ^ 32 * w from rfl, ← this]
    omega

/-- The bytes of some words. -/
def bytesI (xs : List Int) : List Int := xs.flatMap fun x => (wordBytes x.toNat).map fun b => ((b.toNat : Nat) : Int)

theorem bytesI_len (xs : List Int) : (bytesI xs).length = 4 * xs.length := by
  induction xs with
  | nil => rfl
  | cons x xs ih =>
    rw [bytesI, List.flatMap_cons, List.length_append, ← bytesI, ih]
    simp [wordBytes]; omega

theorem bytesI_snoc {xs : List Int} {i : Nat} (h : i < xs.length) : bytesI (xs.take (i + 1)) = bytesI (xs.take i) ++ bytesI [xs.getD i 0] := by
  rw [List.take_add_one, bytesI, List.flatMap_append]
  have : xs[i]? = some (xs.getD i 0) := by rw [List.getD_eq_getElem?_getD, List.getElem?_eq_getElem h]; rfl
  rw [this]; rfl

theorem wu8m (n : Nat) : IntKind.u8.wrap (n : Int) = ((n % 256 : Nat) : Int) := by simp [IntKind.wrap, IntKind.bits, IntKind.signed]

theorem bytesI_one {x : Int} (h0 : 0 ≤ x) : bytesI [x] = [IntKind.u8.wrap x, IntKind.u8.wrap (ishr .u32 x 8), IntKind.u8.wrap (ishr .u32 x 16), IntKind.u8.wrap (ishr .u32 x 24)] := by
  obtain ⟨n, rfl⟩ := Int.eq_ofNat_of_zero_le h0
  have s8 : ishr .u32 (n : Int) 8 = ((n / 256 : Nat) : Int) := ishr_nat .u32 (s := 8) (by decide)
  have s16 : ishr .u32 (n : Int) 16 = ((n / 65536 : Nat) : Int) := ishr_nat .u32 (s := 16) (by decide)
  have s24 : ishr .u32 (n : Int) 24 = ((n / 16777216 : Nat) : Int) := ishr_nat .u32 (s := 24) (by decide)
  rw [s8, s16, s24, wu8m, wu8m, wu8m, wu8m]
  simp only [bytesI, wordBytes, List.flatMap_cons, List.flatMap_nil, List.map_cons, List.map_nil, List.append_nil, Int.toNat_natCast, UInt8.toNat_ofNat']

theorem bytesI_back {xs : List Int} (h : W32 xs) : (bytesI xs).map (fun v => UInt8.ofNat v.toNat) = (xs.map Int.toNat).flatMap wordBytes := by
  induction xs with
  | nil => rfl
  | cons x xs ih =>
    have hw : W32 xs := fun i => by have := h (i + 1); simpa using this
    rw [bytesI, List.flatMap_cons, List.map_append, ← bytesI, ih hw, List.map_cons, List.flatMap_cons]
    congr 1
    rw [List.map_map]
    have : ((fun v : Int => UInt8.ofNat v.toNat) ∘ fun b : UInt8 => ((b.toNat : Nat) : Int)) = id := by funext b; simp
    rw [this, List.map_id]

theorem big_of {xs : List Int} {k : Nat} (hx : W32 xs) (hk : k ≤ xs.length) (h2 : 2 < k) (ht : xs.getD (k - 1) 0 ≠ 0) :
    natCells (valI xs k).toNat = [.int .u64 0, .string ⟨((bytesI (xs.take k)).map (fun v => UInt8.ofNat v.toNat)).toArray⟩] := by
  have h1 := wInts_of k xs hx hk (.inr ht)
  obtain ⟨j, rfl⟩ : ∃ j, k = j + 1 := ⟨k - 1, by omega⟩
  have hge := valI_ge hx (k := j) (by simpa using ht)
  have hp : (4294967296 : Int) ^ 2 ≤ 4294967296 ^ j := by
    have : (4294967296 : Nat) ^ 2 ≤ 4294967296 ^ j := Nat.pow_le_pow_right (by decide) (by omega)
    rw [← natPowW, ← natPowW]; exact Int.ofNat_le.2 this
  have hbig : ¬ (valI xs (j + 1)).toNat < 18446744073709551616 := by
    have : (4294967296 : Int) ^ 2 = 18446744073709551616 := by decide
    omega
  have hw : W32 (xs.take (j + 1)) := fun i => by
    rw [getD_take]
    split
    · exact hx i
    · decide
  simp only [natCells, low, big, hbig, if_false]
  rw [bytesI_back hw, ← h1, wInts, List.map_map]
  have : (Int.toNat ∘ Int.ofNat) = id := by funext n; rfl
  rw [this, List.map_id]

theorem c_of (xs : List Int) (n : Nat) (hn : n ≤ xs.length) (hl : xs.length < 1099511627776) (hx : W32 xs) (K : Nat) (wr : Bool) :
    CallOK Tryd.prog 46 [.slc K 1 0 n] [(K, ⟨22, wr, .ints .u32 xs⟩)] (.nat (valI xs n).toNat) [] [] := by
  refine CallOK.anyWr ?_
  refine callK (Z := []) tabOK mixedOK Tryd.func46 rfl (by kernel_rfl) (args := [.slc 0 1 0 n]) (fk := [(0, ⟨22, false, .ints .u32 xs⟩)]) (c := .nat (valI xs n).toNat) (new := []) (upd := []) ?_ rfl (fun _ => K) ?_ ?_
  · exact ⟨rfl, rfl, rfl, rfl, rfl, (fun _ _ h => by cases h), (fun k b h hw => by simp at h; rw [h.2] at hw; cases hw), rfl, rfl, rfl, rfl⟩
  · exact ⟨(fun q q' b b' h h' hne => by simp at h h'; omega), (fun _ _ h => by simp [keysOf] at h), (fun _ _ h => by simp [keysOf] at h)⟩
  intro W0 w0 ρ0 hE
  conv => whnf
  refine ⟨_, _, [], [], c_cut xs n hn (by omega) 0 false, one_fk rfl, nil_new, nil_upd, ?_⟩
  have hle := cutN_le xs n
  have htop := cutN_top xs n
  rw [← valI_cut xs n]
  generalize cutN xs n = k at *
  conv => whnf
  by_cases hk : k ≤ 2
  · have t1 : decide ((k : Int) ≤ 2) = true := by simp; omega
    rw [t1]
    (repeat (first | (refine step_w1 rfl rfl ?_; conv => whnf)))
    refine SW_loopN hE (fun k => k) [2, 3, 14, 15, 16] [0, 2] (fun m fr hp => ∃ i, m = k - i ∧ i ≤ k ∧ fr = [(2, .ptr 2 0 0 0), (3, .val (.int .u64 (valI xs i))), (14, .slc 0 1 0 k), (15, .val (.int .i64 k)), (16, .val (.int .i64 (i : Nat)))] ∧ hp = [(0, ⟨22, false, .ints .u32 xs⟩), (2, ⟨38, true, .one [.nat 0]⟩)]) k ?_ ?_ ?_
    · kernel_rfl
    · exact ⟨0, rfl, by omega, rfl, rfl⟩
    rintro m _ _ ⟨i, rfl, hi, rfl, rfl⟩
    conv => whnf
    refine ⟨fun h => ?_, fun h => ?_⟩
    · have hi' : i < k := by have := of_decide_eq_true h; omega
      conv => whnf
      have hw : IntKind.i64.wrap (32 * (i : Int)) = ((32 * i : Nat) : Int) := by rw [wrap_i64 (by omega) (by omega)]; omega
      have hi2 : IntKind.i64.wrap ((i : Int) + 1) = ((i + 1 : Nat) : Int) := by rw [wrap_i64 (by omega) (by omega)]; omega
      (repeat (first | (refine And.intro (by first | decide | omega | (simp only [tiB5, tiB22, tiB3, tiB2, tiB9, tiB44, tiB42, tiB28, tiB4, dlen, List.length_replicate, List.length_set, List.length_map, List.length_zipWith, List.length_take, List.length_append, List.length_cons, List.length_nil]; omega)) ?_; conv => whnf) | (rw [hw]; conv => whnf)))
      rw [show 0 + (i : Int).toNat = i from by omega, hi2, val_step xs hx i (by omega)]
      exact ⟨k - (i + 1), fun k => k, [2, 3, 14, 15, 16], [0, 2], by omega, by kernel_rfl, i + 1, rfl, by omega, rfl, rfl⟩
    · have hi' : i = k := by have := of_decide_eq_false h; omega
      subst hi'
      conv => whnf
      have hb := valI_lt hx i
      have h0 := valI_nonneg hx i
      have hb' : (4294967296 : Int) ^ i ≤ 18446744073709551616 := by
        have : i = 0 ∨ i = 1 ∨ i = 2 := by omega
        rcases this with rfl | rfl | rfl <;> decide
      obtain ⟨v, hv⟩ := Int.eq_ofNat_of_zero_le h0
      rw [hv] at hb ⊢
      exact ⟨recast_nat (by omega), (fun _ _ h => by cases h), (fun _ _ h => by cases h)⟩
  · have t1 : decide ((k : Int) ≤ 2) = false := by simp; omega
    have e1 : IntKind.i64.wrap (4 * (k : Int)) = ((4 * k : Nat) : Int) := by rw [wrap_i64 (by omega) (by omega)]; omega
    (repeat ((first | refine step_w2 rfl rfl ?_ | refine And.intro (by first | decide | omega | (simp only [tiB5, tiB22, tiB3, tiB2, tiB9, tiB44, tiB42, tiB28, tiB4, dlen, List.length_replicate, List.length_set, List.length_map, List.length_zipWith, List.length_take, List.length_append, List.length_cons, List.length_nil]; omega)) ?_ | rw [t1] | rw [e1]); conv => whnf))
    refine SW_loopN hE (fun k => k) [2, 6, 35, 36, 37] [0, 2, 34] (fun m fr hp => ∃ i, m = k - i ∧ i ≤ k ∧ fr = [(2, .ptr 2 0 0 0), (6, .slc 34 1 0 (4 * i)), (35, .slc 0 1 0 k), (36, .val (.int .i64 k)), (37, .val (.int .i64 (i : Nat)))] ∧ hp = [(0, ⟨22, false, .ints .u32 xs⟩), (2, ⟨38, true, .one [.nat 0]⟩), (34, ⟨5, true, .ints .u8 (bytesI (xs.take i))⟩)]) k ?_ ?_ ?_
    · kernel_rfl
    · exact ⟨0, rfl, by omega, rfl, rfl⟩
    rintro m _ _ ⟨i, rfl, hi, rfl, rfl⟩
    conv => whnf
    refine ⟨fun h => ?_, fun h => ?_⟩
    · have hi' : i < k := by have := of_decide_eq_true h; omega
      conv => whnf
      have hb := hx i
      have hlen : (bytesI (xs.take i)).length = 4 * i := by rw [bytesI_len, List.length_take]; omega
      have hi2 : IntKind.i64.wrap ((i : Int) + 1) = ((i + 1 : Nat) : Int) := by rw [wrap_i64 (by omega) (by omega)]; omega
      have hs := bytesI_snoc (xs := xs) (i := i) (by omega)
      rw [bytesI_one hb.1] at hs
      (repeat (first | (refine And.intro (by first | decide | omega | (simp only [tiB5, tiB22, tiB3, tiB2, tiB9, tiB44, tiB42, tiB28, tiB4, dlen, List.length_replicate, List.length_set, List.length_map, List.length_zipWith, List.length_take, List.length_append, List.length_cons, List.length_nil]; omega)) ?_; conv => whnf) | (rw [show 0 + (i : Int).toNat = i from by omega]; conv => whnf)))
      (repeat (first | (rw [hi2]; conv => whnf)))
      refine ⟨k - (i + 1), renBy [(54, 34)], [2, 6, 35, 36, 37], [0, 2, 54], by omega, by kernel_rfl, i + 1, rfl, by omega, rfl, ?_⟩
      rw [hs]
      conv => lhs; whnf
      rw [← hlen, List.take_length]
      rfl
    · have hi' : i = k := by have := of_decide_eq_false h; omega
      subst hi'
      conv => whnf
      have hlen : (bytesI (xs.take i)).length = 4 * i := by rw [bytesI_len, List.length_take]; omega
      refine ⟨_, [(34, ⟨5, true, .ints .u8 (bytesI (xs.take i))⟩)], [], op_bytesStr (P := Tryd.prog) (i := 0) (n := 4 * i) rfl (ev_ok rfl) (tabOK.get (t := 93) rfl) rfl (tabOK.get (t := 5) rfl) rfl (tabOK.get (t := 9) rfl) rfl (List.mem_cons_self ..) (by omega), one_fk rfl, nil_new, ?_⟩
      rw [List.drop_zero, ← hlen, List.take_length]
      conv => whnf
      skip
      refine ⟨recast_flat (l := natCells (valI xs i).toNat) ?_ rfl (fun _ h => by cases h), (fun _ _ h => by cases h), (fun _ _ h => by cases h)⟩
      rw [big_of hx (by omega) (by omega) (htop.resolve_left (by omega))]
      rfl
end Go.Proofs.YtdcaodkjofkmgaaDoor

namespace Go.Proofs.YtdcaodkjofkmgaaDoor
open Go.Sx
set_option linter.unusedSimpArgs false
set_option linter.unusedVariables false
set_option maxRecDepth 100000
set_option maxHeartbeats 2000000

theorem and32 (n : Nat) : n &&& 4294967295 = n % 4294967296 := by
  have := Nat.and_two_pow_sub_one_eq_mod n 32
  simpa using this

theorem iand_lo {n : Nat} (h : n < 18446744073709551616) : iand .u64 (n : Int) 4294967295 = ((n % 4294967296 : Nat) : Int) := by
  have := iand_u64 (x := n) (y := 4294967295) h (by decide)
  rw [and32] at this
  exact this
theorem ishr_hi (n : Nat) : ishr .u64 (n : Int) 32 = ((n / 4294967296 : Nat) : Int) := ishr_nat .u64 (s := 32) (by decide)

/-- The high word of the schoolbook product. -/
theorem mul_hi (x y : Nat) :
    x / 4294967296 * (y / 4294967296) + (x / 4294967296 * (y % 4294967296) + x % 4294967296 * (y % 4294967296) / 4294967296) / 4294967296 + ((x / 4294967296 * (y % 4294967296) + x % 4294967296 * (y % 4294967296) / 4294967296) % 4294967296 + x % 4294967296 * (y / 4294967296)) / 4294967296 = x * y / 18446744073709551616 := by
  have e1 : x * y = (x / 4294967296 * (y / 4294967296)) * 18446744073709551616 + (x / 4294967296 * (y % 4294967296)) * 4294967296 + (x % 4294967296 * (y / 4294967296)) * 4294967296 + x % 4294967296 * (y % 4294967296) := by
    have hx' : x = 4294967296 * (x / 4294967296) + x % 4294967296 := by omega
    have hy' : y = 4294967296 * (y / 4294967296) + y % 4294967296 := by omega
    generalize x / 4294967296 = a at *
    generalize x % 4294967296 = b at *
    generalize y / 4294967296 = c at *
    generalize y % 4294967296 = d at *
    rw [hx', hy', Nat.add_mul, Nat.mul_add, Nat.mul_add, Nat.mul_mul_mul_comm, Nat.mul_assoc 4294967296 a d, Nat.mul_left_comm b 4294967296 c]
    omega
  generalize x / 4294967296 * (y / 4294967296) = A at *
  generalize x / 4294967296 * (y % 4294967296) = B at *
  generalize x % 4294967296 * (y / 4294967296) = C at *
  generalize x % 4294967296 * (y % 4294967296) = D at *
  omega

theorem c_Mul64 (x y : Nat) (hx : x < 18446744073709551616) (hy : y < 18446744073709551616) :
    CallOK Tryd.prog 67 [.val (.int .u64 x), .val (.int .u64 y)] [] (.tup [.val (.int .u64 (x * y / 18446744073709551616 : Nat)), .val (.int .u64 (x * y % 18446744073709551616 : Nat))]) [] [] := by
  refine callV (Z := []) tabOK mixedOK Tryd.func67 rfl (by kernel_rfl) rfl rfl (by kernel_rfl) rfl ?_
  intro W0 w0 ρ0 hE
  conv => whnf
  iterate 5
    refine ⟨by decide, ?_⟩
    conv => whnf
  have hh := mul_hi x y
  have elo : IntKind.u64.wrap ((x : Int) * y) = ((x * y % 18446744073709551616 : Nat) : Int) := by rw [wrap_u64', ← Int.natCast_mul]; omega
  rw [elo, ishr_hi x, ishr_hi y, iand_lo hx, iand_lo hy]
  have ba : x / 4294967296 ≤ 4294967295 := by omega
  have bb : x % 4294967296 ≤ 4294967295 := by omega
  have bc : y / 4294967296 ≤ 4294967295 := by omega
  have bd : y % 4294967296 ≤ 4294967295 := by omega
  generalize x / 4294967296 = a at *
  generalize x % 4294967296 = b at *
  generalize y / 4294967296 = c at *
  generalize y % 4294967296 = d at *
  have pac := Nat.mul_le_mul ba bc
  have pad := Nat.mul_le_mul ba bd
  have pbc := Nat.mul_le_mul bb bc
  have pbd := Nat.mul_le_mul bb bd
  have wu : ∀ {n : Nat}, n < 18446744073709551616 → IntKind.u64.wrap (n : Int) = n := fun h => wrap_u64 (by omega) (by omega)
  rw [← Int.natCast_mul, ← Int.natCast_mul, ← Int.natCast_mul, ← Int.natCast_mul, wu (n := a * c) (by omega), wu (n := a * d) (by omega), wu (n := b * d) (by omega), wu (n := b * c) (by omega), ishr_hi (b * d), ← Int.natCast_add, wu (n := a * d + b * d / 4294967296) (by omega), ishr_hi, iand_lo (by omega), ← Int.natCast_add, ← Int.natCast_add, wu (n := a * c + (a * d + b * d / 4294967296) / 4294967296) (by omega), wu (n := (a * d + b * d / 4294967296) % 4294967296 + b * c) (by omega), ishr_hi, ← Int.natCast_add, hh, wu (by omega)]
  exact Recast.refl _
end Go.Proofs.YtdcaodkjofkmgaaDoor

namespace Go.Proofs.YtdcaodkjofkmgaaDoor
open Go.Sx
set_option linter.unusedSimpArgs false
set_option linter.unusedVariables false
set_option maxRecDepth 100000
set_option maxHeartbeats 4000000

theorem wu32 {n : Nat} (h : n < 4294967296) : IntKind.u32.wrap (n : Int) = n := wrap_u32 (by omega) (by omega)
theorem wu32m (n : Nat) : IntKind.u32.wrap (n : Int) = ((n % 4294967296 : Nat) : Int) := by rw [wrap_u32']; omega

end Go.Proofs.YtdcaodkjofkmgaaDoor

namespace Go.Proofs.YtdcaodkjofkmgaaDoor
open Go.Sx
set_option linter.unusedSimpArgs false
set_option linter.unusedVariables false
set_option maxRecDepth 100000
set_option maxHeartbeats 4000000

end Go.Proofs.YtdcaodkjofkmgaaDoor

namespace Go.Proofs.YtdcaodkjofkmgaaDoor
open Go.Sx
set_option linter.unusedSimpArgs false
set_option linter.unusedVariables false
set_option maxRecDepth 100000
set_option maxHeartbeats 4000000

end Go.Proofs.YtdcaodkjofkmgaaDoor

namespace Go.Proofs.YtdcaodkjofkmgaaDoor
open Go.Sx
set_option linter.unusedSimpArgs false
set_option linter.unusedVariables false
set_option maxRecDepth 100000
set_option maxHeartbeats 4000000

end Go.Proofs.YtdcaodkjofkmgaaDoor

namespace Go.Proofs.YtdcaodkjofkmgaaDoor
open Go.Sx
set_option linter.unusedSimpArgs false
set_option linter.unusedVariables false
set_option maxRecDepth 100000
set_option maxHeartbeats 4000000

end Go.Proofs.YtdcaodkjofkmgaaDoor

namespace Go.Proofs.YtdcaodkjofkmgaaDoor
open Go.Sx
set_option linter.unusedSimpArgs false
set_option linter.unusedVariables false
set_option maxRecDepth 100000
set_option maxHeartbeats 4000000

theorem four_words (p : Nat) (h : p < 340282366920938463463374607431768211456) :
    valI [((p % 18446744073709551616 % 4294967296 : Nat) : Int), ((p % 18446744073709551616 / 4294967296 : Nat) : Int), ((p / 18446744073709551616 % 4294967296 : Nat) : Int), ((p / 18446744073709551616 / 4294967296 : Nat) : Int)] 4 = p ∧
    W32 [((p % 18446744073709551616 % 4294967296 : Nat) : Int), ((p % 18446744073709551616 / 4294967296 : Nat) : Int), ((p / 18446744073709551616 % 4294967296 : Nat) : Int), ((p / 18446744073709551616 / 4294967296 : Nat) : Int)] := by
  constructor
  · simp only [valI, List.getD_cons_zero, List.getD_cons_succ, Int.pow_succ, Int.pow_zero]
    omega
  · refine W32_of fun x hx => ?_
    simp only [List.mem_cons, List.not_mem_nil, or_false] at hx
    rcases hx with rfl | rfl | rfl | rfl <;> omega

theorem c_Mul_s (a b : Nat) (ha : a < 18446744073709551616) (hb : b < 18446744073709551616) :
    CallOK Tryd.prog 57 [.nat a, .nat b] [] (.nat (a * b)) [] [] := by
  have k1 := c_Mul64 a b ha hb
  have hp : a * b < 340282366920938463463374607431768211456 := by
    have := Nat.mul_le_mul (show a ≤ 18446744073709551615 by omega) (show b ≤ 18446744073709551615 by omega)
    omega
  obtain ⟨h1, h2⟩ := four_words (a * b) hp
  have e1 : IntKind.u32.wrap ((a * b % 18446744073709551616 : Nat) : Int) = ((a * b % 18446744073709551616 % 4294967296 : Nat) : Int) := wu32m _
  have e2 : IntKind.u32.wrap (ishr .u64 ((a * b % 18446744073709551616 : Nat) : Int) 32) = ((a * b % 18446744073709551616 / 4294967296 : Nat) : Int) := by rw [ishr_hi, wu32 (by omega)]
  have e3 : IntKind.u32.wrap ((a * b / 18446744073709551616 : Nat) : Int) = ((a * b / 18446744073709551616 % 4294967296 : Nat) : Int) := wu32m _
  have e4 : IntKind.u32.wrap (ishr .u64 ((a * b / 18446744073709551616 : Nat) : Int) 32) = ((a * b / 18446744073709551616 / 4294967296 : Nat) : Int) := by rw [ishr_hi, wu32 (by omega)]
  have so := c_of _ 4 (by simp) (by simp) h2 41 true
  rw [h1, Int.toNat_natCast] at so
  refine callV (Z := []) tabOK mixedOK Tryd.func57 rfl (by kernel_rfl) rfl rfl (by kernel_rfl) rfl ?_
  intro W0 w0 ρ0 hE
  conv => whnf
  rw [big_eq, decide_eq_true ha]
  (repeat (first | (refine step_w1 rfl rfl ?_; conv => whnf) | (refine g_o (op_pickT rfl (ev_ok rfl) (ev_ok rfl)) ?_; conv => whnf)))
  rw [big_eq, decide_eq_true hb]
  (repeat ((first | refine step_w1 rfl rfl ?_ | refine And.intro (by first | decide | omega | (simp only [tiB5, tiB22, tiB3, tiB2, tiB9, tiB44, tiB42, tiB28, tiB4, dlen, List.length_replicate, List.length_set, List.length_map, List.length_zipWith, List.length_take, List.length_append, List.length_cons, List.length_nil]; omega)) ?_ | refine g_c (by assumption) ?_ | refine g_c1 (by assumption) rfl ?_ | rw [low_small ha] | rw [low_small hb] | rw [e1] | rw [e2] | rw [e3] | rw [e4]); conv => whnf))
  exact Recast.refl _

end Go.Proofs.YtdcaodkjofkmgaaDoor

namespace Go.Proofs.YtdcaodkjofkmgaaDoor
open Go.Sx
set_option linter.unusedSimpArgs false
set_option linter.unusedVariables false
set_option maxRecDepth 100000
set_option maxHeartbeats 4000000

theorem sz64 {n : Nat} (h : sz n ≤ 64) : n < 18446744073709551616 := sz_le.1 h

theorem nat64 : NatOK 64 where
  big := Nat.le_refl _
  cmp a b ha hb := s_Cmp a b (sz64 ha) (sz64 hb)
  add a b h := s_Add a b (sz64 h)
  sub a b ha h := s_Sub a b (sz64 ha) h
  subF a b hb h := s_SubF a b (Nat.lt_trans h (sz64 hb)) (sz64 hb) h
  mul a b h := c_Mul_s a b (sz64 (by omega)) (sz64 (by omega))
  div a b ha hb h0 := s_Div a b (sz64 ha) (sz64 hb) h0
  divZ a := c_DivZ a
  gcd a b ha hb := s_Gcd a b (sz64 ha) (sz64 hb)

theorem k_prime (n : Nat) (b : Bool) (hn : n < 4294967296) (e : primeF n = b) : CallOK Tryd.prog 6 [.val (.int .u32 n)] [] (.val (.bool b)) [] [] := e ▸ c_Prime n hn
theorem k_next (n : Nat) (q e : Int) (hn : n < 4294967296) (h : nextF (2147483648 - (n + 1)) (n + 1) = (q, e)) : CallOK Tryd.prog 4 [.val (.int .u32 n)] [] (.tup [.val (.int .u32 q), .val (.int .i64 e)]) [] [] := by
  have := c_Next n hn; rwa [h] at this
theorem k_inv (a p : Nat) (q : Int) (b : Bool) (ha : a < 4294967296) (hp : p < 4294967296) (h : invF a p = (q, b)) : CallOK Tryd.prog 13 [.val (.int .u32 a), .val (.int .u32 p)] [] (.tup [.val (.int .u32 q), .val (.bool b)]) [] [] := by
  have := c_Inv a p ha hp; rwa [h] at this
theorem k_frac (a : Rat) (p : Nat) (q : Int) (b : Bool) (ha : fsz a < 64) (hp : p < 4294967296) (h : ofFracF a p = (q, b)) : CallOK Tryd.prog 16 [.frac a, .val (.int .u32 p)] [] (.tup [.val (.int .u32 q), .val (.bool b)]) [] [] := by
  have := c_OfFrac nat64 a p ha hp; rwa [h] at this

theorem c_works : CallOK Tryd.prog 8 [] [] (.val (.bool true)) [] [] := by
  have n1 := k_next 0 2 0 (by decide) (by kernel_rfl)
  have n2 := k_next 2 3 0 (by decide) (by kernel_rfl)
  have n3 := k_next 2147483646 2147483647 0 (by decide) (by kernel_rfl)
  have n4 := k_next 2147483647 0 3 (by decide) (by kernel_rfl)
  have p1 := k_prime 2 true (by decide) (by kernel_rfl)
  have p2 := k_prime 1 false (by decide) (by kernel_rfl)
  have p3 := k_prime 561 false (by decide) (by kernel_rfl)
  have p4 := k_prime 2147483647 true (by decide) (by kernel_rfl)
  have p5 := k_prime 4294967291 true (by decide) (by kernel_rfl)
  have i1 := k_inv 3 7 5 true (by decide) (by decide) (by kernel_rfl)
  have i2 := k_inv 2 4 0 false (by decide) (by decide) (by kernel_rfl)
  have i3 := k_inv 0 1 0 true (by decide) (by decide) (by kernel_rfl)
  have i4 := k_inv 5 0 0 false (by decide) (by decide) (by kernel_rfl)
  have a1 := (c_Sub 3 5 7 (by decide) (by decide) (by decide) (by decide) (by decide) (by decide)).res (d := .val (.int .u32 5)) (by kernel_rfl)
  have a2 := (c_Mul 4294967295 4294967295 4294967291 (by decide) (by decide) (by decide) (by decide) (by decide) (by decide)).res (d := .val (.int .u32 16)) (by kernel_rfl)
  have a3 := (c_Pow 2 1000 10 (by decide) (by decide) (by decide) (by decide) (by decide)).res (d := .val (.int .u32 24)) (by kernel_rfl)
  have a4 := (c_Pow 0 5 0 (by decide) (by decide) (by decide) (by decide) (by decide)).res (d := .val (.int .u32 1)) (by kernel_rfl)
  have a5 := (c_Add 3 4 0 (by decide) (by decide) (by decide) (by decide) (by decide) (by decide)).res (d := .val (.int .u32 0)) (by kernel_rfl)
  have f1 := c_lawOf nat64 1 2 (of_decide_eq_true (by kernel_rfl)) (by decide) (by decide) (by decide) (by decide) (by decide)
  have f2 := c_lawOf nat64 1 7 (of_decide_eq_true (by kernel_rfl)) (by decide) (by decide) (by decide) (by decide) (by decide)
  have f3 := c_lawOf nat64 7 2 (of_decide_eq_true (by kernel_rfl)) (by decide) (by decide) (by decide) (by decide) (by decide)
  have g1 := k_frac (((1 : Int) : Rat) / ((2 : Int) : Rat)) 7 4 true (of_decide_eq_true (by kernel_rfl)) (by decide) (by kernel_rfl)
  have g2 := k_frac (((1 : Int) : Rat) / ((7 : Int) : Rat)) 7 0 false (of_decide_eq_true (by kernel_rfl)) (by decide) (by kernel_rfl)
  have g3 := k_frac (((7 : Int) : Rat) / ((2 : Int) : Rat)) 7 0 true (of_decide_eq_true (by kernel_rfl)) (by decide) (by kernel_rfl)
  have z1 := c_iOf (-1) (by decide) (by decide)
  have z2 := (c_OfInt nat64 (-1) 7 (of_decide_eq_true (by kernel_rfl)) (by decide) (by decide)).res (d := .val (.int .u32 6)) (by kernel_rfl)
  refine callV (Z := []) tabOK mixedOK Tryd.func8 rfl (by kernel_rfl) rfl rfl (by kernel_rfl) rfl ?_
  intro W0 w0 ρ0 hE
  conv => whnf
  (repeat ((first | refine step_w1 rfl rfl ?_ | refine step_w2 rfl rfl ?_ | refine g_c (by assumption) ?_ | refine g_o (op_pickT rfl (ev_ok rfl) (ev_ok rfl)) ?_ | refine g_o (op_pickF rfl (ev_ok rfl) (ev_ok rfl)) ?_); conv => whnf)); exact Recast.refl _
end Go.Proofs.YtdcaodkjofkmgaaDoor

namespace Go.Proofs.YtdcaodkjofkmgaaDoor
open Go.Sx
set_option linter.unusedSimpArgs false
set_option linter.unusedVariables false
set_option maxRecDepth 100000
set_option maxHeartbeats 4000000

theorem r6_Prime (n : Nat) (hn : n < 4294967296) :
    CallOK Tryd.prog 7 [.val (.int .u32 n)] [] (.val (.bool (primeF n))) [] [] := by
  refine callV (Z := []) tabOK mixedOK Tryd.func7 rfl (by kernel_rfl) rfl rfl (by kernel_rfl) rfl ?_
  intro W0 w0 ρ0 hE
  conv => whnf
  refine SW_loopN hE (fun k => k) [0, 3] [] (fun m fr hp => ∃ d, m = 70000 - d ∧ 2 ≤ d ∧ d ≤ 65537 ∧ (∀ e, 2 ≤ e → e < d → ¬ e ∣ n) ∧ fr = [(0, .val (.int .u32 (n : Nat))), (3, .val (.int .u64 (d : Nat)))] ∧ hp = []) 69998 ?_ ?_ ?_
  · kernel_rfl
  · exact ⟨2, rfl, by omega, by omega, fun e h0 h1 => by omega, rfl, rfl⟩
  rintro m _ _ ⟨d, rfl, hd2, hd, hT, rfl, rfl⟩
  have hdd : d * d ≤ 65537 * 65537 := Nat.mul_le_mul hd hd
  have e1 : IntKind.u64.wrap ((d : Int) * d) = ((d * d : Nat) : Int) := by rw [← Int.natCast_mul]; exact wrap_u64 (by omega) (by omega)
  have e2 : IntKind.u64.wrap (n : Int) = (n : Int) := wrap_u64 (by omega) (by omega)
  conv => whnf
  rw [e1, e2]
  refine ⟨fun h => ?_, fun h => ?_⟩
  · have hle : d * d ≤ n := by have := of_decide_eq_true h; omega
    have hd' : d ≤ 65535 := by
      by_cases hx : d ≤ 65535
      · exact hx
      · have := Nat.mul_le_mul (show 65536 ≤ d by omega) (show 65536 ≤ d by omega); omega
    conv => whnf
    rw [e2]
    refine ⟨by omega, ?_⟩
    conv => whnf
    have e3 : (n : Int).tmod (d : Int) = ((n % d : Nat) : Int) := by rw [Int.tmod_eq_emod_of_nonneg (by omega)]; rfl
    rw [e3]
    refine ⟨fun h => ?_, fun h => ?_⟩
    · have hz : n % d = 0 := by have := of_decide_eq_true h; omega
      conv => whnf
      have e4 : primeF n = false := by
        cases hp : primeF n with
        | false => rfl
        | true =>
          rcases ((primeF_iff hn).1 hp).div d (Nat.dvd_of_mod_eq_zero hz) with e | e
          · omega
          · subst e
            have := Nat.mul_le_mul_left d hd2
            omega
      rw [e4]
      exact Recast.refl _
    · have hz : ¬ n % d = 0 := by have := of_decide_eq_false h; omega
      conv => whnf
      rw [show IntKind.u64.wrap ((d : Int) + 1) = ((d + 1 : Nat) : Int) from by rw [wrap_u64 (by omega) (by omega)]; omega]
      refine ⟨70000 - (d + 1), fun k => k, [0, 3], [], by omega, by kernel_rfl, d + 1, rfl, by omega, by omega, fun e h0 h1 hdv => ?_, rfl, rfl⟩
      by_cases he : e = d
      · subst he; exact hz (Nat.mod_eq_zero_of_dvd hdv)
      · exact hT e h0 (by omega) hdv
  · have hgt : n < d * d := by have := of_decide_eq_false h; omega
    conv => whnf
    have e4 : primeF n = decide ((n : Int) > 1) := by
      rw [Bool.eq_iff_iff, primeF_iff hn, decide_eq_true_eq]
      constructor
      · intro hp; have := hp.two; omega
      · intro h1; exact prime_of (by omega) hgt hT
    rw [e4]
    exact Recast.refl _

theorem r6_Next (n : Nat) (hn : n < 4294967296) :
    CallOK Tryd.prog 5 [.val (.int .u32 n)] [] (.tup [.val (.int .u32 (nextF (2147483648 - (n + 1)) (n + 1)).1), .val (.int .i64 (nextF (2147483648 - (n + 1)) (n + 1)).2)]) [] [] := by
  refine callV (Z := []) tabOK mixedOK Tryd.func5 rfl (by kernel_rfl) rfl rfl (by kernel_rfl) rfl ?_
  intro W0 w0 ρ0 hE
  conv => whnf
  have e1 : IntKind.u64.wrap (IntKind.u64.wrap (n : Int) + 1) = ((n + 1 : Nat) : Int) := by rw [wrap_u64 (n := (n : Int)) (by omega) (by omega), wrap_u64 (by omega) (by omega)]; omega
  rw [e1]
  refine SW_loopN hE (fun k => k) [4] [] (fun m fr hp => ∃ q, m = 2147483648 - q ∧ q ≤ 4294967296 ∧ nextF (2147483648 - q) q = nextF (2147483648 - (n + 1)) (n + 1) ∧ fr = [(4, .val (.int .u64 (q : Nat)))] ∧ hp = []) (2147483648 - (n + 1)) ?_ ?_ ?_
  · kernel_rfl
  · exact ⟨n + 1, rfl, by omega, rfl, rfl, rfl⟩
  rintro m _ _ ⟨q, rfl, hq0, hT, rfl, rfl⟩
  conv => whnf
  refine ⟨fun h => ?_, fun h => ?_⟩
  · have hq : q < 2147483648 := by have := of_decide_eq_true h; omega
    rw [show 2147483648 - q = (2147483648 - (q + 1)) + 1 from by omega] at hT
    simp only [nextF] at hT
    conv => whnf
    have e2 : IntKind.u32.wrap (q : Int) = q := wrap_u32 (by omega) (by omega)
    rw [e2]
    refine ⟨[], _, [], [], r6_Prime q (by omega), nil_fk, nil_new, nil_upd, ?_⟩
    conv => whnf
    refine ⟨fun h => ?_, fun h => ?_⟩
    · rw [if_pos h] at hT
      conv => whnf
      rw [e2, ← hT]
      exact Recast.refl _
    · rw [if_neg (by simp [h])] at hT
      conv => whnf
      rw [show IntKind.u64.wrap ((q : Int) + 1) = ((q + 1 : Nat) : Int) from by rw [wrap_u64 (by omega) (by omega)]; omega]
      exact ⟨2147483648 - (q + 1), fun k => k, [4], [], by omega, by kernel_rfl, q + 1, rfl, by omega, hT, rfl, rfl⟩
  · have hq : 2147483648 - q = 0 := by have := of_decide_eq_false h; omega
    rw [hq] at hT
    simp only [nextF] at hT
    conv => whnf
    rw [← hT]
    exact Recast.refl _

theorem c_ModsPrimes (n : Nat) (hn : n < 4294967296) :
    CallOK Tryd.prog 3 [.val (.int .u32 n)] [] (.val (.bool true)) [] [] := by
  have k1 := c_Next n hn
  have k2 := r6_Next n hn
  have k3 := c_Prime n hn
  have k4 := r6_Prime n hn
  have k5 := c_works
  generalize nextF (2147483648 - (n + 1)) (n + 1) = x at *
  generalize primeF n = y at *
  refine callV (Z := []) tabOK mixedOK Tryd.func3 rfl (by kernel_rfl) rfl rfl (by kernel_rfl) rfl ?_
  intro W0 w0 ρ0 hE
  conv => whnf
  (repeat ((first | refine step_w1 rfl rfl ?_ | refine g_c (by assumption) ?_ | refine g_o (op_pickT rfl (ev_ok rfl) (ev_ok rfl)) ?_ | rw [beq_self_eq_true]); conv => whnf)); exact Recast.refl _

theorem law_ModsPrimes (n : Int) (w0 : (Lit.int .u32 n).wf = true) :
    CallOK Tryd.prog 3 [iel .u32 n] [] (.val (.bool true)) [] [] := by
  have h := wf_u32 w0
  obtain ⟨n, rfl⟩ := Int.eq_ofNat_of_zero_le h.1
  exact c_ModsPrimes n (by omega)
end Go.Proofs.YtdcaodkjofkmgaaDoor

namespace Go.Proofs.YtdcaodkjofkmgaaDoor.modsPrimes
open Go.ChangeShapes Go.WideShapes Go.ChangeAt Go.RowKit Go.Sx
set_option maxRecDepth 100000
set_option linter.unusedSimpArgs false

theorem own : ownKnob Tryd.prog.godebug = none := by kernel_rfl
theorem laidOut : laidOutB Tryd.prog = true := by kernel_rfl
theorem params : Tryd.f3.params.toList.all (fun t => Tryd.prog.readableRec t && decide (t < Tryd.prog.types.size)) = true := by kernel_rfl
theorem gTab0 : Tryd.prog.globalNamed "math/bits.deBruijn32tab" = some 0 := by kernel_rfl
theorem gTabType0 : (Tryd.prog.globals[0]?).map (·.type) = some 48 := by kernel_rfl
theorem cellsA0 : Tryd.prog.cellsOf 48 = 32 := by kernel_rfl
theorem cellsE0 : Tryd.prog.cellsOf 5 = 1 := by kernel_rfl
/-- What the row's list gives: the tables' cells hold their numbers. -/
theorem table {W : World} (h : laidMetH Tryd.prog Rows.modsPrimesRow.laid W) : TabsW W := by
  intro g kd l hm
  have h0 : laidMet Tryd.prog Rows.modsPrimesRow.laid W := h
  have ht0 : Lib.TabIs Tryd.prog W "math/bits.deBruijn32tab" .u8 [0, 1, 28, 2, 29, 14, 24, 3, 30, 22, 20, 15, 25, 17, 4, 8, 31, 27, 13, 23, 21, 19, 16, 7, 26, 12, 18, 6, 11, 5, 10, 9] := Lib.tabIs_of_head gTab0 gTabType0 Tryd.underlying48 Tryd.underlying5 cellsE0 cellsA0 h0
  simp only [globTabs, List.mem_cons, List.not_mem_nil, or_false, Prod.mk.injEq] at hm
  rcases hm with ⟨rfl, rfl, rfl⟩
  · refine ⟨by simp, fun j x hx => by rw [ht0.cell gTab0 j (List.getElem?_eq_some_iff.1 hx).1, List.getD_eq_getElem?_getD, hx]; rfl, ?_⟩
    exact tab_heap gTab0 ht0

/-- The contract, over values. -/
theorem called (a0 : Int) (w0 : (Lit.int .u32 a0).wf = true) : CallOK Tryd.prog 3 [(iel .u32) a0] [] (.val (.bool true)) [] [] := law_ModsPrimes a0 w0

theorem contract (H : Type) (enc : TypeId × Value → H) (W : World) (base : Nat) (args : Array Value) (ds gs : List (DataW H)) (before : List MemPlace)
    (hval : ∀ (j : Nat) t v, Tryd.f3.params[j]? = some t → args[j]? = some v → Value.okWide Tryd.prog W .any base t v)
    (hW : DataW.Whole enc Tryd.prog Tryd.f3.params.toList Rows.modsPrimesSpec.vars false W args.toList ds gs before) (hL : laidMetH Tryd.prog Rows.modsPrimesRow.laid W) :
    Calls Tryd.prog 3 args W fun e W' => ∃ v, e = .returned v ∧ Rows.modsPrimesSpec.post enc Tryd.prog Tryd.f3 false true false false W args v W' := by
  have hW' := hW
  obtain ⟨p, q, hA0, hV, rfl, hfz, hnd⟩ := hW
  have hA : DataW.TrodAll enc Tryd.prog W 0 (fun _ => true) true Tryd.f3.params.toList args.toList ds p := hA0
  rw [Tryd.params3] at hA hval
  obtain ⟨v0, vs0, d0, ds0, p0, q0, hargs, rfl, rfl, h0, r0⟩ := trodAll_cons hA
  obtain ⟨rfl, rfl, rfl⟩ := trodAll_nil r0
  obtain rfl : args = #[v0] := by cases args; simp_all
  obtain ⟨rfl, rfl⟩ := trodVars_none hV
  have hg := table hL
  obtain ⟨n0, t0⟩ := h0
  obtain ⟨a0, w0, c0⟩ := (show Opens enc Tryd.prog hg 22 (iel .u32) (fun a => (Lit.int .u32 a).wf = true) from Opens.int Tryd.underlying22) _ _ _ t0
  have e0 : mkV ((iel .u32) a0) v0.cells.toList = v0 := by obtain ⟨_, rfl⟩ := okWide_int Tryd.underlying22 (hval 0 22 v0 rfl rfl); exact mkV_one rfl (by simp [Value.cells])
  have hz : HasZ (allRho hg) [(iel .u32) a0] [v0.cells.toList] := by simp only [HasZ]; exact ⟨_, _, rfl, c0, rfl⟩
  have hr := law_runA ⟨Tryd.f3, Tryd.func3, rfl, by kernel_rfl⟩ (called a0 w0) hg hz
  simp only [List.zipWith_cons_cons, List.zipWith_nil_left, List.zipWith_nil_right, e0] at hr
  refine hr.mono fun e W' ⟨he, hb⟩ => ?_
  subst he
  exact ⟨_, rfl, law_post laidOut params rfl rfl Tryd.underlying4 hW' ⟨rfl, rfl, rfl⟩ hb⟩

/-- A world for the witness: the settled one, the tables holding what their texts lay. -/
noncomputable def laidWorld (os : Os) : World :=
  { World.holding Tryd.prog os ⟨#[], #[], []⟩ with heap := ((World.holding Tryd.prog os ⟨#[], #[], []⟩).heap |>.modify 0 (fun | .cells _ t frozen => .cells #[.int .u8 0, .int .u8 1, .int .u8 28, .int .u8 2, .int .u8 29, .int .u8 14, .int .u8 24, .int .u8 3, .int .u8 30, .int .u8 22, .int .u8 20, .int .u8 15, .int .u8 25, .int .u8 17, .int .u8 4, .int .u8 8, .int .u8 31, .int .u8 27, .int .u8 13, .int .u8 23, .int .u8 21, .int .u8 19, .int .u8 16, .int .u8 7, .int .u8 26, .int .u8 12, .int .u8 18, .int .u8 6, .int .u8 11, .int .u8 5, .int .u8 10, .int .u8 9] t frozen | o => o)) }
theorem laid_met (os : Os) : laidMet Tryd.prog Rows.modsPrimesRow.laid ((laidWorld os).forCall (fun _ _ => 0) ⟨#[], #[.int .u32 0], []⟩).memory :=
  laidMet_of_run' 8 (by kernel_rfl) (by kernel_rfl)
theorem reads (os : Os) {H : Type} (enc : TypeId × Value → H) : ∃ places, DataW.whole enc Tryd.prog ((laidWorld os).forCall (fun _ _ => 0) ⟨#[], #[.int .u32 0], []⟩).memory Tryd.f3.params.toList Rows.modsPrimesSpec.vars false #[.int .u32 0].toList 8 = some ([.lit (.int .u32 0)], [], places) :=
  ⟨[], by kernel_rfl⟩

theorem lifted (os : Os) (started : os.Started) (H : Type) (enc : TypeId × Value → H) (F : Stop.Interp) :
    ReturnsInHanded {} Tryd.checked os 3 .any ((OpenSpec.ofChange Rows.modsPrimesSpec).preRow enc Tryd.prog Tryd.f3 Rows.modsPrimesRow.domain false Rows.modsPrimesRow.laid) (((OpenSpec.ofChange Rows.modsPrimesSpec).at F).post enc Tryd.prog Tryd.f3 false true false false) := by
  obtain ⟨places, hx⟩ := reads os enc
  refine returnsInHanded_of_row (C := Tryd.checked) (s := OpenSpec.ofChange Rows.modsPrimesSpec) own started (by kernel_rfl) Tryd.func3
    (witness_row_at (enc := enc) (C := Tryd.checked) false (laidWorld os) #[.int .u32 0] rfl (by kernel_rfl) (by kernel_rfl) (by kernel_rfl)
      (OpenSpec.preRow_of_cond 8 hx (by kernel_rfl) (fun k hk => by cases hk) (by kernel_rfl) (laid_met os))) ?_
  intro W base args ds gs before hval hW _ _ _ hL _ _
  exact contract H enc W base args ds gs before hval hW hL

theorem said : Rows.ModsPrimesSaid :=
  OpenClaim.holds_of_cond 3 Tryd.f3 rfl rfl rfl rfl rfl rfl rfl ⟨rfl, rfl, rfl, rfl, rfl⟩ rfl rfl rfl rfl rfl (by kernel_rfl) Tryd.func3 (by kernel_rfl)
    (of_decide_eq_true (by kernel_rfl)) (by unfold Func.isWrapper; first | (rw [if_pos (by decide +kernel)]; kernel_rfl) | (rw [if_neg (by decide +kernel)]; exact ⟨rfl, rfl⟩))
    (fun os started H enc _ F => by rw [OpenClaim.pre_eq_preRow]; exact lifted os started H enc F)

/-- No parameter wants a stand-in; the program's own looks are off. -/
theorem plain (f : FuncId) (fn : Func) (hf : Tryd.pinned.checked.prog.funcNamed "gusset/gussetlaw06.ModsPrimes" = some f) (hfn : Tryd.pinned.checked.prog.funcs[f]? = some fn) :
    false = Tryd.pinned.checked.prog.looks [] ∧ ∀ (j : Nat) t, fn.params[j]? = some t → Tryd.pinned.checked.prog.wantsStandIn t = false := by
  obtain rfl : f = 3 := Option.some.inj ((show Tryd.prog.funcNamed "gusset/gussetlaw06.ModsPrimes" = some 3 by kernel_rfl).symm.trans hf) |>.symm
  obtain rfl : fn = Tryd.f3 := (Option.some.inj (Tryd.func3.symm.trans hfn)).symm
  refine ⟨by kernel_rfl, fun j t ht => ?_⟩
  have hall : (Tryd.f3.params.toList.all fun t => !Tryd.prog.wantsStandIn t) = true := by kernel_rfl
  have := List.all_eq_true.1 hall t (by simpa using Array.mem_of_getElem? ht)
  exact (show Tryd.prog.wantsStandIn t = false by simpa using this)

/-- The card. -/
theorem card : Rows.ModsPrimesCardSaid :=
  Claim7.holds_tied_plain_at .later [] _ _ _ _ said (fun _ h => by cases h) (by kernel_rfl) (fun _ h => by cases h) modsPrimes_row_tie rfl ⟨rfl, rfl⟩ (by kernel_rfl) rfl plain (by kernel_rfl)
#print axioms card
end Go.Proofs.YtdcaodkjofkmgaaDoor.modsPrimes
