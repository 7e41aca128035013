/- Plain number theory: Fermat's little theorem. -/
import Derived.KernelRfl
namespace Go.Sx

structure PrimeN (p : Nat) : Prop where
  two : 2 ≤ p
  div : ∀ d, d ∣ p → d = 1 ∨ d = p

theorem PrimeN.coprime {p a : Nat} (h : PrimeN p) (ha : ¬ p ∣ a) : Nat.Coprime p a := by
  rcases h.div _ (Nat.gcd_dvd_left p a) with h1 | h1
  · exact h1
  · exact absurd (h1 ▸ Nat.gcd_dvd_right p a) ha

theorem PrimeN.dvd_mul {p a b : Nat} (h : PrimeN p) (hd : p ∣ a * b) : p ∣ a ∨ p ∣ b := by
  by_cases ha : p ∣ a
  · exact .inl ha
  · exact .inr ((h.coprime ha).dvd_of_dvd_mul_left hd)

def choose : Nat → Nat → Nat
  | _, 0 => 1
  | 0, _ + 1 => 0
  | n + 1, k + 1 => choose n k + choose n (k + 1)

theorem choose_zero (n : Nat) : choose n 0 = 1 := by cases n <;> rfl
theorem choose_gt : ∀ (n k : Nat), n < k → choose n k = 0
  | _, 0, h => by omega
  | 0, _ + 1, _ => rfl
  | n + 1, k + 1, h => by rw [choose, choose_gt n k (by omega), choose_gt n (k + 1) (by omega)]
theorem choose_self : ∀ n, choose n n = 1
  | 0 => rfl
  | n + 1 => by rw [choose, choose_self n, choose_gt n (n + 1) (by omega)]

theorem choose_succ : ∀ (n k : Nat), (n + 1) * choose n k = choose (n + 1) (k + 1) * (k + 1)
  | 0, 0 => rfl
  | 0, k + 1 => by simp [choose]
  | n + 1, 0 => by
    have := choose_succ n 0
    simp only [choose, choose_zero] at this ⊢
    omega
  | n + 1, k + 1 => by
    have h1 := choose_succ n k
    have h2 := choose_succ n (k + 1)
    have e1 : (n + 1) * choose (n + 1) (k + 1) = (n + 1) * choose n k + (n + 1) * choose n (k + 1) := by
      rw [← Nat.mul_add]; rfl
    have r : (choose (n + 1) (k + 1) + choose (n + 1) (k + 1 + 1)) * (k + 1 + 1) = choose (n + 1) (k + 1) * (k + 1) + choose (n + 1) (k + 1) + choose (n + 1) (k + 1 + 1) * (k + 1 + 1) := by rw [Nat.add_mul, Nat.mul_succ]
    show (n + 1 + 1) * choose (n + 1) (k + 1) = (choose (n + 1) (k + 1) + choose (n + 1) (k + 1 + 1)) * (k + 1 + 1)
    rw [r, ← h1, ← h2, Nat.succ_mul, e1]
    omega

theorem PrimeN.choose {p k : Nat} (h : PrimeN p) (h0 : 0 < k) (hk : k < p) : p ∣ choose p k := by
  obtain ⟨k, rfl⟩ : ∃ j, k = j + 1 := ⟨k - 1, by omega⟩
  obtain ⟨q, rfl⟩ : ∃ j, p = j + 1 := ⟨p - 1, by omega⟩
  have := choose_succ q k
  rcases h.dvd_mul (show q + 1 ∣ Sx.choose (q + 1) (k + 1) * (k + 1) from ⟨_, this.symm⟩) with h1 | h1
  · exact h1
  · exact absurd (Nat.le_of_dvd (by omega) h1) (by omega)

def bsum (n a : Nat) : Nat → Nat
  | 0 => 0
  | m + 1 => bsum n a m + choose n m * a ^ m

theorem bsum_succ (n a : Nat) : ∀ m, bsum (n + 1) a (m + 1) = a * bsum n a m + bsum n a (m + 1)
  | 0 => by simp [bsum, choose_zero]
  | m + 1 => by
    have ih := bsum_succ n a m
    have e : bsum (n + 1) a (m + 2) = bsum (n + 1) a (m + 1) + choose (n + 1) (m + 1) * a ^ (m + 1) := rfl
    have e1 : bsum n a (m + 2) = bsum n a (m + 1) + choose n (m + 1) * a ^ (m + 1) := rfl
    have e2 : bsum n a (m + 1) = bsum n a m + choose n m * a ^ m := rfl
    rw [e, ih, e1, show choose (n + 1) (m + 1) = choose n m + choose n (m + 1) from rfl, Nat.add_mul, Nat.pow_succ]
    have e3 : a * bsum n a (m + 1) = a * bsum n a m + choose n m * (a ^ m * a) := by
      rw [e2, Nat.mul_add, Nat.mul_left_comm, Nat.mul_comm a (a ^ m)]
    omega

theorem binom (a : Nat) : ∀ n, (a + 1) ^ n = bsum n a (n + 1)
  | 0 => by simp [bsum, choose]
  | n + 1 => by
    rw [Nat.pow_succ, binom a n, bsum_succ n a (n + 1)]
    have : bsum n a (n + 2) = bsum n a (n + 1) := by
      show bsum n a (n + 1) + choose n (n + 1) * a ^ (n + 1) = _
      rw [choose_gt n (n + 1) (by omega)]; omega
    rw [show n + 1 + 1 = n + 2 from rfl, this, Nat.mul_add, Nat.mul_one, Nat.mul_comm]

theorem bsum_mod {p a : Nat} (h : PrimeN p) : ∀ m, m + 1 ≤ p → bsum p a (m + 1) % p = 1 % p
  | 0, _ => by simp [bsum, choose_zero]
  | m + 1, hm => by
    have ih := bsum_mod (a := a) h m (by omega)
    show (bsum p a (m + 1) + Sx.choose p (m + 1) * a ^ (m + 1)) % p = _
    rw [Nat.add_mod, ih, Nat.mul_mod, Nat.mod_eq_zero_of_dvd (h.choose (by omega) hm), Nat.zero_mul, Nat.zero_mod, Nat.add_zero, Nat.mod_mod]

theorem fermat' {p : Nat} (h : PrimeN p) : ∀ a, a ^ p % p = a % p
  | 0 => by rw [Nat.zero_pow (by have := h.two; omega)]
  | a + 1 => by
    have ih := fermat' h a
    have h2 := h.two
    obtain ⟨q, rfl⟩ : ∃ j, p = j + 1 := ⟨p - 1, by omega⟩
    rw [binom]
    show (bsum (q + 1) a (q + 1) + Sx.choose (q + 1) (q + 1) * a ^ (q + 1)) % (q + 1) = _
    rw [choose_self, Nat.one_mul, Nat.add_mod, bsum_mod h q (by omega), ih, ← Nat.add_mod, Nat.add_comm]

/-- FERMAT. -/
theorem fermat {p a : Nat} (h : PrimeN p) (ha : ¬ p ∣ a) : a ^ (p - 1) % p = 1 := by
  have h2 := h.two
  obtain ⟨q, rfl⟩ : ∃ j, p = j + 1 := ⟨p - 1, by omega⟩
  have h1 := fermat' h a
  show a ^ q % (q + 1) = 1
  have hpos : 1 ≤ a ^ q := Nat.pow_pos (Nat.pos_of_ne_zero fun h0 => ha (by subst h0; exact Nat.dvd_zero _))
  have hle : a ≤ a ^ (q + 1) := by rw [Nat.pow_succ]; exact Nat.le_mul_of_pos_left _ hpos
  have hd : q + 1 ∣ a * (a ^ q - 1) := by
    rw [Nat.mul_sub, Nat.mul_one, Nat.mul_comm, ← Nat.pow_succ]
    exact Nat.dvd_of_mod_eq_zero (Nat.sub_mod_eq_zero_of_mod_eq h1)
  have := (h.coprime ha).dvd_of_dvd_mul_left hd
  obtain ⟨c, hc⟩ := this
  rw [show a ^ q = 1 + (q + 1) * c from by omega, Nat.add_mul_mod_self_left, Nat.mod_eq_of_lt (by omega)]

/-- Trial division. -/
def noDiv (n : Nat) : Nat → Nat → Bool
  | 0, _ => true
  | f + 1, d => !(n % d == 0) && noDiv n f (d + 1)

theorem noDiv_spec {n : Nat} : ∀ {f d : Nat}, noDiv n f d = true → ∀ e, d ≤ e → e < d + f → ¬ e ∣ n
  | 0, _, _, e, h1, h2, _ => by omega
  | f + 1, d, h, e, h1, h2, hd => by
    simp only [noDiv, Bool.and_eq_true, Bool.not_eq_true', beq_eq_false_iff_ne] at h
    rcases Nat.eq_or_lt_of_le h1 with rfl | h3
    · exact h.1 (Nat.mod_eq_zero_of_dvd hd)
    · exact noDiv_spec h.2 e h3 (by omega) hd

theorem prime_of {p r : Nat} (h2 : 2 ≤ p) (hr : p < r * r) (h : ∀ e, 2 ≤ e → e < r → ¬ e ∣ p) : PrimeN p := by
  refine ⟨h2, fun d hd => ?_⟩
  refine Classical.byContradiction fun hn => ?_
  have hn := not_or.1 hn
  obtain ⟨c, rfl⟩ := hd
  have hc0 : c ≠ 0 := fun h0 => by subst h0; omega
  have hd0 : d ≠ 0 := fun h0 => by subst h0; omega
  have hc1 : c ≠ 1 := fun h1 => hn.2 (by subst h1; omega)
  by_cases hdr : d < r
  · exact h d (by omega) hdr ⟨c, rfl⟩
  · by_cases hcr : c < r
    · exact h c (by omega) hcr ⟨d, by rw [Nat.mul_comm]⟩
    · have := Nat.mul_le_mul (show r ≤ d by omega) (show r ≤ c by omega)
      omega

/-- No divisor in [2, 2 + k*b): in blocks. -/
def noDivB (n b : Nat) : Nat → Nat → Bool
  | 0, _ => true
  | k + 1, d => noDiv n b d && noDivB n b k (d + b)

theorem noDivB_spec {n b : Nat} : ∀ {k d : Nat}, noDivB n b k d = true → ∀ e, d ≤ e → e < d + k * b → ¬ e ∣ n
  | 0, _, _, e, h1, h2, _ => by omega
  | k + 1, d, h, e, h1, h2, hd => by
    simp only [noDivB, Bool.and_eq_true] at h
    rw [Nat.succ_mul] at h2
    by_cases h3 : e < d + b
    · exact noDiv_spec h.1 e h1 h3 hd
    · exact noDivB_spec h.2 e (by omega) (by omega) hd
end Go.Sx
