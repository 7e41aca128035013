/- The number of binary digits; how operations on numbers move it. -/
import Derived.KernelRfl
import Derived.Test.YtghdcjhlhcoijaaDoorSxP
namespace Go.Sx

/-- The number of binary digits. -/
def sz (n : Nat) : Nat := if n = 0 then 0 else Nat.log2 n + 1

theorem sz_le {n k : Nat} : sz n ≤ k ↔ n < 2 ^ k := by
  unfold sz
  split
  · rename_i h; subst h; simp [Nat.two_pow_pos]
  · rename_i h
    rw [← Nat.log2_lt h]
    omega

theorem lt_sz (n : Nat) : n < 2 ^ sz n := sz_le.1 (Nat.le_refl _)
theorem sz_mono {a b : Nat} (h : a ≤ b) : sz a ≤ sz b := sz_le.2 (Nat.lt_of_le_of_lt h (lt_sz b))
theorem sz_add {a b k : Nat} (ha : sz a ≤ k) (hb : sz b ≤ k) : sz (a + b) ≤ k + 1 := by
  rw [sz_le] at *
  rw [Nat.pow_succ]
  omega
theorem sz_mul (a b : Nat) : sz (a * b) ≤ sz a + sz b := by
  rw [sz_le, Nat.pow_add]
  rcases Nat.eq_zero_or_pos a with h | h
  · subst h; rw [Nat.zero_mul]; exact Nat.mul_pos (Nat.two_pow_pos _) (Nat.two_pow_pos _)
  · exact Nat.mul_lt_mul_of_lt_of_le (lt_sz a) (Nat.le_of_lt (lt_sz b)) (by have := lt_sz b; omega)
theorem sz_div (a b : Nat) : sz (a / b) ≤ sz a := sz_mono (Nat.div_le_self a b)
theorem sz_mod (a b : Nat) : sz (a % b) ≤ sz a := sz_mono (Nat.mod_le a b)
theorem sz_mod' {a b : Nat} (h : b ≠ 0) : sz (a % b) ≤ sz b := sz_mono (Nat.le_of_lt (Nat.mod_lt a (Nat.pos_of_ne_zero h)))
theorem sz_sub (a b : Nat) : sz (a - b) ≤ sz a := sz_mono (Nat.sub_le a b)
theorem sz_pos {n : Nat} (h : n ≠ 0) : 1 ≤ sz n := by unfold sz; rw [if_neg h]; omega
theorem sz_zero : sz 0 = 0 := rfl
theorem sz_one : sz 1 = 1 := by kernel_rfl
theorem sz_gcd_l {a b : Nat} (h : a ≠ 0) : sz (Nat.gcd a b) ≤ sz a := sz_mono (Nat.le_of_dvd (Nat.pos_of_ne_zero h) (Nat.gcd_dvd_left a b))
theorem sz_gcd_r {a b : Nat} (h : b ≠ 0) : sz (Nat.gcd a b) ≤ sz b := sz_mono (Nat.le_of_dvd (Nat.pos_of_ne_zero h) (Nat.gcd_dvd_right a b))

theorem step_t {t : Bool} {A B : Prop} (ht : t = true) (h : A) : (t = true → A) ∧ (t = false → B) := ⟨fun _ => h, fun hf => by rw [ht] at hf; cases hf⟩
theorem step_f {t : Bool} {A B : Prop} (ht : t = false) (h : B) : (t = true → A) ∧ (t = false → B) := ⟨(fun hf => by rw [ht] at hf; cases hf), fun _ => h⟩
theorem step_w1 {b w w' : Bool} {A B : Prop} (h : b = w) (hn : (w == w') = false) (a : A) : (b = w → A) ∧ (b = w' → B) := ⟨fun _ => a, fun h' => absurd (h.symm.trans h') (by simpa using hn)⟩
theorem step_w2 {b w w' : Bool} {A B : Prop} (h : b = w') (hn : (w == w') = false) (a : B) : (b = w → A) ∧ (b = w' → B) := ⟨fun h' => absurd (h'.symm.trans h) (by simpa using hn), fun _ => a⟩
theorem step_i {ops : List Oper} {fs : List Foot} {A : Prop} (ht : indep ops fs = true) (h : A) : (indep ops fs = true) ∧ A := And.intro ht h
section
variable {P : Program} {o : Oper} {ft : List (Nat × SV)} {fk : List (Nat × Blk)}
theorem op_pickT {x y z : Operand} {c : SV} (ho : o.op = .pick x y z) (hx : EvOK ft x (.val (.bool true))) (hy : EvOK ft y c) : OpOK P o ft fk c [] [] := op_pick ho hx (fun _ => hy) (fun hb => by cases hb) rfl (c2 := .any)
theorem op_pickF {x y z : Operand} {c : SV} (ho : o.op = .pick x y z) (hx : EvOK ft x (.val (.bool false))) (hy : EvOK ft z c) : OpOK P o ft fk c [] [] := op_pick ho hx (fun hb => by cases hb) (fun _ => hy) rfl (c1 := .any)
end
theorem CallOK.res {P : Program} {f : FuncId} {args : List SV} {fk new upd : List (Nat × Blk)} {c d : SV} (h : CallOK P f args fk c new upd) (e : c = d) : CallOK P f args fk d new upd := e ▸ h
end Go.Sx
