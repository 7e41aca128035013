/- What is asked of nats, up to a number of binary digits; ints over it. -/
import Derived.Test.YtghdcjhlhcoijaaDoorCg
import Derived.Test.YtghdcjhlhcoijaaDoorSxR
namespace Go.Proofs.YtghdcjhlhcoijaaDoor
open Go.Sx
set_option maxRecDepth 100000
set_option maxHeartbeats 2000000

/-- The contracts of nats, for numbers of at most M binary digits. -/
structure NatOK (M : Nat) : Prop where
  big : 64 ≤ M
  cmp : ∀ a b, sz a ≤ M → sz b ≤ M → CallOK Tryd.prog 86 [.nat a, .nat b] [] (.val (.int .i64 ((a : Int) - b).sign)) [] []
  add : ∀ a b, sz (a + b) ≤ M → CallOK Tryd.prog 51 [.nat a, .nat b] [] (.nat (a + b)) [] []
  sub : ∀ a b, sz a ≤ M → b ≤ a → CallOK Tryd.prog 72 [.nat a, .nat b] [] (.tup [.nat (a - b), .val (.bool true)]) [] []
  subF : ∀ a b, sz b ≤ M → a < b → CallOK Tryd.prog 72 [.nat a, .nat b] [] (.tup [.nat 0, .val (.bool false)]) [] []
  mul : ∀ a b, sz a + sz b ≤ M → CallOK Tryd.prog 60 [.nat a, .nat b] [] (.nat (a * b)) [] []
  div : ∀ a b, sz a ≤ M → sz b ≤ M → b ≠ 0 → CallOK Tryd.prog 69 [.nat a, .nat b] [] (.tup [.nat (a / b), .nat (a % b), .val (.bool true)]) [] []
  divZ : ∀ a, CallOK Tryd.prog 69 [.nat a, .nat 0] [] (.tup [.nat 0, .nat 0, .val (.bool false)]) [] []
  gcd : ∀ a b, sz a ≤ M → sz b ≤ M → CallOK Tryd.prog 77 [.nat a, .nat b] [] (.nat (Nat.gcd a b)) [] []

variable {M : Nat}

theorem signed_abs (s : Bool) (n : Nat) : (signed s n).natAbs = n := by cases s <;> simp [signed]

theorem c_plus (ok : NatOK M) (a b : Int) (ha : sz a.natAbs < M) (hb : sz b.natAbs < M) :
    CallOK Tryd.prog 48 [.int a, .int b] [] (.int (a + b)) [] [] := by
  have hs : sz (a.natAbs + b.natAbs) ≤ M := by
    have := sz_add (k := M - 1) (show sz a.natAbs ≤ M - 1 by omega) (show sz b.natAbs ≤ M - 1 by omega)
    omega
  refine callV tabOK mixedOK Tryd.func48 rfl (by kernel_rfl) rfl rfl (by kernel_rfl) rfl ?_
  intro W0 w0 ρ0 hE
  conv => whnf
  refine ⟨fun h1 => ?_, fun h1 => ?_⟩
  · have h1 : decide (a < 0) = decide (b < 0) := by simpa using h1
    conv => whnf
    refine ⟨[], _, [], [], (ok.add _ _ hs), nil_fk, nil_new, nil_upd, ?_⟩; conv => whnf
    have e : signed (decide (a < 0)) (a.natAbs + b.natAbs) = a + b := by
      have := decide_eq_decide.1 h1
      unfold signed
      by_cases h : a < 0 <;> simp [h] <;> omega
    have := c_From (decide (a < 0)) (a.natAbs + b.natAbs)
    rw [e] at this
    refine ⟨[], _, [], [], (this), nil_fk, nil_new, nil_upd, ?_⟩; conv => whnf
    (repeat (first | (refine step_w1 rfl rfl ?_; conv => whnf) | (refine step_w2 rfl rfl ?_; conv => whnf) | (refine step_i (by kernel_rfl) ?_; conv => whnf) | (refine And.intro (by first | decide | omega) ?_; conv => whnf) | (refine ⟨[], _, [], [], (by assumption), nil_fk, nil_new, nil_upd, ?_⟩; conv => whnf) | (refine ⟨_, [], [], [], op_pickT rfl (ev_ok rfl) (ev_ok rfl), nil_fk, nil_new, nil_upd, ?_⟩; conv => whnf) | (refine ⟨_, [], [], [], op_pickF rfl (ev_ok rfl) (ev_ok rfl), nil_fk, nil_new, nil_upd, ?_⟩; conv => whnf) | (rw [beq_self_eq_true]; conv => whnf) | (rw [bne_self_eq_false]; conv => whnf))); exact Recast.refl _
  · have h1 : ¬ (a < 0 ↔ b < 0) := by
      intro h2
      simp [h2] at h1
    conv => whnf
    by_cases hab : b.natAbs ≤ a.natAbs
    · refine ⟨[], _, [], [], (ok.sub a.natAbs b.natAbs (by omega) hab), nil_fk, nil_new, nil_upd, ?_⟩; conv => whnf
      (repeat (first | (refine step_w1 rfl rfl ?_; conv => whnf) | (refine step_w2 rfl rfl ?_; conv => whnf) | (refine step_i (by kernel_rfl) ?_; conv => whnf) | (refine And.intro (by first | decide | omega) ?_; conv => whnf) | (refine ⟨[], _, [], [], (by assumption), nil_fk, nil_new, nil_upd, ?_⟩; conv => whnf) | (refine ⟨_, [], [], [], op_pickT rfl (ev_ok rfl) (ev_ok rfl), nil_fk, nil_new, nil_upd, ?_⟩; conv => whnf) | (refine ⟨_, [], [], [], op_pickF rfl (ev_ok rfl) (ev_ok rfl), nil_fk, nil_new, nil_upd, ?_⟩; conv => whnf) | (rw [beq_self_eq_true]; conv => whnf) | (rw [bne_self_eq_false]; conv => whnf)))
      have e : signed (decide (a < 0)) (a.natAbs - b.natAbs) = a + b := by
        unfold signed
        by_cases h : a < 0 <;> simp [h] <;> omega
      have := c_From (decide (a < 0)) (a.natAbs - b.natAbs)
      rw [e] at this
      refine ⟨[], _, [], [], (this), nil_fk, nil_new, nil_upd, ?_⟩; conv => whnf
      (repeat (first | (refine step_w1 rfl rfl ?_; conv => whnf) | (refine step_w2 rfl rfl ?_; conv => whnf) | (refine step_i (by kernel_rfl) ?_; conv => whnf) | (refine And.intro (by first | decide | omega) ?_; conv => whnf) | (refine ⟨[], _, [], [], (by assumption), nil_fk, nil_new, nil_upd, ?_⟩; conv => whnf) | (refine ⟨_, [], [], [], op_pickT rfl (ev_ok rfl) (ev_ok rfl), nil_fk, nil_new, nil_upd, ?_⟩; conv => whnf) | (refine ⟨_, [], [], [], op_pickF rfl (ev_ok rfl) (ev_ok rfl), nil_fk, nil_new, nil_upd, ?_⟩; conv => whnf) | (rw [beq_self_eq_true]; conv => whnf) | (rw [bne_self_eq_false]; conv => whnf))); exact Recast.refl _
    · refine ⟨[], _, [], [], (ok.subF a.natAbs b.natAbs (by omega) (by omega)), nil_fk, nil_new, nil_upd, ?_⟩; conv => whnf
      (repeat (first | (refine step_w1 rfl rfl ?_; conv => whnf) | (refine step_w2 rfl rfl ?_; conv => whnf) | (refine step_i (by kernel_rfl) ?_; conv => whnf) | (refine And.intro (by first | decide | omega) ?_; conv => whnf) | (refine ⟨[], _, [], [], (by assumption), nil_fk, nil_new, nil_upd, ?_⟩; conv => whnf) | (refine ⟨_, [], [], [], op_pickT rfl (ev_ok rfl) (ev_ok rfl), nil_fk, nil_new, nil_upd, ?_⟩; conv => whnf) | (refine ⟨_, [], [], [], op_pickF rfl (ev_ok rfl) (ev_ok rfl), nil_fk, nil_new, nil_upd, ?_⟩; conv => whnf) | (rw [beq_self_eq_true]; conv => whnf) | (rw [bne_self_eq_false]; conv => whnf)))
      refine ⟨[], _, [], [], (ok.sub b.natAbs a.natAbs (by omega) (by omega)), nil_fk, nil_new, nil_upd, ?_⟩; conv => whnf
      have e : signed (decide (b < 0)) (b.natAbs - a.natAbs) = a + b := by
        unfold signed
        by_cases h : b < 0 <;> simp [h] <;> omega
      have := c_From (decide (b < 0)) (b.natAbs - a.natAbs)
      rw [e] at this
      refine ⟨[], _, [], [], (this), nil_fk, nil_new, nil_upd, ?_⟩; conv => whnf
      (repeat (first | (refine step_w1 rfl rfl ?_; conv => whnf) | (refine step_w2 rfl rfl ?_; conv => whnf) | (refine step_i (by kernel_rfl) ?_; conv => whnf) | (refine And.intro (by first | decide | omega) ?_; conv => whnf) | (refine ⟨[], _, [], [], (by assumption), nil_fk, nil_new, nil_upd, ?_⟩; conv => whnf) | (refine ⟨_, [], [], [], op_pickT rfl (ev_ok rfl) (ev_ok rfl), nil_fk, nil_new, nil_upd, ?_⟩; conv => whnf) | (refine ⟨_, [], [], [], op_pickF rfl (ev_ok rfl) (ev_ok rfl), nil_fk, nil_new, nil_upd, ?_⟩; conv => whnf) | (rw [beq_self_eq_true]; conv => whnf) | (rw [bne_self_eq_false]; conv => whnf))); exact Recast.refl _

theorem c_told (f : FuncId) (a b c : Int) (hc : CallOK Tryd.prog f [.int a, .int b] [] (.int c) [] []) :
    CallOK Tryd.prog 47 [.clo f [] [], .int a, .int b] [] (.int c) [] [] := by
  refine callV tabOK mixedOK Tryd.func47 rfl (by kernel_rfl) rfl rfl (by kernel_rfl) rfl ?_
  intro W0 w0 ρ0 hE
  conv => whnf
  refine ⟨[], _, [], [], (hc), nil_fk, nil_new, nil_upd, ?_⟩; conv => whnf
  (repeat (first | (refine step_w1 rfl rfl ?_; conv => whnf) | (refine step_w2 rfl rfl ?_; conv => whnf) | (refine step_i (by kernel_rfl) ?_; conv => whnf) | (refine And.intro (by first | decide | omega) ?_; conv => whnf) | (refine ⟨[], _, [], [], (by assumption), nil_fk, nil_new, nil_upd, ?_⟩; conv => whnf) | (refine ⟨_, [], [], [], op_pickT rfl (ev_ok rfl) (ev_ok rfl), nil_fk, nil_new, nil_upd, ?_⟩; conv => whnf) | (refine ⟨_, [], [], [], op_pickF rfl (ev_ok rfl) (ev_ok rfl), nil_fk, nil_new, nil_upd, ?_⟩; conv => whnf) | (rw [beq_self_eq_true]; conv => whnf) | (rw [bne_self_eq_false]; conv => whnf))); exact Recast.refl _

theorem c_iAdd (ok : NatOK M) (a b : Int) (ha : sz a.natAbs < M) (hb : sz b.natAbs < M) :
    CallOK Tryd.prog 25 [.int a, .int b] [] (.int (a + b)) [] [] := by
  refine callV tabOK mixedOK Tryd.func25 rfl (by kernel_rfl) rfl rfl (by kernel_rfl) rfl ?_
  intro W0 w0 ρ0 hE
  conv => whnf
  refine ⟨[], _, [], [], (c_told _ a b _ (c_plus ok a b ha hb)), nil_fk, nil_new, nil_upd, ?_⟩; conv => whnf
  (repeat (first | (refine step_w1 rfl rfl ?_; conv => whnf) | (refine step_w2 rfl rfl ?_; conv => whnf) | (refine step_i (by kernel_rfl) ?_; conv => whnf) | (refine And.intro (by first | decide | omega) ?_; conv => whnf) | (refine ⟨[], _, [], [], (by assumption), nil_fk, nil_new, nil_upd, ?_⟩; conv => whnf) | (refine ⟨_, [], [], [], op_pickT rfl (ev_ok rfl) (ev_ok rfl), nil_fk, nil_new, nil_upd, ?_⟩; conv => whnf) | (refine ⟨_, [], [], [], op_pickF rfl (ev_ok rfl) (ev_ok rfl), nil_fk, nil_new, nil_upd, ?_⟩; conv => whnf) | (rw [beq_self_eq_true]; conv => whnf) | (rw [bne_self_eq_false]; conv => whnf))); exact Recast.refl _

theorem c_iSub (ok : NatOK M) (a b : Int) (ha : sz a.natAbs < M) (hb : sz b.natAbs < M) :
    CallOK Tryd.prog 70 [.int a, .int b] [] (.int (a - b)) [] [] := by
  rw [Int.sub_eq_add_neg]
  refine callV tabOK mixedOK Tryd.func70 rfl (by kernel_rfl) rfl rfl (by kernel_rfl) rfl ?_
  intro W0 w0 ρ0 hE
  conv => whnf
  refine ⟨[], _, [], [], (c_Neg b), nil_fk, nil_new, nil_upd, ?_⟩; conv => whnf
  refine ⟨[], _, [], [], (c_told _ a (-b) _ (c_plus ok a (-b) ha (by rwa [Int.natAbs_neg]))), nil_fk, nil_new, nil_upd, ?_⟩; conv => whnf
  (repeat (first | (refine step_w1 rfl rfl ?_; conv => whnf) | (refine step_w2 rfl rfl ?_; conv => whnf) | (refine step_i (by kernel_rfl) ?_; conv => whnf) | (refine And.intro (by first | decide | omega) ?_; conv => whnf) | (refine ⟨[], _, [], [], (by assumption), nil_fk, nil_new, nil_upd, ?_⟩; conv => whnf) | (refine ⟨_, [], [], [], op_pickT rfl (ev_ok rfl) (ev_ok rfl), nil_fk, nil_new, nil_upd, ?_⟩; conv => whnf) | (refine ⟨_, [], [], [], op_pickF rfl (ev_ok rfl) (ev_ok rfl), nil_fk, nil_new, nil_upd, ?_⟩; conv => whnf) | (rw [beq_self_eq_true]; conv => whnf) | (rw [bne_self_eq_false]; conv => whnf))); exact Recast.refl _

theorem signed_mul (a b : Int) : signed (decide (a < 0) != decide (b < 0)) (a.natAbs * b.natAbs) = a * b := by
  unfold signed
  rw [Int.natCast_mul]
  by_cases h1 : a < 0 <;> by_cases h2 : b < 0
  · rw [show (a.natAbs : Int) = -a from by omega, show (b.natAbs : Int) = -b from by omega]; simp [h1, h2, Int.neg_mul_neg]
  · rw [show (a.natAbs : Int) = -a from by omega, show (b.natAbs : Int) = b from by omega]; simp [h1, h2, Int.neg_mul]
  · rw [show (a.natAbs : Int) = a from by omega, show (b.natAbs : Int) = -b from by omega]; simp [h1, h2, Int.mul_neg]
  · rw [show (a.natAbs : Int) = a from by omega, show (b.natAbs : Int) = b from by omega]; simp [h1, h2]

theorem c_times (ok : NatOK M) (a b : Int) (h : sz a.natAbs + sz b.natAbs ≤ M) :
    CallOK Tryd.prog 49 [.int a, .int b] [] (.int (a * b)) [] [] := by
  refine callV tabOK mixedOK Tryd.func49 rfl (by kernel_rfl) rfl rfl (by kernel_rfl) rfl ?_
  intro W0 w0 ρ0 hE
  conv => whnf
  refine ⟨[], _, [], [], (ok.mul _ _ h), nil_fk, nil_new, nil_upd, ?_⟩; conv => whnf
  have := c_From (decide (a < 0) != decide (b < 0)) (a.natAbs * b.natAbs)
  rw [signed_mul] at this
  refine ⟨[], _, [], [], (this), nil_fk, nil_new, nil_upd, ?_⟩; conv => whnf
  (repeat (first | (refine step_w1 rfl rfl ?_; conv => whnf) | (refine step_w2 rfl rfl ?_; conv => whnf) | (refine step_i (by kernel_rfl) ?_; conv => whnf) | (refine And.intro (by first | decide | omega) ?_; conv => whnf) | (refine ⟨[], _, [], [], (by assumption), nil_fk, nil_new, nil_upd, ?_⟩; conv => whnf) | (refine ⟨_, [], [], [], op_pickT rfl (ev_ok rfl) (ev_ok rfl), nil_fk, nil_new, nil_upd, ?_⟩; conv => whnf) | (refine ⟨_, [], [], [], op_pickF rfl (ev_ok rfl) (ev_ok rfl), nil_fk, nil_new, nil_upd, ?_⟩; conv => whnf) | (rw [beq_self_eq_true]; conv => whnf) | (rw [bne_self_eq_false]; conv => whnf))); exact Recast.refl _

theorem c_iMul (ok : NatOK M) (a b : Int) (h : sz a.natAbs + sz b.natAbs ≤ M) :
    CallOK Tryd.prog 26 [.int a, .int b] [] (.int (a * b)) [] [] := by
  refine callV tabOK mixedOK Tryd.func26 rfl (by kernel_rfl) rfl rfl (by kernel_rfl) rfl ?_
  intro W0 w0 ρ0 hE
  conv => whnf
  refine ⟨[], _, [], [], (c_told _ a b _ (c_times ok a b h)), nil_fk, nil_new, nil_upd, ?_⟩; conv => whnf
  (repeat (first | (refine step_w1 rfl rfl ?_; conv => whnf) | (refine step_w2 rfl rfl ?_; conv => whnf) | (refine step_i (by kernel_rfl) ?_; conv => whnf) | (refine And.intro (by first | decide | omega) ?_; conv => whnf) | (refine ⟨[], _, [], [], (by assumption), nil_fk, nil_new, nil_upd, ?_⟩; conv => whnf) | (refine ⟨_, [], [], [], op_pickT rfl (ev_ok rfl) (ev_ok rfl), nil_fk, nil_new, nil_upd, ?_⟩; conv => whnf) | (refine ⟨_, [], [], [], op_pickF rfl (ev_ok rfl) (ev_ok rfl), nil_fk, nil_new, nil_upd, ?_⟩; conv => whnf) | (rw [beq_self_eq_true]; conv => whnf) | (rw [bne_self_eq_false]; conv => whnf))); exact Recast.refl _

theorem div_uniq {a b q r : Int} (h1 : r + b * q = a) (h2 : 0 ≤ r) (h3 : r < b.natAbs) : a / b = q ∧ a % b = r := by
  have hb : b ≠ 0 := by omega
  rcases Int.lt_or_gt_of_ne hb with h | h
  · have := (Int.ediv_emod_unique (a := a) (b := -b) (r := r) (q := -q) (by omega)).2 ⟨by rw [Int.neg_mul_neg]; exact h1, h2, by omega⟩
    rw [Int.ediv_neg, Int.emod_neg] at this
    exact ⟨by omega, this.2⟩
  · exact (Int.ediv_emod_unique (a := a) (b := b) (r := r) (q := q) h).2 ⟨h1, h2, by omega⟩

theorem divLaw (a b : Int) (Q M : Nat) (hA : (b.natAbs : Int) * (Q : Int) + (M : Int) = (a.natAbs : Int)) (hlt : M < b.natAbs) :
    (signed (decide (a < 0)) M < 0 → a / b = signed (decide (a < 0) != decide (b < 0)) Q - b.sign ∧ a % b = signed (decide (a < 0)) M + b.natAbs) ∧
    (¬ signed (decide (a < 0)) M < 0 → a / b = signed (decide (a < 0) != decide (b < 0)) Q ∧ a % b = signed (decide (a < 0)) M) := by
  have hs : b * b.sign = b.natAbs := by
    rcases Int.lt_trichotomy b 0 with h | h | h
    · rw [Int.sign_eq_neg_one_of_neg h]; omega
    · omega
    · rw [Int.sign_eq_one_of_pos h]; omega
  have hq : b * signed (decide (a < 0) != decide (b < 0)) Q = if a < 0 then -((b.natAbs : Int) * Q) else (b.natAbs : Int) * Q := by
    unfold signed
    by_cases ha : a < 0 <;> by_cases hb : b < 0
    · rw [show (b.natAbs : Int) = -b from by omega]; simp [ha, hb, Int.neg_mul]
    · rw [show (b.natAbs : Int) = b from by omega]; simp [ha, hb, Int.mul_neg]
    · rw [show (b.natAbs : Int) = -b from by omega]; simp [ha, hb, Int.mul_neg, Int.neg_mul]
    · rw [show (b.natAbs : Int) = b from by omega]; simp [ha, hb]
  refine ⟨fun hr => div_uniq ?_ ?_ ?_, fun hr => div_uniq ?_ ?_ ?_⟩
  · rw [Int.mul_sub, hs, hq]
    by_cases ha : a < 0 <;> simp [signed, ha] at hr ⊢ <;> omega
  · by_cases ha : a < 0 <;> simp [signed, ha] at hr ⊢ <;> omega
  · by_cases ha : a < 0 <;> simp [signed, ha] at hr ⊢ <;> omega
  · rw [hq]
    by_cases ha : a < 0 <;> simp [signed, ha] at hr ⊢ <;> omega
  · omega
  · by_cases ha : a < 0 <;> simp [signed, ha] at hr ⊢ <;> omega

theorem c_iDivZ (ok : NatOK M) (a : Int) : CallOK Tryd.prog 43 [.int a, .int 0] [] (.tup [.int 0, .int 0, .val (.bool false)]) [] [] := by
  refine callV tabOK mixedOK Tryd.func43 rfl (by kernel_rfl) rfl rfl (by kernel_rfl) rfl ?_
  intro W0 w0 ρ0 hE
  conv => whnf
  refine ⟨[], _, [], [], (ok.divZ a.natAbs), nil_fk, nil_new, nil_upd, ?_⟩; conv => whnf
  (repeat (first | (refine step_w1 rfl rfl ?_; conv => whnf) | (refine step_w2 rfl rfl ?_; conv => whnf) | (refine step_i (by kernel_rfl) ?_; conv => whnf) | (refine And.intro (by first | decide | omega) ?_; conv => whnf) | (refine ⟨[], _, [], [], (by assumption), nil_fk, nil_new, nil_upd, ?_⟩; conv => whnf) | (refine ⟨_, [], [], [], op_pickT rfl (ev_ok rfl) (ev_ok rfl), nil_fk, nil_new, nil_upd, ?_⟩; conv => whnf) | (refine ⟨_, [], [], [], op_pickF rfl (ev_ok rfl) (ev_ok rfl), nil_fk, nil_new, nil_upd, ?_⟩; conv => whnf) | (rw [beq_self_eq_true]; conv => whnf) | (rw [bne_self_eq_false]; conv => whnf))); exact Recast.refl _

theorem sz_signbit (z : Int) : sz z.sign.natAbs ≤ 1 := by
  rw [sz_le]
  have : z.sign.natAbs ≤ 1 := by
    rcases Int.lt_trichotomy z 0 with h | h | h
    · rw [Int.sign_eq_neg_one_of_neg h]; decide
    · subst h; decide
    · rw [Int.sign_eq_one_of_pos h]; decide
  omega

theorem c_iDiv (ok : NatOK M) (a b : Int) (ha : sz a.natAbs < M) (hb : sz b.natAbs < M) (h0 : b ≠ 0) :
    CallOK Tryd.prog 43 [.int a, .int b] [] (.tup [.int (a / b), .int (a % b), .val (.bool true)]) [] [] := by
  have hM := ok.big
  refine callV tabOK mixedOK Tryd.func43 rfl (by kernel_rfl) rfl rfl (by kernel_rfl) rfl ?_
  intro W0 w0 ρ0 hE
  conv => whnf
  refine ⟨[], _, [], [], (ok.div a.natAbs b.natAbs (by omega) (by omega) (by omega)), nil_fk, nil_new, nil_upd, ?_⟩; conv => whnf
  (repeat (first | (refine step_w1 rfl rfl ?_; conv => whnf) | (refine step_w2 rfl rfl ?_; conv => whnf) | (refine step_i (by kernel_rfl) ?_; conv => whnf) | (refine And.intro (by first | decide | omega) ?_; conv => whnf) | (refine ⟨[], _, [], [], (by assumption), nil_fk, nil_new, nil_upd, ?_⟩; conv => whnf) | (refine ⟨_, [], [], [], op_pickT rfl (ev_ok rfl) (ev_ok rfl), nil_fk, nil_new, nil_upd, ?_⟩; conv => whnf) | (refine ⟨_, [], [], [], op_pickF rfl (ev_ok rfl) (ev_ok rfl), nil_fk, nil_new, nil_upd, ?_⟩; conv => whnf) | (rw [beq_self_eq_true]; conv => whnf) | (rw [bne_self_eq_false]; conv => whnf)))
  refine ⟨[], _, [], [], (c_From _ _), nil_fk, nil_new, nil_upd, ?_⟩; conv => whnf
  refine ⟨[], _, [], [], (c_From _ _), nil_fk, nil_new, nil_upd, ?_⟩; conv => whnf
  (repeat (first | (refine step_w1 rfl rfl ?_; conv => whnf) | (refine step_w2 rfl rfl ?_; conv => whnf) | (refine step_i (by kernel_rfl) ?_; conv => whnf) | (refine And.intro (by first | decide | omega) ?_; conv => whnf) | (refine ⟨[], _, [], [], (by assumption), nil_fk, nil_new, nil_upd, ?_⟩; conv => whnf) | (refine ⟨_, [], [], [], op_pickT rfl (ev_ok rfl) (ev_ok rfl), nil_fk, nil_new, nil_upd, ?_⟩; conv => whnf) | (refine ⟨_, [], [], [], op_pickF rfl (ev_ok rfl) (ev_ok rfl), nil_fk, nil_new, nil_upd, ?_⟩; conv => whnf) | (rw [beq_self_eq_true]; conv => whnf) | (rw [bne_self_eq_false]; conv => whnf)))
  have hA : (b.natAbs : Int) * ((a.natAbs / b.natAbs : Nat) : Int) + ((a.natAbs % b.natAbs : Nat) : Int) = (a.natAbs : Int) := by
    rw [← Int.natCast_mul, ← Int.natCast_add, Nat.div_add_mod]
  have hlt : a.natAbs % b.natAbs < b.natAbs := Nat.mod_lt _ (by omega)
  have hdl : sz (a.natAbs / b.natAbs) ≤ sz a.natAbs := sz_div _ _
  have hml : sz (a.natAbs % b.natAbs) ≤ sz a.natAbs := sz_mod _ _
  obtain ⟨u1, u2⟩ := divLaw a b (a.natAbs / b.natAbs) (a.natAbs % b.natAbs) hA hlt
  have hbq : (signed (decide (a < 0) != decide (b < 0)) (a.natAbs / b.natAbs)).natAbs = a.natAbs / b.natAbs := signed_abs _ _
  have hbr : (signed (decide (a < 0)) (a.natAbs % b.natAbs)).natAbs = a.natAbs % b.natAbs := signed_abs _ _
  generalize a.natAbs / b.natAbs = Q at *
  generalize a.natAbs % b.natAbs = M at *
  generalize signed (decide (a < 0) != decide (b < 0)) Q = q at *
  generalize signed (decide (a < 0)) M = r at *
  subst hbq hbr
  refine ⟨fun h => ?_, fun h => ?_⟩
  · have hr := of_decide_eq_true h
    obtain ⟨v1, v2⟩ := u1 hr
    rw [v1, v2]
    conv => whnf
    refine ⟨[], _, [], [], (c_From false b.natAbs), nil_fk, nil_new, nil_upd, ?_⟩; conv => whnf
    rw [show signed false b.natAbs = (b.natAbs : Int) from rfl]
    refine ⟨[], _, [], [], (c_iAdd ok r b.natAbs (by omega) (by rw [Int.natAbs_natCast]; exact hb)), nil_fk, nil_new, nil_upd, ?_⟩; conv => whnf
    (repeat (first | (refine step_w1 rfl rfl ?_; conv => whnf) | (refine step_w2 rfl rfl ?_; conv => whnf) | (refine step_i (by kernel_rfl) ?_; conv => whnf) | (refine And.intro (by first | decide | omega) ?_; conv => whnf) | (refine ⟨[], _, [], [], (by assumption), nil_fk, nil_new, nil_upd, ?_⟩; conv => whnf) | (refine ⟨_, [], [], [], op_pickT rfl (ev_ok rfl) (ev_ok rfl), nil_fk, nil_new, nil_upd, ?_⟩; conv => whnf) | (refine ⟨_, [], [], [], op_pickF rfl (ev_ok rfl) (ev_ok rfl), nil_fk, nil_new, nil_upd, ?_⟩; conv => whnf) | (rw [beq_self_eq_true]; conv => whnf) | (rw [bne_self_eq_false]; conv => whnf)))
    refine ⟨[], _, [], [], (c_Sign b), nil_fk, nil_new, nil_upd, ?_⟩; conv => whnf
    have hsb : -1 ≤ b.sign ∧ b.sign ≤ 1 := by
      rcases Int.lt_trichotomy b 0 with h | h | h
      · rw [Int.sign_eq_neg_one_of_neg h]; omega
      · omega
      · rw [Int.sign_eq_one_of_pos h]; omega
    have := sz_signbit b
    refine ⟨[], _, [], [], (c_iOf b.sign (by omega) (by omega)), nil_fk, nil_new, nil_upd, ?_⟩; conv => whnf
    refine ⟨[], _, [], [], (c_iSub ok q b.sign (by omega) (by omega)), nil_fk, nil_new, nil_upd, ?_⟩; conv => whnf
    (repeat (first | (refine step_w1 rfl rfl ?_; conv => whnf) | (refine step_w2 rfl rfl ?_; conv => whnf) | (refine step_i (by kernel_rfl) ?_; conv => whnf) | (refine And.intro (by first | decide | omega) ?_; conv => whnf) | (refine ⟨[], _, [], [], (by assumption), nil_fk, nil_new, nil_upd, ?_⟩; conv => whnf) | (refine ⟨_, [], [], [], op_pickT rfl (ev_ok rfl) (ev_ok rfl), nil_fk, nil_new, nil_upd, ?_⟩; conv => whnf) | (refine ⟨_, [], [], [], op_pickF rfl (ev_ok rfl) (ev_ok rfl), nil_fk, nil_new, nil_upd, ?_⟩; conv => whnf) | (rw [beq_self_eq_true]; conv => whnf) | (rw [bne_self_eq_false]; conv => whnf))); exact Recast.refl _
  · obtain ⟨v1, v2⟩ := u2 (of_decide_eq_false h)
    rw [v1, v2]
    conv => whnf
    (repeat (first | (refine step_w1 rfl rfl ?_; conv => whnf) | (refine step_w2 rfl rfl ?_; conv => whnf) | (refine step_i (by kernel_rfl) ?_; conv => whnf) | (refine And.intro (by first | decide | omega) ?_; conv => whnf) | (refine ⟨[], _, [], [], (by assumption), nil_fk, nil_new, nil_upd, ?_⟩; conv => whnf) | (refine ⟨_, [], [], [], op_pickT rfl (ev_ok rfl) (ev_ok rfl), nil_fk, nil_new, nil_upd, ?_⟩; conv => whnf) | (refine ⟨_, [], [], [], op_pickF rfl (ev_ok rfl) (ev_ok rfl), nil_fk, nil_new, nil_upd, ?_⟩; conv => whnf) | (rw [beq_self_eq_true]; conv => whnf) | (rw [bne_self_eq_false]; conv => whnf))); exact Recast.refl _
end Go.Proofs.YtghdcjhlhcoijaaDoor
