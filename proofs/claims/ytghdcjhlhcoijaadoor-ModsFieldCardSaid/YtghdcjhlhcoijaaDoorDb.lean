/- fracs over nats, up to a number of binary digits. -/
import Derived.Test.YtghdcjhlhcoijaaDoorDa
namespace Go.Proofs.YtghdcjhlhcoijaaDoor
open Go.Sx
set_option maxRecDepth 100000
set_option maxHeartbeats 2000000

/-- The greater of the sizes of numerator and denominator. -/
def fsz (q : Rat) : Nat := max (sz q.num.natAbs) (sz q.den)

theorem fsz_num (q : Rat) : sz q.num.natAbs ≤ fsz q := Nat.le_max_left _ _
theorem fsz_den (q : Rat) : sz q.den ≤ fsz q := Nat.le_max_right _ _
theorem fsz_le {q : Rat} {k : Nat} (h1 : sz q.num.natAbs ≤ k) (h2 : sz q.den ≤ k) : fsz q ≤ k := Nat.max_le.2 ⟨h1, h2⟩

theorem num_mkRat {n : Int} {d : Nat} (hd : d ≠ 0) : (mkRat n d).num = n / (Nat.gcd n.natAbs d : Nat) := by
  rw [← Rat.normalize_eq_mkRat hd, Rat.num_normalize]
theorem den_mkRat {n : Int} {d : Nat} (hd : d ≠ 0) : (mkRat n d).den = d / Nat.gcd n.natAbs d := by
  rw [← Rat.normalize_eq_mkRat hd, Rat.den_normalize]

theorem fsz_mkRat {n : Int} {d : Nat} {k : Nat} (hd : d ≠ 0) (h1 : sz n.natAbs ≤ k) (h2 : sz d ≤ k) : fsz (mkRat n d) ≤ k := by
  refine fsz_le ?_ ?_
  · rw [num_mkRat hd]
    refine Nat.le_trans (sz_mono ?_) h1
    rw [Int.natAbs_ediv_of_dvd (Int.ofNat_dvd_left.2 (Nat.gcd_dvd_left _ _)), Int.natAbs_natCast]
    exact Nat.div_le_self _ _
  · rw [den_mkRat hd]
    exact Nat.le_trans (sz_div _ _) h2

theorem fsz_add {a b : Rat} : fsz (a + b) ≤ fsz a + fsz b + 1 := by
  have ha := fsz_num a; have ha' := fsz_den a; have hb := fsz_num b; have hb' := fsz_den b
  rw [Rat.add_def']
  refine fsz_mkRat (Nat.mul_ne_zero a.den_nz b.den_nz) ?_ ?_
  · have h1 := sz_mul a.num.natAbs b.den
    have h2 := sz_mul b.num.natAbs a.den
    refine Nat.le_trans (sz_mono (Int.natAbs_add_le _ _)) (sz_add ?_ ?_)
    · rw [Int.natAbs_mul, Int.natAbs_natCast]; omega
    · rw [Int.natAbs_mul, Int.natAbs_natCast]; omega
  · have := sz_mul a.den b.den
    omega

theorem fsz_mul {a b : Rat} : fsz (a * b) ≤ fsz a + fsz b := by
  have ha := fsz_num a; have ha' := fsz_den a; have hb := fsz_num b; have hb' := fsz_den b
  rw [Rat.mul_def']
  refine fsz_mkRat (Nat.mul_ne_zero a.den_nz b.den_nz) ?_ ?_
  · have h1 := sz_mul a.num.natAbs b.num.natAbs
    rw [Int.natAbs_mul]; omega
  · have := sz_mul a.den b.den
    omega

theorem fsz_neg (a : Rat) : fsz (-a) = fsz a := by simp [fsz]
theorem fsz_sub {a b : Rat} : fsz (a - b) ≤ fsz a + fsz b + 1 := by
  rw [Rat.sub_eq_add_neg, ← fsz_neg b]; exact fsz_add

theorem den_pred (q : Rat) : q.den - 1 + 1 = q.den := by have := q.den_pos; omega
theorem sz_one_le (n : Nat) (h : n ≠ 0) : 1 ≤ sz n := sz_pos h

variable {M : Nat}

theorem c_nOf' {n : Nat} {x : Int} (hx : x = n) (hn : n < 18446744073709551616) : CallOK Tryd.prog 44 [.val (.int .u64 x)] [] (.nat n) [] [] := by
  subst hx; exact c_nOf n hn

theorem c_den (ok : NatOK M) (q : Rat) (h : sz q.den ≤ M) : CallOK Tryd.prog 58 [.frac q] [] (.nat q.den) [] [] := by
  refine callV tabOK mixedOK Tryd.func58 rfl (by kernel_rfl) rfl rfl (by kernel_rfl) rfl ?_
  intro W0 w0 ρ0 hE
  conv => whnf
  refine ⟨[], _, [], [], (c_nOf 1 (by decide)), nil_fk, nil_new, nil_upd, ?_⟩; conv => whnf
  have := ok.add (q.den - 1) 1 (by rw [den_pred]; exact h)
  rw [den_pred] at this
  refine ⟨[], _, [], [], (this), nil_fk, nil_new, nil_upd, ?_⟩; conv => whnf
  (repeat (first | (refine step_w1 rfl rfl ?_; conv => whnf) | (refine step_w2 rfl rfl ?_; conv => whnf) | (refine step_i (by kernel_rfl) ?_; conv => whnf) | (refine And.intro (by first | decide | omega) ?_; conv => whnf) | (refine ⟨[], _, [], [], (by assumption), nil_fk, nil_new, nil_upd, ?_⟩; conv => whnf) | (refine ⟨_, [], [], [], op_pickT rfl (ev_ok rfl) (ev_ok rfl), nil_fk, nil_new, nil_upd, ?_⟩; conv => whnf) | (refine ⟨_, [], [], [], op_pickF rfl (ev_ok rfl) (ev_ok rfl), nil_fk, nil_new, nil_upd, ?_⟩; conv => whnf) | (rw [beq_self_eq_true]; conv => whnf) | (rw [bne_self_eq_false]; conv => whnf))); exact Recast.refl _

theorem recast_frac {x : Int} {y : Nat} {q : Rat} (hx : x = q.num) (hy : y = q.den - 1) : Recast (.agg [.int x, .nat y]) (.frac q) := by
  subst hx hy
  exact recast_flat (l := fracCells q) rfl rfl (fun _ h => by cases h)

theorem hasC_frac {x : Int} {y : Nat} {q : Rat} (hx : x = q.num) (hy : y = q.den - 1) : ∀ ρ v, HasC ρ (.agg [.int x, .nat y]) v → HasC ρ (.frac q) v := by
  subst hx hy
  exact hasC_flat (l := fracCells q) rfl rfl (fun _ h => by cases h)

theorem c_lowest (ok : NatOK M) (n : Int) (d : Nat) (h1 : sz n.natAbs ≤ M) (h2 : sz d ≤ M) (hd : d ≠ 0) :
    CallOK Tryd.prog 57 [.int n, .nat d] [] (.frac (mkRat n d)) [] [] := by
  have hb := ok.big
  have hg : Nat.gcd n.natAbs d ≠ 0 := fun h => hd (Nat.gcd_eq_zero_iff.1 h).2
  have hgs : sz (Nat.gcd n.natAbs d) ≤ M := Nat.le_trans (sz_gcd_r hd) h2
  have hq : d / Nat.gcd n.natAbs d ≠ 0 := Nat.div_ne_zero_iff.2 ⟨hg, Nat.le_of_dvd (by omega) (Nat.gcd_dvd_right _ _)⟩
  refine callV tabOK mixedOK Tryd.func57 rfl (by kernel_rfl) rfl rfl (by kernel_rfl) rfl ?_
  intro W0 w0 ρ0 hE
  conv => whnf
  refine ⟨[], _, [], [], (c_Abs n), nil_fk, nil_new, nil_upd, ?_⟩; conv => whnf
  refine ⟨[], _, [], [], (ok.gcd n.natAbs d h1 h2), nil_fk, nil_new, nil_upd, ?_⟩; conv => whnf
  (repeat (first | (refine step_w1 rfl rfl ?_; conv => whnf) | (refine step_w2 rfl rfl ?_; conv => whnf) | (refine step_i (by kernel_rfl) ?_; conv => whnf) | (refine And.intro (by first | decide | omega) ?_; conv => whnf) | (refine ⟨[], _, [], [], (by assumption), nil_fk, nil_new, nil_upd, ?_⟩; conv => whnf) | (refine ⟨_, [], [], [], op_pickT rfl (ev_ok rfl) (ev_ok rfl), nil_fk, nil_new, nil_upd, ?_⟩; conv => whnf) | (refine ⟨_, [], [], [], op_pickF rfl (ev_ok rfl) (ev_ok rfl), nil_fk, nil_new, nil_upd, ?_⟩; conv => whnf) | (rw [beq_self_eq_true]; conv => whnf) | (rw [bne_self_eq_false]; conv => whnf)))
  refine ⟨[], _, [], [], (c_Abs n), nil_fk, nil_new, nil_upd, ?_⟩; conv => whnf
  refine ⟨[], _, [], [], (ok.div n.natAbs _ h1 hgs hg), nil_fk, nil_new, nil_upd, ?_⟩; conv => whnf
  (repeat (first | (refine step_w1 rfl rfl ?_; conv => whnf) | (refine step_w2 rfl rfl ?_; conv => whnf) | (refine step_i (by kernel_rfl) ?_; conv => whnf) | (refine And.intro (by first | decide | omega) ?_; conv => whnf) | (refine ⟨[], _, [], [], (by assumption), nil_fk, nil_new, nil_upd, ?_⟩; conv => whnf) | (refine ⟨_, [], [], [], op_pickT rfl (ev_ok rfl) (ev_ok rfl), nil_fk, nil_new, nil_upd, ?_⟩; conv => whnf) | (refine ⟨_, [], [], [], op_pickF rfl (ev_ok rfl) (ev_ok rfl), nil_fk, nil_new, nil_upd, ?_⟩; conv => whnf) | (rw [beq_self_eq_true]; conv => whnf) | (rw [bne_self_eq_false]; conv => whnf)))
  refine ⟨[], _, [], [], (ok.div d _ h2 hgs hg), nil_fk, nil_new, nil_upd, ?_⟩; conv => whnf
  (repeat (first | (refine step_w1 rfl rfl ?_; conv => whnf) | (refine step_w2 rfl rfl ?_; conv => whnf) | (refine step_i (by kernel_rfl) ?_; conv => whnf) | (refine And.intro (by first | decide | omega) ?_; conv => whnf) | (refine ⟨[], _, [], [], (by assumption), nil_fk, nil_new, nil_upd, ?_⟩; conv => whnf) | (refine ⟨_, [], [], [], op_pickT rfl (ev_ok rfl) (ev_ok rfl), nil_fk, nil_new, nil_upd, ?_⟩; conv => whnf) | (refine ⟨_, [], [], [], op_pickF rfl (ev_ok rfl) (ev_ok rfl), nil_fk, nil_new, nil_upd, ?_⟩; conv => whnf) | (rw [beq_self_eq_true]; conv => whnf) | (rw [bne_self_eq_false]; conv => whnf)))
  refine ⟨[], _, [], [], (c_nOf 1 (by decide)), nil_fk, nil_new, nil_upd, ?_⟩; conv => whnf
  refine ⟨[], _, [], [], (ok.sub _ 1 (Nat.le_trans (sz_div _ _) h2) (Nat.pos_of_ne_zero hq)), nil_fk, nil_new, nil_upd, ?_⟩; conv => whnf
  (repeat (first | (refine step_w1 rfl rfl ?_; conv => whnf) | (refine step_w2 rfl rfl ?_; conv => whnf) | (refine step_i (by kernel_rfl) ?_; conv => whnf) | (refine And.intro (by first | decide | omega) ?_; conv => whnf) | (refine ⟨[], _, [], [], (by assumption), nil_fk, nil_new, nil_upd, ?_⟩; conv => whnf) | (refine ⟨_, [], [], [], op_pickT rfl (ev_ok rfl) (ev_ok rfl), nil_fk, nil_new, nil_upd, ?_⟩; conv => whnf) | (refine ⟨_, [], [], [], op_pickF rfl (ev_ok rfl) (ev_ok rfl), nil_fk, nil_new, nil_upd, ?_⟩; conv => whnf) | (rw [beq_self_eq_true]; conv => whnf) | (rw [bne_self_eq_false]; conv => whnf)))
  refine ⟨[], _, [], [], (c_Sign n), nil_fk, nil_new, nil_upd, ?_⟩; conv => whnf
  have e : signed (decide (n.sign < 0)) (n.natAbs / Nat.gcd n.natAbs d) = (mkRat n d).num := by
    rw [num_mkRat hd]
    have hdv : Nat.gcd n.natAbs d ∣ n.natAbs := Nat.gcd_dvd_left _ _
    unfold signed
    by_cases hn : n < 0
    · rw [Int.sign_eq_neg_one_of_neg hn]
      simp only [show decide ((-1 : Int) < 0) = true from rfl, if_true]
      have : n = -(n.natAbs : Int) := by omega
      rw [Int.natCast_ediv, ← Int.neg_ediv_of_dvd (Int.natCast_dvd_natCast.2 hdv), ← this]
    · have : ¬ n.sign < 0 := fun h => hn (Int.sign_neg_iff.1 h)
      rw [decide_eq_false this]
      simp only [Bool.false_eq_true, if_false]
      have : n = (n.natAbs : Int) := by omega
      rw [Int.natCast_ediv, ← this]
  have hf := c_From (decide (n.sign < 0)) (n.natAbs / Nat.gcd n.natAbs d)
  rw [e] at hf
  refine ⟨[], _, [], [], (hf), nil_fk, nil_new, nil_upd, ?_⟩; conv => whnf
  (repeat (first | (refine step_w1 rfl rfl ?_; conv => whnf) | (refine step_w2 rfl rfl ?_; conv => whnf) | (refine step_i (by kernel_rfl) ?_; conv => whnf) | (refine And.intro (by first | decide | omega) ?_; conv => whnf) | (refine ⟨[], _, [], [], (by assumption), nil_fk, nil_new, nil_upd, ?_⟩; conv => whnf) | (refine ⟨_, [], [], [], op_pickT rfl (ev_ok rfl) (ev_ok rfl), nil_fk, nil_new, nil_upd, ?_⟩; conv => whnf) | (refine ⟨_, [], [], [], op_pickF rfl (ev_ok rfl) (ev_ok rfl), nil_fk, nil_new, nil_upd, ?_⟩; conv => whnf) | (rw [beq_self_eq_true]; conv => whnf) | (rw [bne_self_eq_false]; conv => whnf)))
  exact recast_frac rfl (by rw [den_mkRat hd])

theorem c_whole (n : Int) : CallOK Tryd.prog 56 [.int n] [] (.frac n) [] [] := by
  refine callV tabOK mixedOK Tryd.func56 rfl (by kernel_rfl) rfl rfl (by kernel_rfl) rfl ?_
  intro W0 w0 ρ0 hE
  conv => whnf
  (repeat (first | (refine step_w1 rfl rfl ?_; conv => whnf) | (refine step_w2 rfl rfl ?_; conv => whnf) | (refine step_i (by kernel_rfl) ?_; conv => whnf) | (refine And.intro (by first | decide | omega) ?_; conv => whnf) | (refine ⟨[], _, [], [], (by assumption), nil_fk, nil_new, nil_upd, ?_⟩; conv => whnf) | (refine ⟨_, [], [], [], op_pickT rfl (ev_ok rfl) (ev_ok rfl), nil_fk, nil_new, nil_upd, ?_⟩; conv => whnf) | (refine ⟨_, [], [], [], op_pickF rfl (ev_ok rfl) (ev_ok rfl), nil_fk, nil_new, nil_upd, ?_⟩; conv => whnf) | (rw [beq_self_eq_true]; conv => whnf) | (rw [bne_self_eq_false]; conv => whnf)))
  exact recast_frac rfl rfl
theorem c_fInt (n : Int) (h0 : -9223372036854775808 ≤ n) (h1 : n < 9223372036854775808) : CallOK Tryd.prog 80 [.val (.int .i64 n)] [] (.frac n) [] [] := by
  refine callV tabOK mixedOK Tryd.func80 rfl (by kernel_rfl) rfl rfl (by kernel_rfl) rfl ?_
  intro W0 w0 ρ0 hE
  conv => whnf
  refine ⟨[], _, [], [], (c_iOf n h0 h1), nil_fk, nil_new, nil_upd, ?_⟩; conv => whnf
  refine ⟨[], _, [], [], (c_whole n), nil_fk, nil_new, nil_upd, ?_⟩; conv => whnf
  (repeat (first | (refine step_w1 rfl rfl ?_; conv => whnf) | (refine step_w2 rfl rfl ?_; conv => whnf) | (refine step_i (by kernel_rfl) ?_; conv => whnf) | (refine And.intro (by first | decide | omega) ?_; conv => whnf) | (refine ⟨[], _, [], [], (by assumption), nil_fk, nil_new, nil_upd, ?_⟩; conv => whnf) | (refine ⟨_, [], [], [], op_pickT rfl (ev_ok rfl) (ev_ok rfl), nil_fk, nil_new, nil_upd, ?_⟩; conv => whnf) | (refine ⟨_, [], [], [], op_pickF rfl (ev_ok rfl) (ev_ok rfl), nil_fk, nil_new, nil_upd, ?_⟩; conv => whnf) | (rw [beq_self_eq_true]; conv => whnf) | (rw [bne_self_eq_false]; conv => whnf))); exact Recast.refl _
theorem c_Num (q : Rat) : CallOK Tryd.prog 54 [.frac q] [] (.int q.num) [] [] := by
  refine callV tabOK mixedOK Tryd.func54 rfl (by kernel_rfl) rfl rfl (by kernel_rfl) rfl ?_
  intro W0 w0 ρ0 hE
  conv => whnf
  (repeat (first | (refine step_w1 rfl rfl ?_; conv => whnf) | (refine step_w2 rfl rfl ?_; conv => whnf) | (refine step_i (by kernel_rfl) ?_; conv => whnf) | (refine And.intro (by first | decide | omega) ?_; conv => whnf) | (refine ⟨[], _, [], [], (by assumption), nil_fk, nil_new, nil_upd, ?_⟩; conv => whnf) | (refine ⟨_, [], [], [], op_pickT rfl (ev_ok rfl) (ev_ok rfl), nil_fk, nil_new, nil_upd, ?_⟩; conv => whnf) | (refine ⟨_, [], [], [], op_pickF rfl (ev_ok rfl) (ev_ok rfl), nil_fk, nil_new, nil_upd, ?_⟩; conv => whnf) | (rw [beq_self_eq_true]; conv => whnf) | (rw [bne_self_eq_false]; conv => whnf)))
  exact recast_flat (l := intCells q.num) rfl rfl (fun _ h => by cases h)
theorem c_Den (ok : NatOK M) (q : Rat) (h : sz q.den ≤ M) : CallOK Tryd.prog 53 [.frac q] [] (.nat q.den) [] [] := by
  refine callV tabOK mixedOK Tryd.func53 rfl (by kernel_rfl) rfl rfl (by kernel_rfl) rfl ?_
  intro W0 w0 ρ0 hE
  conv => whnf
  refine ⟨[], _, [], [], (c_den ok q h), nil_fk, nil_new, nil_upd, ?_⟩; conv => whnf
  (repeat (first | (refine step_w1 rfl rfl ?_; conv => whnf) | (refine step_w2 rfl rfl ?_; conv => whnf) | (refine step_i (by kernel_rfl) ?_; conv => whnf) | (refine And.intro (by first | decide | omega) ?_; conv => whnf) | (refine ⟨[], _, [], [], (by assumption), nil_fk, nil_new, nil_upd, ?_⟩; conv => whnf) | (refine ⟨_, [], [], [], op_pickT rfl (ev_ok rfl) (ev_ok rfl), nil_fk, nil_new, nil_upd, ?_⟩; conv => whnf) | (refine ⟨_, [], [], [], op_pickF rfl (ev_ok rfl) (ev_ok rfl), nil_fk, nil_new, nil_upd, ?_⟩; conv => whnf) | (rw [beq_self_eq_true]; conv => whnf) | (rw [bne_self_eq_false]; conv => whnf))); exact Recast.refl _
theorem c_Whole (q : Rat) : CallOK Tryd.prog 55 [.frac q] [] (.val (.bool (decide (q.den = 1)))) [] [] := by
  refine callV tabOK mixedOK Tryd.func55 rfl (by kernel_rfl) rfl rfl (by kernel_rfl) rfl ?_
  intro W0 w0 ρ0 hE
  conv => whnf
  (repeat (first | (refine step_w1 rfl rfl ?_; conv => whnf) | (refine step_w2 rfl rfl ?_; conv => whnf) | (refine step_i (by kernel_rfl) ?_; conv => whnf) | (refine And.intro (by first | decide | omega) ?_; conv => whnf) | (refine ⟨[], _, [], [], (by assumption), nil_fk, nil_new, nil_upd, ?_⟩; conv => whnf) | (refine ⟨_, [], [], [], op_pickT rfl (ev_ok rfl) (ev_ok rfl), nil_fk, nil_new, nil_upd, ?_⟩; conv => whnf) | (refine ⟨_, [], [], [], op_pickF rfl (ev_ok rfl) (ev_ok rfl), nil_fk, nil_new, nil_upd, ?_⟩; conv => whnf) | (rw [beq_self_eq_true]; conv => whnf) | (rw [bne_self_eq_false]; conv => whnf)))
  refine ⟨_, op_eqAgg tabOK goodOK rfl (ev_ok rfl) (ev_ok rfl) rfl rfl rfl rfl (eqTy_nat (q.den - 1) 0) guard_nat, ?_⟩
  have := q.den_pos
  rw [show decide (q.den - 1 = 0) = decide (q.den = 1) from decide_eq_decide.2 (by omega)]
  conv => whnf
  (repeat (first | (refine step_w1 rfl rfl ?_; conv => whnf) | (refine step_w2 rfl rfl ?_; conv => whnf) | (refine step_i (by kernel_rfl) ?_; conv => whnf) | (refine And.intro (by first | decide | omega) ?_; conv => whnf) | (refine ⟨[], _, [], [], (by assumption), nil_fk, nil_new, nil_upd, ?_⟩; conv => whnf) | (refine ⟨_, [], [], [], op_pickT rfl (ev_ok rfl) (ev_ok rfl), nil_fk, nil_new, nil_upd, ?_⟩; conv => whnf) | (refine ⟨_, [], [], [], op_pickF rfl (ev_ok rfl) (ev_ok rfl), nil_fk, nil_new, nil_upd, ?_⟩; conv => whnf) | (rw [beq_self_eq_true]; conv => whnf) | (rw [bne_self_eq_false]; conv => whnf))); exact Recast.refl _
theorem c_fSign (q : Rat) : CallOK Tryd.prog 91 [.frac q] [] (.val (.int .i64 q.num.sign)) [] [] := by
  refine callV tabOK mixedOK Tryd.func91 rfl (by kernel_rfl) rfl rfl (by kernel_rfl) rfl ?_
  intro W0 w0 ρ0 hE
  conv => whnf
  (repeat (first | (refine step_w1 rfl rfl ?_; conv => whnf) | (refine step_w2 rfl rfl ?_; conv => whnf) | (refine step_i (by kernel_rfl) ?_; conv => whnf) | (refine And.intro (by first | decide | omega) ?_; conv => whnf) | (refine ⟨[], _, [], [], (by assumption), nil_fk, nil_new, nil_upd, ?_⟩; conv => whnf) | (refine ⟨_, [], [], [], op_pickT rfl (ev_ok rfl) (ev_ok rfl), nil_fk, nil_new, nil_upd, ?_⟩; conv => whnf) | (refine ⟨_, [], [], [], op_pickF rfl (ev_ok rfl) (ev_ok rfl), nil_fk, nil_new, nil_upd, ?_⟩; conv => whnf) | (rw [beq_self_eq_true]; conv => whnf) | (rw [bne_self_eq_false]; conv => whnf)))
  refine ⟨[], _, [], [], (c_Sign q.num), nil_fk, nil_new, nil_upd, ?_⟩; conv => whnf
  (repeat (first | (refine step_w1 rfl rfl ?_; conv => whnf) | (refine step_w2 rfl rfl ?_; conv => whnf) | (refine step_i (by kernel_rfl) ?_; conv => whnf) | (refine And.intro (by first | decide | omega) ?_; conv => whnf) | (refine ⟨[], _, [], [], (by assumption), nil_fk, nil_new, nil_upd, ?_⟩; conv => whnf) | (refine ⟨_, [], [], [], op_pickT rfl (ev_ok rfl) (ev_ok rfl), nil_fk, nil_new, nil_upd, ?_⟩; conv => whnf) | (refine ⟨_, [], [], [], op_pickF rfl (ev_ok rfl) (ev_ok rfl), nil_fk, nil_new, nil_upd, ?_⟩; conv => whnf) | (rw [beq_self_eq_true]; conv => whnf) | (rw [bne_self_eq_false]; conv => whnf))); exact Recast.refl _
theorem c_signed (ok : NatOK M) (q : Rat) (h : sz q.den ≤ M) : CallOK Tryd.prog 59 [.frac q] [] (.int q.den) [] [] := by
  refine callV tabOK mixedOK Tryd.func59 rfl (by kernel_rfl) rfl rfl (by kernel_rfl) rfl ?_
  intro W0 w0 ρ0 hE
  conv => whnf
  refine ⟨[], _, [], [], (c_den ok q h), nil_fk, nil_new, nil_upd, ?_⟩; conv => whnf
  refine ⟨[], _, [], [], (c_From false q.den), nil_fk, nil_new, nil_upd, ?_⟩; conv => whnf
  rw [show signed false q.den = (q.den : Int) from rfl]
  (repeat (first | (refine step_w1 rfl rfl ?_; conv => whnf) | (refine step_w2 rfl rfl ?_; conv => whnf) | (refine step_i (by kernel_rfl) ?_; conv => whnf) | (refine And.intro (by first | decide | omega) ?_; conv => whnf) | (refine ⟨[], _, [], [], (by assumption), nil_fk, nil_new, nil_upd, ?_⟩; conv => whnf) | (refine ⟨_, [], [], [], op_pickT rfl (ev_ok rfl) (ev_ok rfl), nil_fk, nil_new, nil_upd, ?_⟩; conv => whnf) | (refine ⟨_, [], [], [], op_pickF rfl (ev_ok rfl) (ev_ok rfl), nil_fk, nil_new, nil_upd, ?_⟩; conv => whnf) | (rw [beq_self_eq_true]; conv => whnf) | (rw [bne_self_eq_false]; conv => whnf))); exact Recast.refl _

theorem int_of_den {q : Rat} (h : q.den = 1) : q = (q.num : Rat) := Rat.ext rfl h

theorem c_fMul (ok : NatOK M) (a b : Rat) (h : fsz a + fsz b ≤ M) : CallOK Tryd.prog 31 [.frac a, .frac b] [] (.frac (a * b)) [] [] := by
  have ha := fsz_num a; have ha' := fsz_den a; have hb := fsz_num b; have hb' := fsz_den b
  have gen : CallOK Tryd.prog 31 [.frac a, .frac b] [] (.frac (mkRat (a.num * b.num) (a.den * b.den))) [] [] → CallOK Tryd.prog 31 [.frac a, .frac b] [] (.frac (a * b)) [] [] := by rw [Rat.mul_def']; exact id
  have hw : a.den = 1 → b.den = 1 → ((a.num * b.num : Int) : Rat) = a * b := by
    intro h1 h2
    rw [int_of_den h1, int_of_den h2, Rat.intCast_mul]; rfl
  have hlow := c_lowest ok (a.num * b.num) (a.den * b.den) (by rw [Int.natAbs_mul]; have := sz_mul a.num.natAbs b.num.natAbs; omega) (by have := sz_mul a.den b.den; omega) (Nat.mul_ne_zero a.den_nz b.den_nz)
  rw [← Rat.mul_def'] at hlow
  have wa := c_Whole a
  have wb := c_Whole b
  have k1 := c_iMul ok a.num b.num (by omega)
  have k2 := c_den ok a (by omega)
  have k3 := c_den ok b (by omega)
  have k4 := ok.mul a.den b.den (by omega)
  have k5 := c_whole (a.num * b.num)
  refine callV tabOK mixedOK Tryd.func31 rfl (by kernel_rfl) rfl rfl (by kernel_rfl) rfl ?_
  intro W0 w0 ρ0 hE
  conv => whnf
  by_cases h1 : a.den = 1
  · rw [decide_eq_true h1] at wa
    by_cases h2 : b.den = 1
    · rw [decide_eq_true h2] at wb
      rw [hw h1 h2] at k5
      (repeat (first | (refine step_w1 rfl rfl ?_; conv => whnf) | (refine step_w2 rfl rfl ?_; conv => whnf) | (refine step_i (by kernel_rfl) ?_; conv => whnf) | (refine And.intro (by first | decide | omega) ?_; conv => whnf) | (refine ⟨[], _, [], [], (by assumption), nil_fk, nil_new, nil_upd, ?_⟩; conv => whnf) | (refine ⟨_, [], [], [], op_pickT rfl (ev_ok rfl) (ev_ok rfl), nil_fk, nil_new, nil_upd, ?_⟩; conv => whnf) | (refine ⟨_, [], [], [], op_pickF rfl (ev_ok rfl) (ev_ok rfl), nil_fk, nil_new, nil_upd, ?_⟩; conv => whnf) | (rw [beq_self_eq_true]; conv => whnf) | (rw [bne_self_eq_false]; conv => whnf))); exact Recast.refl _
    · rw [decide_eq_false h2] at wb
      (repeat (first | (refine step_w1 rfl rfl ?_; conv => whnf) | (refine step_w2 rfl rfl ?_; conv => whnf) | (refine step_i (by kernel_rfl) ?_; conv => whnf) | (refine And.intro (by first | decide | omega) ?_; conv => whnf) | (refine ⟨[], _, [], [], (by assumption), nil_fk, nil_new, nil_upd, ?_⟩; conv => whnf) | (refine ⟨_, [], [], [], op_pickT rfl (ev_ok rfl) (ev_ok rfl), nil_fk, nil_new, nil_upd, ?_⟩; conv => whnf) | (refine ⟨_, [], [], [], op_pickF rfl (ev_ok rfl) (ev_ok rfl), nil_fk, nil_new, nil_upd, ?_⟩; conv => whnf) | (rw [beq_self_eq_true]; conv => whnf) | (rw [bne_self_eq_false]; conv => whnf))); exact Recast.refl _
  · rw [decide_eq_false h1] at wa
    (repeat (first | (refine step_w1 rfl rfl ?_; conv => whnf) | (refine step_w2 rfl rfl ?_; conv => whnf) | (refine step_i (by kernel_rfl) ?_; conv => whnf) | (refine And.intro (by first | decide | omega) ?_; conv => whnf) | (refine ⟨[], _, [], [], (by assumption), nil_fk, nil_new, nil_upd, ?_⟩; conv => whnf) | (refine ⟨_, [], [], [], op_pickT rfl (ev_ok rfl) (ev_ok rfl), nil_fk, nil_new, nil_upd, ?_⟩; conv => whnf) | (refine ⟨_, [], [], [], op_pickF rfl (ev_ok rfl) (ev_ok rfl), nil_fk, nil_new, nil_upd, ?_⟩; conv => whnf) | (rw [beq_self_eq_true]; conv => whnf) | (rw [bne_self_eq_false]; conv => whnf))); exact Recast.refl _

theorem fsz_inv (b : Rat) : fsz b⁻¹ ≤ fsz b := by
  have h1 := fsz_num b
  have h2 := fsz_den b
  by_cases h : b.num = 0
  · rw [Rat.num_eq_zero] at h
    subst h
    rw [Rat.inv_zero]; exact Nat.le_refl _
  · refine fsz_le ?_ ?_
    · rw [Rat.num_inv, Int.natAbs_mul, Int.natAbs_natCast]
      refine Nat.le_trans (sz_mono ?_) h2
      have : b.num.sign.natAbs = 1 := by rw [Int.natAbs_sign]; simp [h]
      rw [this, Nat.one_mul]; exact Nat.le_refl _
    · rw [Rat.den_inv, if_neg h]; exact h1

theorem mkRat_inv {b : Rat} (h : b.num ≠ 0) : mkRat (signed (decide (b.num.sign < 0)) b.den) b.num.natAbs = b⁻¹ := by
  have hd : b.num.natAbs ≠ 0 := by omega
  have hg : Nat.gcd (signed (decide (b.num.sign < 0)) b.den).natAbs b.num.natAbs = 1 := by rw [signed_abs]; exact b.reduced.symm
  refine Rat.ext ?_ ?_
  · rw [num_mkRat hd, hg, Rat.num_inv]
    rcases Int.lt_or_gt_of_ne h with h' | h'
    · rw [Int.sign_eq_neg_one_of_neg h']; simp [signed]
    · rw [Int.sign_eq_one_of_pos h']; simp [signed]
  · rw [den_mkRat hd, hg, Rat.den_inv, if_neg h]; simp

theorem c_fDiv (ok : NatOK M) (a b : Rat) (hb : b ≠ 0) (h : fsz a + fsz b ≤ M) : CallOK Tryd.prog 79 [.frac a, .frac b] [] (.tup [.frac (a / b), .val (.int .i64 0)]) [] [] := by
  have hn : b.num ≠ 0 := fun h => hb (Rat.num_eq_zero.1 h)
  have h1 := fsz_num b
  have h2 := fsz_den b
  have k1 := c_fSign b
  have k2 := c_den ok b (by omega)
  have k3 := c_From (decide (b.num.sign < 0)) b.den
  have k4 := c_Abs b.num
  have k5 := c_lowest ok (signed (decide (b.num.sign < 0)) b.den) b.num.natAbs (by rw [signed_abs]; omega) (by omega) (by omega)
  rw [mkRat_inv hn] at k5
  have k6 := c_fMul ok a b⁻¹ (by have := fsz_inv b; omega)
  rw [← Rat.div_def] at k6
  have hs : (b.num.sign == 0) = false := by simpa using hn
  refine callV tabOK mixedOK Tryd.func79 rfl (by kernel_rfl) rfl rfl (by kernel_rfl) rfl ?_
  intro W0 w0 ρ0 hE
  conv => whnf
  refine ⟨[], _, [], [], (k1), nil_fk, nil_new, nil_upd, ?_⟩; conv => whnf
  rw [hs]
  (repeat (first | (refine step_w1 rfl rfl ?_; conv => whnf) | (refine step_w2 rfl rfl ?_; conv => whnf) | (refine step_i (by kernel_rfl) ?_; conv => whnf) | (refine And.intro (by first | decide | omega) ?_; conv => whnf) | (refine ⟨[], _, [], [], (by assumption), nil_fk, nil_new, nil_upd, ?_⟩; conv => whnf) | (refine ⟨_, [], [], [], op_pickT rfl (ev_ok rfl) (ev_ok rfl), nil_fk, nil_new, nil_upd, ?_⟩; conv => whnf) | (refine ⟨_, [], [], [], op_pickF rfl (ev_ok rfl) (ev_ok rfl), nil_fk, nil_new, nil_upd, ?_⟩; conv => whnf) | (rw [beq_self_eq_true]; conv => whnf) | (rw [bne_self_eq_false]; conv => whnf))); exact Recast.refl _
theorem c_fDivZ (a : Rat) : CallOK Tryd.prog 79 [.frac a, .frac 0] [] (.tup [.frac 0, .val (.int .i64 5)]) [] [] := by
  have k1 := c_fSign 0
  refine callV tabOK mixedOK Tryd.func79 rfl (by kernel_rfl) rfl rfl (by kernel_rfl) rfl ?_
  intro W0 w0 ρ0 hE
  conv => whnf
  (repeat (first | (refine step_w1 rfl rfl ?_; conv => whnf) | (refine step_w2 rfl rfl ?_; conv => whnf) | (refine step_i (by kernel_rfl) ?_; conv => whnf) | (refine And.intro (by first | decide | omega) ?_; conv => whnf) | (refine ⟨[], _, [], [], (by assumption), nil_fk, nil_new, nil_upd, ?_⟩; conv => whnf) | (refine ⟨_, [], [], [], op_pickT rfl (ev_ok rfl) (ev_ok rfl), nil_fk, nil_new, nil_upd, ?_⟩; conv => whnf) | (refine ⟨_, [], [], [], op_pickF rfl (ev_ok rfl) (ev_ok rfl), nil_fk, nil_new, nil_upd, ?_⟩; conv => whnf) | (rw [beq_self_eq_true]; conv => whnf) | (rw [bne_self_eq_false]; conv => whnf))); exact Recast.refl _
theorem sz_i64 {n : Int} (h0 : -9223372036854775808 ≤ n) (h1 : n < 9223372036854775808) : sz n.natAbs ≤ 64 := sz_le.2 (by omega)
theorem fsz_int {n : Int} {k : Nat} (h : sz n.natAbs ≤ k) (hk : 1 ≤ k) : fsz (n : Rat) ≤ k := fsz_le h hk
theorem c_fOf (ok : NatOK M) (n d : Int) (hM : fsz (n : Rat) + fsz (d : Rat) ≤ M) (h0 : -9223372036854775808 ≤ n) (h1 : n < 9223372036854775808) (h2 : -9223372036854775808 ≤ d) (h3 : d < 9223372036854775808) (hd : d ≠ 0) :
    CallOK Tryd.prog 61 [.val (.int .i64 n), .val (.int .i64 d)] [] (.tup [.frac ((n : Rat) / (d : Rat)), .val (.int .i64 0)]) [] [] := by
  have k1 := c_fInt n h0 h1
  have k2 := c_fInt d h2 h3
  have k3 := c_fDiv ok (n : Rat) (d : Rat) (fun h => hd (by simpa using h)) hM
  refine callV tabOK mixedOK Tryd.func61 rfl (by kernel_rfl) rfl rfl (by kernel_rfl) rfl ?_
  intro W0 w0 ρ0 hE
  conv => whnf
  (repeat (first | (refine step_w1 rfl rfl ?_; conv => whnf) | (refine step_w2 rfl rfl ?_; conv => whnf) | (refine step_i (by kernel_rfl) ?_; conv => whnf) | (refine And.intro (by first | decide | omega) ?_; conv => whnf) | (refine ⟨[], _, [], [], (by assumption), nil_fk, nil_new, nil_upd, ?_⟩; conv => whnf) | (refine ⟨_, [], [], [], op_pickT rfl (ev_ok rfl) (ev_ok rfl), nil_fk, nil_new, nil_upd, ?_⟩; conv => whnf) | (refine ⟨_, [], [], [], op_pickF rfl (ev_ok rfl) (ev_ok rfl), nil_fk, nil_new, nil_upd, ?_⟩; conv => whnf) | (rw [beq_self_eq_true]; conv => whnf) | (rw [bne_self_eq_false]; conv => whnf))); exact Recast.refl _
end Go.Proofs.YtghdcjhlhcoijaaDoor
