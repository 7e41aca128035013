/- The texts Db, Ca, Cb, Cc, Cd, Ce, Cf, Dc, Ch, SxT, SxU, SxV, Ck, Cm, Cl, Ea, Eb, Ec. -/
import Derived.Laws.Externs
import Derived.Shelf.Abstract
import Derived.KernelRfl
import Derived.Laws.CopyRow
import Derived.Test.YtghdcjhlhcoijaaDoorQLModsRings2
/- fracs over nats, up to a number of binary digits. -/
namespace Go.Proofs.YtghdcjhlhcoijaaDoor
open Go.Sx
set_option linter.unusedSimpArgs false
set_option linter.unusedVariables false
set_option maxRecDepth 100000
set_option maxHeartbeats 2000000

/-- The greater of the sizes of numerator and denominator. -/
def fsz (q : Rat) : Nat := max (sz q.num.natAbs) (sz q.den)

theorem fsz_num (q : Rat) : sz q.num.natAbs ≤ fsz q := Nat.le_max_left _ _
theorem fsz_den (q : Rat) : sz q.den ≤ fsz q := Nat.le_max_right _ _
theorem fsz_le {q : Rat} {k : Nat} (h1 : sz q.num.natAbs ≤ k) (h2 : sz q.den ≤ k) : fsz q ≤ k := Nat.max_le.2 ⟨h1, h2⟩

theorem num_mkRat {n : Int} {d : Nat} (hd : d ≠ 0) : (mkRat n d).num = n / (Nat.gcd n.natAbs d : Nat) := by
  rw [← Rat.normalize_eq_mkRat hd, Rat.num_normalize]
theorem den_mkRat {n : Int} {d : Nat} (hd : d ≠ 0) : (mkRat n d).den = d / Nat.gcd n.natAbs d := by
  rw [← Rat.normalize_eq_mkRat hd, Rat.den_normalize]

theorem fsz_mkRat {n : Int} {d : Nat} {k : Nat} (hd : d ≠ 0) (h1 : sz n.natAbs ≤ k) (h2 : sz d ≤ k) : fsz (mkRat n d) ≤ k := by
  refine fsz_le ?_ ?_
  · rw [num_mkRat hd]
    refine Nat.le_trans (sz_mono ?_) h1
    rw [Int.natAbs_ediv_of_dvd (Int.ofNat_dvd_left.2 (Nat.gcd_dvd_left _ _)), Int.natAbs_natCast]
    exact Nat.div_le_self _ _
  · rw [den_mkRat hd]
    exact Nat.le_trans (sz_div _ _) h2

theorem fsz_add {a b : Rat} : fsz (a + b) ≤ fsz a + fsz b + 1 := by
  have ha := fsz_num a; have ha' := fsz_den a; have hb := fsz_num b; have hb' := fsz_den b
  rw [Rat.add_def']
  refine fsz_mkRat (Nat.mul_ne_zero a.den_nz b.den_nz) ?_ ?_
  · have h1 := sz_mul a.num.natAbs b.den
    have h2 := sz_mul b.num.natAbs a.den
    refine Nat.le_trans (sz_mono (Int.natAbs_add_le _ _)) (sz_add ?_ ?_)
    · rw [Int.natAbs_mul, Int.natAbs_natCast]; omega
    · rw [Int.natAbs_mul, Int.natAbs_natCast]; omega
  · have := sz_mul a.den b.den
    omega

theorem fsz_mul {a b : Rat} : fsz (a * b) ≤ fsz a + fsz b := by
  have ha := fsz_num a; have ha' := fsz_den a; have hb := fsz_num b; have hb' := fsz_den b
  rw [Rat.mul_def']
  refine fsz_mkRat (Nat.mul_ne_zero a.den_nz b.den_nz) ?_ ?_
  · have h1 := sz_mul a.num.natAbs b.num.natAbs
    rw [Int.natAbs_mul]; omega
  · have := sz_mul a.den b.den
    omega

theorem fsz_neg (a : Rat) : fsz (-a) = fsz a := by simp [fsz]
theorem fsz_sub {a b : Rat} : fsz (a - b) ≤ fsz a + fsz b + 1 := by
  rw [Rat.sub_eq_add_neg, ← fsz_neg b]; exact fsz_add

theorem den_pred (q : Rat) : q.den - 1 + 1 = q.den := by have := q.den_pos; omega
theorem sz_one_le (n : Nat) (h : n ≠ 0) : 1 ≤ sz n := sz_pos h

variable {M : Nat}

theorem c_nOf' {n : Nat} {x : Int} (hx : x = n) (hn : n < 18446744073709551616) : CallOK Tryd.prog 44 [.val (.int .u64 x)] [] (.nat n) [] [] := by
  subst hx; exact c_nOf n hn

theorem c_den (ok : NatOK M) (q : Rat) (h : sz q.den ≤ M) : CallOK Tryd.prog 58 [.frac q] [] (.nat q.den) [] [] := by
  refine callV (Z := []) tabOK mixedOK Tryd.func58 rfl (by kernel_rfl) rfl rfl (by kernel_rfl) rfl ?_
  intro W0 w0 ρ0 hE
  conv => whnf
  refine ⟨[], _, [], [], (c_nOf 1 (by decide)), nil_fk, nil_new, nil_upd, ?_⟩; conv => whnf
  have := ok.add (q.den - 1) 1 (by rw [den_pred]; exact h)
  rw [den_pred] at this
  refine ⟨[], _, [], [], (this), nil_fk, nil_new, nil_upd, ?_⟩; conv => whnf
  (repeat (first | (refine step_w1 rfl rfl ?_; conv => whnf) | (refine step_w2 rfl rfl ?_; conv => whnf) | (refine step_i (by kernel_rfl) ?_; conv => whnf) | (refine And.intro (by first | decide | omega | (simp only [tiB5, tiB22, tiB3, tiB2, tiB9, tiB55, tiB49, tiB28, tiB4, tiB66, tiB68]; omega)) ?_; conv => whnf) | (refine ⟨[], _, [], [], (by assumption), nil_fk, nil_new, nil_upd, ?_⟩; conv => whnf) | (refine ⟨[], _, [_], [], (by assumption), nil_fk, one_new rfl, nil_upd, ?_⟩; conv => whnf) | (refine ⟨[_], _, [], [], (by assumption), one_fk rfl, nil_new, nil_upd, ?_⟩; conv => whnf) | (refine ⟨[_, _], _, [], [], (by assumption), two_fk rfl rfl, nil_new, nil_upd, ?_⟩; conv => whnf) | (refine ⟨[_], _, [_], [], (by assumption), one_fk rfl, one_new rfl, nil_upd, ?_⟩; conv => whnf) | (refine ⟨[_], _, [], [_], (by assumption), one_fk rfl, nil_new, one_upd (List.mem_cons_self ..) rfl rfl rfl, ?_⟩; conv => whnf) | (refine ⟨[_, _], _, [], [_, _], (by assumption), two_fk rfl rfl, nil_new, two_upd (List.mem_cons_self ..) rfl rfl rfl (List.mem_cons_of_mem _ (List.mem_cons_self ..)) rfl rfl rfl, ?_⟩; conv => whnf) | (refine ⟨[_, _], _, [_, _], [], (by assumption), two_fk rfl rfl, two_new rfl rfl, nil_upd, ?_⟩; conv => whnf) | (refine ⟨_, [], [], [], op_pickT rfl (ev_ok rfl) (ev_ok rfl), nil_fk, nil_new, nil_upd, ?_⟩; conv => whnf) | (refine ⟨_, [], [], [], op_pickF rfl (ev_ok rfl) (ev_ok rfl), nil_fk, nil_new, nil_upd, ?_⟩; conv => whnf) | (rw [beq_self_eq_true]; conv => whnf) | (rw [bne_self_eq_false]; conv => whnf))); exact Recast.refl _

theorem recast_frac {x : Int} {y : Nat} {q : Rat} (hx : x = q.num) (hy : y = q.den - 1) : Recast (.agg [.int x, .nat y]) (.frac q) := by
  subst hx hy
  exact recast_flat (l := fracCells q) rfl rfl (fun _ h => by cases h)

theorem hasC_frac {x : Int} {y : Nat} {q : Rat} (hx : x = q.num) (hy : y = q.den - 1) : ∀ ρ v, HasC ρ (.agg [.int x, .nat y]) v → HasC ρ (.frac q) v := by
  subst hx hy
  exact hasC_flat (l := fracCells q) rfl rfl (fun _ h => by cases h)

theorem c_lowest (ok : NatOK M) (n : Int) (d : Nat) (h1 : sz n.natAbs ≤ M) (h2 : sz d ≤ M) (hd : d ≠ 0) :
    CallOK Tryd.prog 57 [.int n, .nat d] [] (.frac (mkRat n d)) [] [] := by
  have hb := ok.big
  have hg : Nat.gcd n.natAbs d ≠ 0 := fun h => hd (Nat.gcd_eq_zero_iff.1 h).2
  have hgs : sz (Nat.gcd n.natAbs d) ≤ M := Nat.le_trans (sz_gcd_r hd) h2
  have hq : d / Nat.gcd n.natAbs d ≠ 0 := Nat.div_ne_zero_iff.2 ⟨hg, Nat.le_of_dvd (by omega) (Nat.gcd_dvd_right _ _)⟩
  refine callV (Z := []) tabOK mixedOK Tryd.func57 rfl (by kernel_rfl) rfl rfl (by kernel_rfl) rfl ?_
  intro W0 w0 ρ0 hE
  conv => whnf
  refine ⟨[], _, [], [], (c_Abs n), nil_fk, nil_new, nil_upd, ?_⟩; conv => whnf
  refine ⟨[], _, [], [], (ok.gcd n.natAbs d h1 h2), nil_fk, nil_new, nil_upd, ?_⟩; conv => whnf
  (repeat (first | (refine step_w1 rfl rfl ?_; conv => whnf) | (refine step_w2 rfl rfl ?_; conv => whnf) | (refine step_i (by kernel_rfl) ?_; conv => whnf) | (refine And.intro (by first | decide | omega | (simp only [tiB5, tiB22, tiB3, tiB2, tiB9, tiB55, tiB49, tiB28, tiB4, tiB66, tiB68]; omega)) ?_; conv => whnf) | (refine ⟨[], _, [], [], (by assumption), nil_fk, nil_new, nil_upd, ?_⟩; conv => whnf) | (refine ⟨[], _, [_], [], (by assumption), nil_fk, one_new rfl, nil_upd, ?_⟩; conv => whnf) | (refine ⟨[_], _, [], [], (by assumption), one_fk rfl, nil_new, nil_upd, ?_⟩; conv => whnf) | (refine ⟨[_, _], _, [], [], (by assumption), two_fk rfl rfl, nil_new, nil_upd, ?_⟩; conv => whnf) | (refine ⟨[_], _, [_], [], (by assumption), one_fk rfl, one_new rfl, nil_upd, ?_⟩; conv => whnf) | (refine ⟨[_], _, [], [_], (by assumption), one_fk rfl, nil_new, one_upd (List.mem_cons_self ..) rfl rfl rfl, ?_⟩; conv => whnf) | (refine ⟨[_, _], _, [], [_, _], (by assumption), two_fk rfl rfl, nil_new, two_upd (List.mem_cons_self ..) rfl rfl rfl (List.mem_cons_of_mem _ (List.mem_cons_self ..)) rfl rfl rfl, ?_⟩; conv => whnf) | (refine ⟨[_, _], _, [_, _], [], (by assumption), two_fk rfl rfl, two_new rfl rfl, nil_upd, ?_⟩; conv => whnf) | (refine ⟨_, [], [], [], op_pickT rfl (ev_ok rfl) (ev_ok rfl), nil_fk, nil_new, nil_upd, ?_⟩; conv => whnf) | (refine ⟨_, [], [], [], op_pickF rfl (ev_ok rfl) (ev_ok rfl), nil_fk, nil_new, nil_upd, ?_⟩; conv => whnf) | (rw [beq_self_eq_true]; conv => whnf) | (rw [bne_self_eq_false]; conv => whnf)))
  refine ⟨[], _, [], [], (c_Abs n), nil_fk, nil_new, nil_upd, ?_⟩; conv => whnf
  refine ⟨[], _, [], [], (ok.div n.natAbs _ h1 hgs hg), nil_fk, nil_new, nil_upd, ?_⟩; conv => whnf
  (repeat (first | (refine step_w1 rfl rfl ?_; conv => whnf) | (refine step_w2 rfl rfl ?_; conv => whnf) | (refine step_i (by kernel_rfl) ?_; conv => whnf) | (refine And.intro (by first | decide | omega | (simp only [tiB5, tiB22, tiB3, tiB2, tiB9, tiB55, tiB49, tiB28, tiB4, tiB66, tiB68]; omega)) ?_; conv => whnf) | (refine ⟨[], _, [], [], (by assumption), nil_fk, nil_new, nil_upd, ?_⟩; conv => whnf) | (refine ⟨[], _, [_], [], (by assumption), nil_fk, one_new rfl, nil_upd, ?_⟩; conv => whnf) | (refine ⟨[_], _, [], [], (by assumption), one_fk rfl, nil_new, nil_upd, ?_⟩; conv => whnf) | (refine ⟨[_, _], _, [], [], (by assumption), two_fk rfl rfl, nil_new, nil_upd, ?_⟩; conv => whnf) | (refine ⟨[_], _, [_], [], (by assumption), one_fk rfl, one_new rfl, nil_upd, ?_⟩; conv => whnf) | (refine ⟨[_], _, [], [_], (by assumption), one_fk rfl, nil_new, one_upd (List.mem_cons_self ..) rfl rfl rfl, ?_⟩; conv => whnf) | (refine ⟨[_, _], _, [], [_, _], (by assumption), two_fk rfl rfl, nil_new, two_upd (List.mem_cons_self ..) rfl rfl rfl (List.mem_cons_of_mem _ (List.mem_cons_self ..)) rfl rfl rfl, ?_⟩; conv => whnf) | (refine ⟨[_, _], _, [_, _], [], (by assumption), two_fk rfl rfl, two_new rfl rfl, nil_upd, ?_⟩; conv => whnf) | (refine ⟨_, [], [], [], op_pickT rfl (ev_ok rfl) (ev_ok rfl), nil_fk, nil_new, nil_upd, ?_⟩; conv => whnf) | (refine ⟨_, [], [], [], op_pickF rfl (ev_ok rfl) (ev_ok rfl), nil_fk, nil_new, nil_upd, ?_⟩; conv => whnf) | (rw [beq_self_eq_true]; conv => whnf) | (rw [bne_self_eq_false]; conv => whnf)))
  refine ⟨[], _, [], [], (ok.div d _ h2 hgs hg), nil_fk, nil_new, nil_upd, ?_⟩; conv => whnf
  (repeat (first | (refine step_w1 rfl rfl ?_; conv => whnf) | (refine step_w2 rfl rfl ?_; conv => whnf) | (refine step_i (by kernel_rfl) ?_; conv => whnf) | (refine And.intro (by first | decide | omega | (simp only [tiB5, tiB22, tiB3, tiB2, tiB9, tiB55, tiB49, tiB28, tiB4, tiB66, tiB68]; omega)) ?_; conv => whnf) | (refine ⟨[], _, [], [], (by assumption), nil_fk, nil_new, nil_upd, ?_⟩; conv => whnf) | (refine ⟨[], _, [_], [], (by assumption), nil_fk, one_new rfl, nil_upd, ?_⟩; conv => whnf) | (refine ⟨[_], _, [], [], (by assumption), one_fk rfl, nil_new, nil_upd, ?_⟩; conv => whnf) | (refine ⟨[_, _], _, [], [], (by assumption), two_fk rfl rfl, nil_new, nil_upd, ?_⟩; conv => whnf) | (refine ⟨[_], _, [_], [], (by assumption), one_fk rfl, one_new rfl, nil_upd, ?_⟩; conv => whnf) | (refine ⟨[_], _, [], [_], (by assumption), one_fk rfl, nil_new, one_upd (List.mem_cons_self ..) rfl rfl rfl, ?_⟩; conv => whnf) | (refine ⟨[_, _], _, [], [_, _], (by assumption), two_fk rfl rfl, nil_new, two_upd (List.mem_cons_self ..) rfl rfl rfl (List.mem_cons_of_mem _ (List.mem_cons_self ..)) rfl rfl rfl, ?_⟩; conv => whnf) | (refine ⟨[_, _], _, [_, _], [], (by assumption), two_fk rfl rfl, two_new rfl rfl, nil_upd, ?_⟩; conv => whnf) | (refine ⟨_, [], [], [], op_pickT rfl (ev_ok rfl) (ev_ok rfl), nil_fk, nil_new, nil_upd, ?_⟩; conv => whnf) | (refine ⟨_, [], [], [], op_pickF rfl (ev_ok rfl) (ev_ok rfl), nil_fk, nil_new, nil_upd, ?_⟩; conv => whnf) | (rw [beq_self_eq_true]; conv => whnf) | (rw [bne_self_eq_false]; conv => whnf)))
  refine ⟨[], _, [], [], (c_nOf 1 (by decide)), nil_fk, nil_new, nil_upd, ?_⟩; conv => whnf
  refine ⟨[], _, [], [], (ok.sub _ 1 (Nat.le_trans (sz_div _ _) h2) (Nat.pos_of_ne_zero hq)), nil_fk, nil_new, nil_upd, ?_⟩; conv => whnf
  (repeat (first | (refine step_w1 rfl rfl ?_; conv => whnf) | (refine step_w2 rfl rfl ?_; conv => whnf) | (refine step_i (by kernel_rfl) ?_; conv => whnf) | (refine And.intro (by first | decide | omega | (simp only [tiB5, tiB22, tiB3, tiB2, tiB9, tiB55, tiB49, tiB28, tiB4, tiB66, tiB68]; omega)) ?_; conv => whnf) | (refine ⟨[], _, [], [], (by assumption), nil_fk, nil_new, nil_upd, ?_⟩; conv => whnf) | (refine ⟨[], _, [_], [], (by assumption), nil_fk, one_new rfl, nil_upd, ?_⟩; conv => whnf) | (refine ⟨[_], _, [], [], (by assumption), one_fk rfl, nil_new, nil_upd, ?_⟩; conv => whnf) | (refine ⟨[_, _], _, [], [], (by assumption), two_fk rfl rfl, nil_new, nil_upd, ?_⟩; conv => whnf) | (refine ⟨[_], _, [_], [], (by assumption), one_fk rfl, one_new rfl, nil_upd, ?_⟩; conv => whnf) | (refine ⟨[_], _, [], [_], (by assumption), one_fk rfl, nil_new, one_upd (List.mem_cons_self ..) rfl rfl rfl, ?_⟩; conv => whnf) | (refine ⟨[_, _], _, [], [_, _], (by assumption), two_fk rfl rfl, nil_new, two_upd (List.mem_cons_self ..) rfl rfl rfl (List.mem_cons_of_mem _ (List.mem_cons_self ..)) rfl rfl rfl, ?_⟩; conv => whnf) | (refine ⟨[_, _], _, [_, _], [], (by assumption), two_fk rfl rfl, two_new rfl rfl, nil_upd, ?_⟩; conv => whnf) | (refine ⟨_, [], [], [], op_pickT rfl (ev_ok rfl) (ev_ok rfl), nil_fk, nil_new, nil_upd, ?_⟩; conv => whnf) | (refine ⟨_, [], [], [], op_pickF rfl (ev_ok rfl) (ev_ok rfl), nil_fk, nil_new, nil_upd, ?_⟩; conv => whnf) | (rw [beq_self_eq_true]; conv => whnf) | (rw [bne_self_eq_false]; conv => whnf)))
  refine ⟨[], _, [], [], (c_Sign n), nil_fk, nil_new, nil_upd, ?_⟩; conv => whnf
  have e : signed (decide (n.sign < 0)) (n.natAbs / Nat.gcd n.natAbs d) = (mkRat n d).num := by
    rw [num_mkRat hd]
    have hdv : Nat.gcd n.natAbs d ∣ n.natAbs := Nat.gcd_dvd_left _ _
    unfold signed
    by_cases hn : n < 0
    · rw [Int.sign_eq_neg_one_of_neg hn]
      simp only [show decide ((-1 : Int) < 0) = true from rfl, if_true]
      have : n = -(n.natAbs : Int) := by omega
      rw [Int.natCast_ediv, ← Int.neg_ediv_of_dvd (Int.natCast_dvd_natCast.2 hdv), ← this]
    · have : ¬ n.sign < 0 := fun h => hn (Int.sign_neg_iff.1 h)
      rw [decide_eq_false this]
      simp only [Bool.false_eq_true, if_false]
      have : n = (n.natAbs : Int) := by omega
      rw [Int.natCast_ediv, ← this]
  have hf := c_From (decide (n.sign < 0)) (n.natAbs / Nat.gcd n.natAbs d)
  rw [e] at hf
  refine ⟨[], _, [], [], (hf), nil_fk, nil_new, nil_upd, ?_⟩; conv => whnf
  (repeat (first | (refine step_w1 rfl rfl ?_; conv => whnf) | (refine step_w2 rfl rfl ?_; conv => whnf) | (refine step_i (by kernel_rfl) ?_; conv => whnf) | (refine And.intro (by first | decide | omega | (simp only [tiB5, tiB22, tiB3, tiB2, tiB9, tiB55, tiB49, tiB28, tiB4, tiB66, tiB68]; omega)) ?_; conv => whnf) | (refine ⟨[], _, [], [], (by assumption), nil_fk, nil_new, nil_upd, ?_⟩; conv => whnf) | (refine ⟨[], _, [_], [], (by assumption), nil_fk, one_new rfl, nil_upd, ?_⟩; conv => whnf) | (refine ⟨[_], _, [], [], (by assumption), one_fk rfl, nil_new, nil_upd, ?_⟩; conv => whnf) | (refine ⟨[_, _], _, [], [], (by assumption), two_fk rfl rfl, nil_new, nil_upd, ?_⟩; conv => whnf) | (refine ⟨[_], _, [_], [], (by assumption), one_fk rfl, one_new rfl, nil_upd, ?_⟩; conv => whnf) | (refine ⟨[_], _, [], [_], (by assumption), one_fk rfl, nil_new, one_upd (List.mem_cons_self ..) rfl rfl rfl, ?_⟩; conv => whnf) | (refine ⟨[_, _], _, [], [_, _], (by assumption), two_fk rfl rfl, nil_new, two_upd (List.mem_cons_self ..) rfl rfl rfl (List.mem_cons_of_mem _ (List.mem_cons_self ..)) rfl rfl rfl, ?_⟩; conv => whnf) | (refine ⟨[_, _], _, [_, _], [], (by assumption), two_fk rfl rfl, two_new rfl rfl, nil_upd, ?_⟩; conv => whnf) | (refine ⟨_, [], [], [], op_pickT rfl (ev_ok rfl) (ev_ok rfl), nil_fk, nil_new, nil_upd, ?_⟩; conv => whnf) | (refine ⟨_, [], [], [], op_pickF rfl (ev_ok rfl) (ev_ok rfl), nil_fk, nil_new, nil_upd, ?_⟩; conv => whnf) | (rw [beq_self_eq_true]; conv => whnf) | (rw [bne_self_eq_false]; conv => whnf)))
  exact recast_frac rfl (by rw [den_mkRat hd])

theorem c_whole (n : Int) : CallOK Tryd.prog 56 [.int n] [] (.frac n) [] [] := by
  refine callV (Z := []) tabOK mixedOK Tryd.func56 rfl (by kernel_rfl) rfl rfl (by kernel_rfl) rfl ?_
  intro W0 w0 ρ0 hE
  conv => whnf
  (repeat (first | (refine step_w1 rfl rfl ?_; conv => whnf) | (refine step_w2 rfl rfl ?_; conv => whnf) | (refine step_i (by kernel_rfl) ?_; conv => whnf) | (refine And.intro (by first | decide | omega | (simp only [tiB5, tiB22, tiB3, tiB2, tiB9, tiB55, tiB49, tiB28, tiB4, tiB66, tiB68]; omega)) ?_; conv => whnf) | (refine ⟨[], _, [], [], (by assumption), nil_fk, nil_new, nil_upd, ?_⟩; conv => whnf) | (refine ⟨[], _, [_], [], (by assumption), nil_fk, one_new rfl, nil_upd, ?_⟩; conv => whnf) | (refine ⟨[_], _, [], [], (by assumption), one_fk rfl, nil_new, nil_upd, ?_⟩; conv => whnf) | (refine ⟨[_, _], _, [], [], (by assumption), two_fk rfl rfl, nil_new, nil_upd, ?_⟩; conv => whnf) | (refine ⟨[_], _, [_], [], (by assumption), one_fk rfl, one_new rfl, nil_upd, ?_⟩; conv => whnf) | (refine ⟨[_], _, [], [_], (by assumption), one_fk rfl, nil_new, one_upd (List.mem_cons_self ..) rfl rfl rfl, ?_⟩; conv => whnf) | (refine ⟨[_, _], _, [], [_, _], (by assumption), two_fk rfl rfl, nil_new, two_upd (List.mem_cons_self ..) rfl rfl rfl (List.mem_cons_of_mem _ (List.mem_cons_self ..)) rfl rfl rfl, ?_⟩; conv => whnf) | (refine ⟨[_, _], _, [_, _], [], (by assumption), two_fk rfl rfl, two_new rfl rfl, nil_upd, ?_⟩; conv => whnf) | (refine ⟨_, [], [], [], op_pickT rfl (ev_ok rfl) (ev_ok rfl), nil_fk, nil_new, nil_upd, ?_⟩; conv => whnf) | (refine ⟨_, [], [], [], op_pickF rfl (ev_ok rfl) (ev_ok rfl), nil_fk, nil_new, nil_upd, ?_⟩; conv => whnf) | (rw [beq_self_eq_true]; conv => whnf) | (rw [bne_self_eq_false]; conv => whnf)))
  exact recast_frac rfl rfl
theorem c_fInt (n : Int) (h0 : -9223372036854775808 ≤ n) (h1 : n < 9223372036854775808) : CallOK Tryd.prog 80 [.val (.int .i64 n)] [] (.frac n) [] [] := by
  refine callV (Z := []) tabOK mixedOK Tryd.func80 rfl (by kernel_rfl) rfl rfl (by kernel_rfl) rfl ?_
  intro W0 w0 ρ0 hE
  conv => whnf
  refine ⟨[], _, [], [], (c_iOf n h0 h1), nil_fk, nil_new, nil_upd, ?_⟩; conv => whnf
  refine ⟨[], _, [], [], (c_whole n), nil_fk, nil_new, nil_upd, ?_⟩; conv => whnf
  (repeat (first | (refine step_w1 rfl rfl ?_; conv => whnf) | (refine step_w2 rfl rfl ?_; conv => whnf) | (refine step_i (by kernel_rfl) ?_; conv => whnf) | (refine And.intro (by first | decide | omega | (simp only [tiB5, tiB22, tiB3, tiB2, tiB9, tiB55, tiB49, tiB28, tiB4, tiB66, tiB68]; omega)) ?_; conv => whnf) | (refine ⟨[], _, [], [], (by assumption), nil_fk, nil_new, nil_upd, ?_⟩; conv => whnf) | (refine ⟨[], _, [_], [], (by assumption), nil_fk, one_new rfl, nil_upd, ?_⟩; conv => whnf) | (refine ⟨[_], _, [], [], (by assumption), one_fk rfl, nil_new, nil_upd, ?_⟩; conv => whnf) | (refine ⟨[_, _], _, [], [], (by assumption), two_fk rfl rfl, nil_new, nil_upd, ?_⟩; conv => whnf) | (refine ⟨[_], _, [_], [], (by assumption), one_fk rfl, one_new rfl, nil_upd, ?_⟩; conv => whnf) | (refine ⟨[_], _, [], [_], (by assumption), one_fk rfl, nil_new, one_upd (List.mem_cons_self ..) rfl rfl rfl, ?_⟩; conv => whnf) | (refine ⟨[_, _], _, [], [_, _], (by assumption), two_fk rfl rfl, nil_new, two_upd (List.mem_cons_self ..) rfl rfl rfl (List.mem_cons_of_mem _ (List.mem_cons_self ..)) rfl rfl rfl, ?_⟩; conv => whnf) | (refine ⟨[_, _], _, [_, _], [], (by assumption), two_fk rfl rfl, two_new rfl rfl, nil_upd, ?_⟩; conv => whnf) | (refine ⟨_, [], [], [], op_pickT rfl (ev_ok rfl) (ev_ok rfl), nil_fk, nil_new, nil_upd, ?_⟩; conv => whnf) | (refine ⟨_, [], [], [], op_pickF rfl (ev_ok rfl) (ev_ok rfl), nil_fk, nil_new, nil_upd, ?_⟩; conv => whnf) | (rw [beq_self_eq_true]; conv => whnf) | (rw [bne_self_eq_false]; conv => whnf))); exact Recast.refl _
theorem c_Num (q : Rat) : CallOK Tryd.prog 54 [.frac q] [] (.int q.num) [] [] := by
  refine callV (Z := []) tabOK mixedOK Tryd.func54 rfl (by kernel_rfl) rfl rfl (by kernel_rfl) rfl ?_
  intro W0 w0 ρ0 hE
  conv => whnf
  (repeat (first | (refine step_w1 rfl rfl ?_; conv => whnf) | (refine step_w2 rfl rfl ?_; conv => whnf) | (refine step_i (by kernel_rfl) ?_; conv => whnf) | (refine And.intro (by first | decide | omega | (simp only [tiB5, tiB22, tiB3, tiB2, tiB9, tiB55, tiB49, tiB28, tiB4, tiB66, tiB68]; omega)) ?_; conv => whnf) | (refine ⟨[], _, [], [], (by assumption), nil_fk, nil_new, nil_upd, ?_⟩; conv => whnf) | (refine ⟨[], _, [_], [], (by assumption), nil_fk, one_new rfl, nil_upd, ?_⟩; conv => whnf) | (refine ⟨[_], _, [], [], (by assumption), one_fk rfl, nil_new, nil_upd, ?_⟩; conv => whnf) | (refine ⟨[_, _], _, [], [], (by assumption), two_fk rfl rfl, nil_new, nil_upd, ?_⟩; conv => whnf) | (refine ⟨[_], _, [_], [], (by assumption), one_fk rfl, one_new rfl, nil_upd, ?_⟩; conv => whnf) | (refine ⟨[_], _, [], [_], (by assumption), one_fk rfl, nil_new, one_upd (List.mem_cons_self ..) rfl rfl rfl, ?_⟩; conv => whnf) | (refine ⟨[_, _], _, [], [_, _], (by assumption), two_fk rfl rfl, nil_new, two_upd (List.mem_cons_self ..) rfl rfl rfl (List.mem_cons_of_mem _ (List.mem_cons_self ..)) rfl rfl rfl, ?_⟩; conv => whnf) | (refine ⟨[_, _], _, [_, _], [], (by assumption), two_fk rfl rfl, two_new rfl rfl, nil_upd, ?_⟩; conv => whnf) | (refine ⟨_, [], [], [], op_pickT rfl (ev_ok rfl) (ev_ok rfl), nil_fk, nil_new, nil_upd, ?_⟩; conv => whnf) | (refine ⟨_, [], [], [], op_pickF rfl (ev_ok rfl) (ev_ok rfl), nil_fk, nil_new, nil_upd, ?_⟩; conv => whnf) | (rw [beq_self_eq_true]; conv => whnf) | (rw [bne_self_eq_false]; conv => whnf)))
  exact recast_flat (l := intCells q.num) rfl rfl (fun _ h => by cases h)
theorem c_Den (ok : NatOK M) (q : Rat) (h : sz q.den ≤ M) : CallOK Tryd.prog 53 [.frac q] [] (.nat q.den) [] [] := by
  refine callV (Z := []) tabOK mixedOK Tryd.func53 rfl (by kernel_rfl) rfl rfl (by kernel_rfl) rfl ?_
  intro W0 w0 ρ0 hE
  conv => whnf
  refine ⟨[], _, [], [], (c_den ok q h), nil_fk, nil_new, nil_upd, ?_⟩; conv => whnf
  (repeat (first | (refine step_w1 rfl rfl ?_; conv => whnf) | (refine step_w2 rfl rfl ?_; conv => whnf) | (refine step_i (by kernel_rfl) ?_; conv => whnf) | (refine And.intro (by first | decide | omega | (simp only [tiB5, tiB22, tiB3, tiB2, tiB9, tiB55, tiB49, tiB28, tiB4, tiB66, tiB68]; omega)) ?_; conv => whnf) | (refine ⟨[], _, [], [], (by assumption), nil_fk, nil_new, nil_upd, ?_⟩; conv => whnf) | (refine ⟨[], _, [_], [], (by assumption), nil_fk, one_new rfl, nil_upd, ?_⟩; conv => whnf) | (refine ⟨[_], _, [], [], (by assumption), one_fk rfl, nil_new, nil_upd, ?_⟩; conv => whnf) | (refine ⟨[_, _], _, [], [], (by assumption), two_fk rfl rfl, nil_new, nil_upd, ?_⟩; conv => whnf) | (refine ⟨[_], _, [_], [], (by assumption), one_fk rfl, one_new rfl, nil_upd, ?_⟩; conv => whnf) | (refine ⟨[_], _, [], [_], (by assumption), one_fk rfl, nil_new, one_upd (List.mem_cons_self ..) rfl rfl rfl, ?_⟩; conv => whnf) | (refine ⟨[_, _], _, [], [_, _], (by assumption), two_fk rfl rfl, nil_new, two_upd (List.mem_cons_self ..) rfl rfl rfl (List.mem_cons_of_mem _ (List.mem_cons_self ..)) rfl rfl rfl, ?_⟩; conv => whnf) | (refine ⟨[_, _], _, [_, _], [], (by assumption), two_fk rfl rfl, two_new rfl rfl, nil_upd, ?_⟩; conv => whnf) | (refine ⟨_, [], [], [], op_pickT rfl (ev_ok rfl) (ev_ok rfl), nil_fk, nil_new, nil_upd, ?_⟩; conv => whnf) | (refine ⟨_, [], [], [], op_pickF rfl (ev_ok rfl) (ev_ok rfl), nil_fk, nil_new, nil_upd, ?_⟩; conv => whnf) | (rw [beq_self_eq_true]; conv => whnf) | (rw [bne_self_eq_false]; conv => whnf))); exact Recast.refl _
theorem c_Whole (q : Rat) : CallOK Tryd.prog 55 [.frac q] [] (.val (.bool (decide (q.den = 1)))) [] [] := by
  refine callV (Z := []) tabOK mixedOK Tryd.func55 rfl (by kernel_rfl) rfl rfl (by kernel_rfl) rfl ?_
  intro W0 w0 ρ0 hE
  conv => whnf
  (repeat (first | (refine step_w1 rfl rfl ?_; conv => whnf) | (refine step_w2 rfl rfl ?_; conv => whnf) | (refine step_i (by kernel_rfl) ?_; conv => whnf) | (refine And.intro (by first | decide | omega | (simp only [tiB5, tiB22, tiB3, tiB2, tiB9, tiB55, tiB49, tiB28, tiB4, tiB66, tiB68]; omega)) ?_; conv => whnf) | (refine ⟨[], _, [], [], (by assumption), nil_fk, nil_new, nil_upd, ?_⟩; conv => whnf) | (refine ⟨[], _, [_], [], (by assumption), nil_fk, one_new rfl, nil_upd, ?_⟩; conv => whnf) | (refine ⟨[_], _, [], [], (by assumption), one_fk rfl, nil_new, nil_upd, ?_⟩; conv => whnf) | (refine ⟨[_, _], _, [], [], (by assumption), two_fk rfl rfl, nil_new, nil_upd, ?_⟩; conv => whnf) | (refine ⟨[_], _, [_], [], (by assumption), one_fk rfl, one_new rfl, nil_upd, ?_⟩; conv => whnf) | (refine ⟨[_], _, [], [_], (by assumption), one_fk rfl, nil_new, one_upd (List.mem_cons_self ..) rfl rfl rfl, ?_⟩; conv => whnf) | (refine ⟨[_, _], _, [], [_, _], (by assumption), two_fk rfl rfl, nil_new, two_upd (List.mem_cons_self ..) rfl rfl rfl (List.mem_cons_of_mem _ (List.mem_cons_self ..)) rfl rfl rfl, ?_⟩; conv => whnf) | (refine ⟨[_, _], _, [_, _], [], (by assumption), two_fk rfl rfl, two_new rfl rfl, nil_upd, ?_⟩; conv => whnf) | (refine ⟨_, [], [], [], op_pickT rfl (ev_ok rfl) (ev_ok rfl), nil_fk, nil_new, nil_upd, ?_⟩; conv => whnf) | (refine ⟨_, [], [], [], op_pickF rfl (ev_ok rfl) (ev_ok rfl), nil_fk, nil_new, nil_upd, ?_⟩; conv => whnf) | (rw [beq_self_eq_true]; conv => whnf) | (rw [bne_self_eq_false]; conv => whnf)))
  refine ⟨_, op_eqAgg tabOK goodOK rfl (ev_ok rfl) (ev_ok rfl) rfl rfl rfl rfl (eqTy_nat (q.den - 1) 0) guard_nat, ?_⟩
  have := q.den_pos
  rw [show decide (q.den - 1 = 0) = decide (q.den = 1) from decide_eq_decide.2 (by omega)]
  conv => whnf
  (repeat (first | (refine step_w1 rfl rfl ?_; conv => whnf) | (refine step_w2 rfl rfl ?_; conv => whnf) | (refine step_i (by kernel_rfl) ?_; conv => whnf) | (refine And.intro (by first | decide | omega | (simp only [tiB5, tiB22, tiB3, tiB2, tiB9, tiB55, tiB49, tiB28, tiB4, tiB66, tiB68]; omega)) ?_; conv => whnf) | (refine ⟨[], _, [], [], (by assumption), nil_fk, nil_new, nil_upd, ?_⟩; conv => whnf) | (refine ⟨[], _, [_], [], (by assumption), nil_fk, one_new rfl, nil_upd, ?_⟩; conv => whnf) | (refine ⟨[_], _, [], [], (by assumption), one_fk rfl, nil_new, nil_upd, ?_⟩; conv => whnf) | (refine ⟨[_, _], _, [], [], (by assumption), two_fk rfl rfl, nil_new, nil_upd, ?_⟩; conv => whnf) | (refine ⟨[_], _, [_], [], (by assumption), one_fk rfl, one_new rfl, nil_upd, ?_⟩; conv => whnf) | (refine ⟨[_], _, [], [_], (by assumption), one_fk rfl, nil_new, one_upd (List.mem_cons_self ..) rfl rfl rfl, ?_⟩; conv => whnf) | (refine ⟨[_, _], _, [], [_, _], (by assumption), two_fk rfl rfl, nil_new, two_upd (List.mem_cons_self ..) rfl rfl rfl (List.mem_cons_of_mem _ (List.mem_cons_self ..)) rfl rfl rfl, ?_⟩; conv => whnf) | (refine ⟨[_, _], _, [_, _], [], (by assumption), two_fk rfl rfl, two_new rfl rfl, nil_upd, ?_⟩; conv => whnf) | (refine ⟨_, [], [], [], op_pickT rfl (ev_ok rfl) (ev_ok rfl), nil_fk, nil_new, nil_upd, ?_⟩; conv => whnf) | (refine ⟨_, [], [], [], op_pickF rfl (ev_ok rfl) (ev_ok rfl), nil_fk, nil_new, nil_upd, ?_⟩; conv => whnf) | (rw [beq_self_eq_true]; conv => whnf) | (rw [bne_self_eq_false]; conv => whnf))); exact Recast.refl _
theorem c_fSign (q : Rat) : CallOK Tryd.prog 91 [.frac q] [] (.val (.int .i64 q.num.sign)) [] [] := by
  refine callV (Z := []) tabOK mixedOK Tryd.func91 rfl (by kernel_rfl) rfl rfl (by kernel_rfl) rfl ?_
  intro W0 w0 ρ0 hE
  conv => whnf
  (repeat (first | (refine step_w1 rfl rfl ?_; conv => whnf) | (refine step_w2 rfl rfl ?_; conv => whnf) | (refine step_i (by kernel_rfl) ?_; conv => whnf) | (refine And.intro (by first | decide | omega | (simp only [tiB5, tiB22, tiB3, tiB2, tiB9, tiB55, tiB49, tiB28, tiB4, tiB66, tiB68]; omega)) ?_; conv => whnf) | (refine ⟨[], _, [], [], (by assumption), nil_fk, nil_new, nil_upd, ?_⟩; conv => whnf) | (refine ⟨[], _, [_], [], (by assumption), nil_fk, one_new rfl, nil_upd, ?_⟩; conv => whnf) | (refine ⟨[_], _, [], [], (by assumption), one_fk rfl, nil_new, nil_upd, ?_⟩; conv => whnf) | (refine ⟨[_, _], _, [], [], (by assumption), two_fk rfl rfl, nil_new, nil_upd, ?_⟩; conv => whnf) | (refine ⟨[_], _, [_], [], (by assumption), one_fk rfl, one_new rfl, nil_upd, ?_⟩; conv => whnf) | (refine ⟨[_], _, [], [_], (by assumption), one_fk rfl, nil_new, one_upd (List.mem_cons_self ..) rfl rfl rfl, ?_⟩; conv => whnf) | (refine ⟨[_, _], _, [], [_, _], (by assumption), two_fk rfl rfl, nil_new, two_upd (List.mem_cons_self ..) rfl rfl rfl (List.mem_cons_of_mem _ (List.mem_cons_self ..)) rfl rfl rfl, ?_⟩; conv => whnf) | (refine ⟨[_, _], _, [_, _], [], (by assumption), two_fk rfl rfl, two_new rfl rfl, nil_upd, ?_⟩; conv => whnf) | (refine ⟨_, [], [], [], op_pickT rfl (ev_ok rfl) (ev_ok rfl), nil_fk, nil_new, nil_upd, ?_⟩; conv => whnf) | (refine ⟨_, [], [], [], op_pickF rfl (ev_ok rfl) (ev_ok rfl), nil_fk, nil_new, nil_upd, ?_⟩; conv => whnf) | (rw [beq_self_eq_true]; conv => whnf) | (rw [bne_self_eq_false]; conv => whnf)))
  refine ⟨[], _, [], [], (c_Sign q.num), nil_fk, nil_new, nil_upd, ?_⟩; conv => whnf
  (repeat (first | (refine step_w1 rfl rfl ?_; conv => whnf) | (refine step_w2 rfl rfl ?_; conv => whnf) | (refine step_i (by kernel_rfl) ?_; conv => whnf) | (refine And.intro (by first | decide | omega | (simp only [tiB5, tiB22, tiB3, tiB2, tiB9, tiB55, tiB49, tiB28, tiB4, tiB66, tiB68]; omega)) ?_; conv => whnf) | (refine ⟨[], _, [], [], (by assumption), nil_fk, nil_new, nil_upd, ?_⟩; conv => whnf) | (refine ⟨[], _, [_], [], (by assumption), nil_fk, one_new rfl, nil_upd, ?_⟩; conv => whnf) | (refine ⟨[_], _, [], [], (by assumption), one_fk rfl, nil_new, nil_upd, ?_⟩; conv => whnf) | (refine ⟨[_, _], _, [], [], (by assumption), two_fk rfl rfl, nil_new, nil_upd, ?_⟩; conv => whnf) | (refine ⟨[_], _, [_], [], (by assumption), one_fk rfl, one_new rfl, nil_upd, ?_⟩; conv => whnf) | (refine ⟨[_], _, [], [_], (by assumption), one_fk rfl, nil_new, one_upd (List.mem_cons_self ..) rfl rfl rfl, ?_⟩; conv => whnf) | (refine ⟨[_, _], _, [], [_, _], (by assumption), two_fk rfl rfl, nil_new, two_upd (List.mem_cons_self ..) rfl rfl rfl (List.mem_cons_of_mem _ (List.mem_cons_self ..)) rfl rfl rfl, ?_⟩; conv => whnf) | (refine ⟨[_, _], _, [_, _], [], (by assumption), two_fk rfl rfl, two_new rfl rfl, nil_upd, ?_⟩; conv => whnf) | (refine ⟨_, [], [], [], op_pickT rfl (ev_ok rfl) (ev_ok rfl), nil_fk, nil_new, nil_upd, ?_⟩; conv => whnf) | (refine ⟨_, [], [], [], op_pickF rfl (ev_ok rfl) (ev_ok rfl), nil_fk, nil_new, nil_upd, ?_⟩; conv => whnf) | (rw [beq_self_eq_true]; conv => whnf) | (rw [bne_self_eq_false]; conv => whnf))); exact Recast.refl _
theorem c_signed (ok : NatOK M) (q : Rat) (h : sz q.den ≤ M) : CallOK Tryd.prog 59 [.frac q] [] (.int q.den) [] [] := by
  refine callV (Z := []) tabOK mixedOK Tryd.func59 rfl (by kernel_rfl) rfl rfl (by kernel_rfl) rfl ?_
  intro W0 w0 ρ0 hE
  conv => whnf
  refine ⟨[], _, [], [], (c_den ok q h), nil_fk, nil_new, nil_upd, ?_⟩; conv => whnf
  refine ⟨[], _, [], [], (c_From false q.den), nil_fk, nil_new, nil_upd, ?_⟩; conv => whnf
  rw [show signed false q.den = (q.den : Int) from rfl]
  (repeat (first | (refine step_w1 rfl rfl ?_; conv => whnf) | (refine step_w2 rfl rfl ?_; conv => whnf) | (refine step_i (by kernel_rfl) ?_; conv => whnf) | (refine And.intro (by first | decide | omega | (simp only [tiB5, tiB22, tiB3, tiB2, tiB9, tiB55, tiB49, tiB28, tiB4, tiB66, tiB68]; omega)) ?_; conv => whnf) | (refine ⟨[], _, [], [], (by assumption), nil_fk, nil_new, nil_upd, ?_⟩; conv => whnf) | (refine ⟨[], _, [_], [], (by assumption), nil_fk, one_new rfl, nil_upd, ?_⟩; conv => whnf) | (refine ⟨[_], _, [], [], (by assumption), one_fk rfl, nil_new, nil_upd, ?_⟩; conv => whnf) | (refine ⟨[_, _], _, [], [], (by assumption), two_fk rfl rfl, nil_new, nil_upd, ?_⟩; conv => whnf) | (refine ⟨[_], _, [_], [], (by assumption), one_fk rfl, one_new rfl, nil_upd, ?_⟩; conv => whnf) | (refine ⟨[_], _, [], [_], (by assumption), one_fk rfl, nil_new, one_upd (List.mem_cons_self ..) rfl rfl rfl, ?_⟩; conv => whnf) | (refine ⟨[_, _], _, [], [_, _], (by assumption), two_fk rfl rfl, nil_new, two_upd (List.mem_cons_self ..) rfl rfl rfl (List.mem_cons_of_mem _ (List.mem_cons_self ..)) rfl rfl rfl, ?_⟩; conv => whnf) | (refine ⟨[_, _], _, [_, _], [], (by assumption), two_fk rfl rfl, two_new rfl rfl, nil_upd, ?_⟩; conv => whnf) | (refine ⟨_, [], [], [], op_pickT rfl (ev_ok rfl) (ev_ok rfl), nil_fk, nil_new, nil_upd, ?_⟩; conv => whnf) | (refine ⟨_, [], [], [], op_pickF rfl (ev_ok rfl) (ev_ok rfl), nil_fk, nil_new, nil_upd, ?_⟩; conv => whnf) | (rw [beq_self_eq_true]; conv => whnf) | (rw [bne_self_eq_false]; conv => whnf))); exact Recast.refl _

theorem int_of_den {q : Rat} (h : q.den = 1) : q = (q.num : Rat) := Rat.ext rfl h

theorem c_fMul (ok : NatOK M) (a b : Rat) (h : fsz a + fsz b ≤ M) : CallOK Tryd.prog 31 [.frac a, .frac b] [] (.frac (a * b)) [] [] := by
  have ha := fsz_num a; have ha' := fsz_den a; have hb := fsz_num b; have hb' := fsz_den b
  have gen : CallOK Tryd.prog 31 [.frac a, .frac b] [] (.frac (mkRat (a.num * b.num) (a.den * b.den))) [] [] → CallOK Tryd.prog 31 [.frac a, .frac b] [] (.frac (a * b)) [] [] := by rw [Rat.mul_def']; exact id
  have hw : a.den = 1 → b.den = 1 → ((a.num * b.num : Int) : Rat) = a * b := by
    intro h1 h2
    rw [int_of_den h1, int_of_den h2, Rat.intCast_mul]; rfl
  have hlow := c_lowest ok (a.num * b.num) (a.den * b.den) (by rw [Int.natAbs_mul]; have := sz_mul a.num.natAbs b.num.natAbs; omega) (by have := sz_mul a.den b.den; omega) (Nat.mul_ne_zero a.den_nz b.den_nz)
  rw [← Rat.mul_def'] at hlow
  have wa := c_Whole a
  have wb := c_Whole b
  have k1 := c_iMul ok a.num b.num (by omega)
  have k2 := c_den ok a (by omega)
  have k3 := c_den ok b (by omega)
  have k4 := ok.mul a.den b.den (by omega)
  have k5 := c_whole (a.num * b.num)
  refine callV (Z := []) tabOK mixedOK Tryd.func31 rfl (by kernel_rfl) rfl rfl (by kernel_rfl) rfl ?_
  intro W0 w0 ρ0 hE
  conv => whnf
  by_cases h1 : a.den = 1
  · rw [decide_eq_true h1] at wa
    by_cases h2 : b.den = 1
    · rw [decide_eq_true h2] at wb
      rw [hw h1 h2] at k5
      (repeat (first | (refine step_w1 rfl rfl ?_; conv => whnf) | (refine step_w2 rfl rfl ?_; conv => whnf) | (refine step_i (by kernel_rfl) ?_; conv => whnf) | (refine And.intro (by first | decide | omega | (simp only [tiB5, tiB22, tiB3, tiB2, tiB9, tiB55, tiB49, tiB28, tiB4, tiB66, tiB68]; omega)) ?_; conv => whnf) | (refine ⟨[], _, [], [], (by assumption), nil_fk, nil_new, nil_upd, ?_⟩; conv => whnf) | (refine ⟨[], _, [_], [], (by assumption), nil_fk, one_new rfl, nil_upd, ?_⟩; conv => whnf) | (refine ⟨[_], _, [], [], (by assumption), one_fk rfl, nil_new, nil_upd, ?_⟩; conv => whnf) | (refine ⟨[_, _], _, [], [], (by assumption), two_fk rfl rfl, nil_new, nil_upd, ?_⟩; conv => whnf) | (refine ⟨[_], _, [_], [], (by assumption), one_fk rfl, one_new rfl, nil_upd, ?_⟩; conv => whnf) | (refine ⟨[_], _, [], [_], (by assumption), one_fk rfl, nil_new, one_upd (List.mem_cons_self ..) rfl rfl rfl, ?_⟩; conv => whnf) | (refine ⟨[_, _], _, [], [_, _], (by assumption), two_fk rfl rfl, nil_new, two_upd (List.mem_cons_self ..) rfl rfl rfl (List.mem_cons_of_mem _ (List.mem_cons_self ..)) rfl rfl rfl, ?_⟩; conv => whnf) | (refine ⟨[_, _], _, [_, _], [], (by assumption), two_fk rfl rfl, two_new rfl rfl, nil_upd, ?_⟩; conv => whnf) | (refine ⟨_, [], [], [], op_pickT rfl (ev_ok rfl) (ev_ok rfl), nil_fk, nil_new, nil_upd, ?_⟩; conv => whnf) | (refine ⟨_, [], [], [], op_pickF rfl (ev_ok rfl) (ev_ok rfl), nil_fk, nil_new, nil_upd, ?_⟩; conv => whnf) | (rw [beq_self_eq_true]; conv => whnf) | (rw [bne_self_eq_false]; conv => whnf))); exact Recast.refl _
    · rw [decide_eq_false h2] at wb
      (repeat (first | (refine step_w1 rfl rfl ?_; conv => whnf) | (refine step_w2 rfl rfl ?_; conv => whnf) | (refine step_i (by kernel_rfl) ?_; conv => whnf) | (refine And.intro (by first | decide | omega | (simp only [tiB5, tiB22, tiB3, tiB2, tiB9, tiB55, tiB49, tiB28, tiB4, tiB66, tiB68]; omega)) ?_; conv => whnf) | (refine ⟨[], _, [], [], (by assumption), nil_fk, nil_new, nil_upd, ?_⟩; conv => whnf) | (refine ⟨[], _, [_], [], (by assumption), nil_fk, one_new rfl, nil_upd, ?_⟩; conv => whnf) | (refine ⟨[_], _, [], [], (by assumption), one_fk rfl, nil_new, nil_upd, ?_⟩; conv => whnf) | (refine ⟨[_, _], _, [], [], (by assumption), two_fk rfl rfl, nil_new, nil_upd, ?_⟩; conv => whnf) | (refine ⟨[_], _, [_], [], (by assumption), one_fk rfl, one_new rfl, nil_upd, ?_⟩; conv => whnf) | (refine ⟨[_], _, [], [_], (by assumption), one_fk rfl, nil_new, one_upd (List.mem_cons_self ..) rfl rfl rfl, ?_⟩; conv => whnf) | (refine ⟨[_, _], _, [], [_, _], (by assumption), two_fk rfl rfl, nil_new, two_upd (List.mem_cons_self ..) rfl rfl rfl (List.mem_cons_of_mem _ (List.mem_cons_self ..)) rfl rfl rfl, ?_⟩; conv => whnf) | (refine ⟨[_, _], _, [_, _], [], (by assumption), two_fk rfl rfl, two_new rfl rfl, nil_upd, ?_⟩; conv => whnf) | (refine ⟨_, [], [], [], op_pickT rfl (ev_ok rfl) (ev_ok rfl), nil_fk, nil_new, nil_upd, ?_⟩; conv => whnf) | (refine ⟨_, [], [], [], op_pickF rfl (ev_ok rfl) (ev_ok rfl), nil_fk, nil_new, nil_upd, ?_⟩; conv => whnf) | (rw [beq_self_eq_true]; conv => whnf) | (rw [bne_self_eq_false]; conv => whnf))); exact Recast.refl _
  · rw [decide_eq_false h1] at wa
    (repeat (first | (refine step_w1 rfl rfl ?_; conv => whnf) | (refine step_w2 rfl rfl ?_; conv => whnf) | (refine step_i (by kernel_rfl) ?_; conv => whnf) | (refine And.intro (by first | decide | omega | (simp only [tiB5, tiB22, tiB3, tiB2, tiB9, tiB55, tiB49, tiB28, tiB4, tiB66, tiB68]; omega)) ?_; conv => whnf) | (refine ⟨[], _, [], [], (by assumption), nil_fk, nil_new, nil_upd, ?_⟩; conv => whnf) | (refine ⟨[], _, [_], [], (by assumption), nil_fk, one_new rfl, nil_upd, ?_⟩; conv => whnf) | (refine ⟨[_], _, [], [], (by assumption), one_fk rfl, nil_new, nil_upd, ?_⟩; conv => whnf) | (refine ⟨[_, _], _, [], [], (by assumption), two_fk rfl rfl, nil_new, nil_upd, ?_⟩; conv => whnf) | (refine ⟨[_], _, [_], [], (by assumption), one_fk rfl, one_new rfl, nil_upd, ?_⟩; conv => whnf) | (refine ⟨[_], _, [], [_], (by assumption), one_fk rfl, nil_new, one_upd (List.mem_cons_self ..) rfl rfl rfl, ?_⟩; conv => whnf) | (refine ⟨[_, _], _, [], [_, _], (by assumption), two_fk rfl rfl, nil_new, two_upd (List.mem_cons_self ..) rfl rfl rfl (List.mem_cons_of_mem _ (List.mem_cons_self ..)) rfl rfl rfl, ?_⟩; conv => whnf) | (refine ⟨[_, _], _, [_, _], [], (by assumption), two_fk rfl rfl, two_new rfl rfl, nil_upd, ?_⟩; conv => whnf) | (refine ⟨_, [], [], [], op_pickT rfl (ev_ok rfl) (ev_ok rfl), nil_fk, nil_new, nil_upd, ?_⟩; conv => whnf) | (refine ⟨_, [], [], [], op_pickF rfl (ev_ok rfl) (ev_ok rfl), nil_fk, nil_new, nil_upd, ?_⟩; conv => whnf) | (rw [beq_self_eq_true]; conv => whnf) | (rw [bne_self_eq_false]; conv => whnf))); exact Recast.refl _

theorem fsz_inv (b : Rat) : fsz b⁻¹ ≤ fsz b := by
  have h1 := fsz_num b
  have h2 := fsz_den b
  by_cases h : b.num = 0
  · rw [Rat.num_eq_zero] at h
    subst h
    rw [Rat.inv_zero]; exact Nat.le_refl _
  · refine fsz_le ?_ ?_
    · rw [Rat.num_inv, Int.natAbs_mul, Int.natAbs_natCast]
      refine Nat.le_trans (sz_mono ?_) h2
      have : b.num.sign.natAbs = 1 := by rw [Int.natAbs_sign]; simp [h]
      rw [this, Nat.one_mul]; exact Nat.le_refl _
    · rw [Rat.den_inv, if_neg h]; exact h1

theorem mkRat_inv {b : Rat} (h : b.num ≠ 0) : mkRat (signed (decide (b.num.sign < 0)) b.den) b.num.natAbs = b⁻¹ := by
  have hd : b.num.natAbs ≠ 0 := by omega
  have hg : Nat.gcd (signed (decide (b.num.sign < 0)) b.den).natAbs b.num.natAbs = 1 := by rw [signed_abs]; exact b.reduced.symm
  refine Rat.ext ?_ ?_
  · rw [num_mkRat hd, hg, Rat.num_inv]
    rcases Int.lt_or_gt_of_ne h with h' | h'
    · rw [Int.sign_eq_neg_one_of_neg h']; simp [signed]
    · rw [Int.sign_eq_one_of_pos h']; simp [signed]
  · rw [den_mkRat hd, hg, Rat.den_inv, if_neg h]; simp

theorem c_fDiv (ok : NatOK M) (a b : Rat) (hb : b ≠ 0) (h : fsz a + fsz b ≤ M) : CallOK Tryd.prog 79 [.frac a, .frac b] [] (.tup [.frac (a / b), .val (.int .i64 0)]) [] [] := by
  have hn : b.num ≠ 0 := fun h => hb (Rat.num_eq_zero.1 h)
  have h1 := fsz_num b
  have h2 := fsz_den b
  have k1 := c_fSign b
  have k2 := c_den ok b (by omega)
  have k3 := c_From (decide (b.num.sign < 0)) b.den
  have k4 := c_Abs b.num
  have k5 := c_lowest ok (signed (decide (b.num.sign < 0)) b.den) b.num.natAbs (by rw [signed_abs]; omega) (by omega) (by omega)
  rw [mkRat_inv hn] at k5
  have k6 := c_fMul ok a b⁻¹ (by have := fsz_inv b; omega)
  rw [← Rat.div_def] at k6
  have hs : (b.num.sign == 0) = false := by simpa using hn
  refine callV (Z := []) tabOK mixedOK Tryd.func79 rfl (by kernel_rfl) rfl rfl (by kernel_rfl) rfl ?_
  intro W0 w0 ρ0 hE
  conv => whnf
  refine ⟨[], _, [], [], (k1), nil_fk, nil_new, nil_upd, ?_⟩; conv => whnf
  rw [hs]
  (repeat (first | (refine step_w1 rfl rfl ?_; conv => whnf) | (refine step_w2 rfl rfl ?_; conv => whnf) | (refine step_i (by kernel_rfl) ?_; conv => whnf) | (refine And.intro (by first | decide | omega | (simp only [tiB5, tiB22, tiB3, tiB2, tiB9, tiB55, tiB49, tiB28, tiB4, tiB66, tiB68]; omega)) ?_; conv => whnf) | (refine ⟨[], _, [], [], (by assumption), nil_fk, nil_new, nil_upd, ?_⟩; conv => whnf) | (refine ⟨[], _, [_], [], (by assumption), nil_fk, one_new rfl, nil_upd, ?_⟩; conv => whnf) | (refine ⟨[_], _, [], [], (by assumption), one_fk rfl, nil_new, nil_upd, ?_⟩; conv => whnf) | (refine ⟨[_, _], _, [], [], (by assumption), two_fk rfl rfl, nil_new, nil_upd, ?_⟩; conv => whnf) | (refine ⟨[_], _, [_], [], (by assumption), one_fk rfl, one_new rfl, nil_upd, ?_⟩; conv => whnf) | (refine ⟨[_], _, [], [_], (by assumption), one_fk rfl, nil_new, one_upd (List.mem_cons_self ..) rfl rfl rfl, ?_⟩; conv => whnf) | (refine ⟨[_, _], _, [], [_, _], (by assumption), two_fk rfl rfl, nil_new, two_upd (List.mem_cons_self ..) rfl rfl rfl (List.mem_cons_of_mem _ (List.mem_cons_self ..)) rfl rfl rfl, ?_⟩; conv => whnf) | (refine ⟨[_, _], _, [_, _], [], (by assumption), two_fk rfl rfl, two_new rfl rfl, nil_upd, ?_⟩; conv => whnf) | (refine ⟨_, [], [], [], op_pickT rfl (ev_ok rfl) (ev_ok rfl), nil_fk, nil_new, nil_upd, ?_⟩; conv => whnf) | (refine ⟨_, [], [], [], op_pickF rfl (ev_ok rfl) (ev_ok rfl), nil_fk, nil_new, nil_upd, ?_⟩; conv => whnf) | (rw [beq_self_eq_true]; conv => whnf) | (rw [bne_self_eq_false]; conv => whnf))); exact Recast.refl _
theorem c_fDivZ (a : Rat) : CallOK Tryd.prog 79 [.frac a, .frac 0] [] (.tup [.frac 0, .val (.int .i64 5)]) [] [] := by
  have k1 := c_fSign 0
  refine callV (Z := []) tabOK mixedOK Tryd.func79 rfl (by kernel_rfl) rfl rfl (by kernel_rfl) rfl ?_
  intro W0 w0 ρ0 hE
  conv => whnf
  (repeat (first | (refine step_w1 rfl rfl ?_; conv => whnf) | (refine step_w2 rfl rfl ?_; conv => whnf) | (refine step_i (by kernel_rfl) ?_; conv => whnf) | (refine And.intro (by first | decide | omega | (simp only [tiB5, tiB22, tiB3, tiB2, tiB9, tiB55, tiB49, tiB28, tiB4, tiB66, tiB68]; omega)) ?_; conv => whnf) | (refine ⟨[], _, [], [], (by assumption), nil_fk, nil_new, nil_upd, ?_⟩; conv => whnf) | (refine ⟨[], _, [_], [], (by assumption), nil_fk, one_new rfl, nil_upd, ?_⟩; conv => whnf) | (refine ⟨[_], _, [], [], (by assumption), one_fk rfl, nil_new, nil_upd, ?_⟩; conv => whnf) | (refine ⟨[_, _], _, [], [], (by assumption), two_fk rfl rfl, nil_new, nil_upd, ?_⟩; conv => whnf) | (refine ⟨[_], _, [_], [], (by assumption), one_fk rfl, one_new rfl, nil_upd, ?_⟩; conv => whnf) | (refine ⟨[_], _, [], [_], (by assumption), one_fk rfl, nil_new, one_upd (List.mem_cons_self ..) rfl rfl rfl, ?_⟩; conv => whnf) | (refine ⟨[_, _], _, [], [_, _], (by assumption), two_fk rfl rfl, nil_new, two_upd (List.mem_cons_self ..) rfl rfl rfl (List.mem_cons_of_mem _ (List.mem_cons_self ..)) rfl rfl rfl, ?_⟩; conv => whnf) | (refine ⟨[_, _], _, [_, _], [], (by assumption), two_fk rfl rfl, two_new rfl rfl, nil_upd, ?_⟩; conv => whnf) | (refine ⟨_, [], [], [], op_pickT rfl (ev_ok rfl) (ev_ok rfl), nil_fk, nil_new, nil_upd, ?_⟩; conv => whnf) | (refine ⟨_, [], [], [], op_pickF rfl (ev_ok rfl) (ev_ok rfl), nil_fk, nil_new, nil_upd, ?_⟩; conv => whnf) | (rw [beq_self_eq_true]; conv => whnf) | (rw [bne_self_eq_false]; conv => whnf))); exact Recast.refl _
theorem sz_i64 {n : Int} (h0 : -9223372036854775808 ≤ n) (h1 : n < 9223372036854775808) : sz n.natAbs ≤ 64 := sz_le.2 (by omega)
theorem fsz_int {n : Int} {k : Nat} (h : sz n.natAbs ≤ k) (hk : 1 ≤ k) : fsz (n : Rat) ≤ k := fsz_le h hk
theorem c_fOf (ok : NatOK M) (n d : Int) (hM : fsz (n : Rat) + fsz (d : Rat) ≤ M) (h0 : -9223372036854775808 ≤ n) (h1 : n < 9223372036854775808) (h2 : -9223372036854775808 ≤ d) (h3 : d < 9223372036854775808) (hd : d ≠ 0) :
    CallOK Tryd.prog 61 [.val (.int .i64 n), .val (.int .i64 d)] [] (.tup [.frac ((n : Rat) / (d : Rat)), .val (.int .i64 0)]) [] [] := by
  have k1 := c_fInt n h0 h1
  have k2 := c_fInt d h2 h3
  have k3 := c_fDiv ok (n : Rat) (d : Rat) (fun h => hd (by simpa using h)) hM
  refine callV (Z := []) tabOK mixedOK Tryd.func61 rfl (by kernel_rfl) rfl rfl (by kernel_rfl) rfl ?_
  intro W0 w0 ρ0 hE
  conv => whnf
  (repeat (first | (refine step_w1 rfl rfl ?_; conv => whnf) | (refine step_w2 rfl rfl ?_; conv => whnf) | (refine step_i (by kernel_rfl) ?_; conv => whnf) | (refine And.intro (by first | decide | omega | (simp only [tiB5, tiB22, tiB3, tiB2, tiB9, tiB55, tiB49, tiB28, tiB4, tiB66, tiB68]; omega)) ?_; conv => whnf) | (refine ⟨[], _, [], [], (by assumption), nil_fk, nil_new, nil_upd, ?_⟩; conv => whnf) | (refine ⟨[], _, [_], [], (by assumption), nil_fk, one_new rfl, nil_upd, ?_⟩; conv => whnf) | (refine ⟨[_], _, [], [], (by assumption), one_fk rfl, nil_new, nil_upd, ?_⟩; conv => whnf) | (refine ⟨[_, _], _, [], [], (by assumption), two_fk rfl rfl, nil_new, nil_upd, ?_⟩; conv => whnf) | (refine ⟨[_], _, [_], [], (by assumption), one_fk rfl, one_new rfl, nil_upd, ?_⟩; conv => whnf) | (refine ⟨[_], _, [], [_], (by assumption), one_fk rfl, nil_new, one_upd (List.mem_cons_self ..) rfl rfl rfl, ?_⟩; conv => whnf) | (refine ⟨[_, _], _, [], [_, _], (by assumption), two_fk rfl rfl, nil_new, two_upd (List.mem_cons_self ..) rfl rfl rfl (List.mem_cons_of_mem _ (List.mem_cons_self ..)) rfl rfl rfl, ?_⟩; conv => whnf) | (refine ⟨[_, _], _, [_, _], [], (by assumption), two_fk rfl rfl, two_new rfl rfl, nil_upd, ?_⟩; conv => whnf) | (refine ⟨_, [], [], [], op_pickT rfl (ev_ok rfl) (ev_ok rfl), nil_fk, nil_new, nil_upd, ?_⟩; conv => whnf) | (refine ⟨_, [], [], [], op_pickF rfl (ev_ok rfl) (ev_ok rfl), nil_fk, nil_new, nil_upd, ?_⟩; conv => whnf) | (rw [beq_self_eq_true]; conv => whnf) | (rw [bne_self_eq_false]; conv => whnf))); exact Recast.refl _
end Go.Proofs.YtghdcjhlhcoijaaDoor

/- Contracts: mods' arithmetic, small numbers. -/
namespace Go.Proofs.YtghdcjhlhcoijaaDoor
open Go.Sx
set_option linter.unusedSimpArgs false
set_option linter.unusedVariables false
set_option maxRecDepth 100000

/-- The residue, 0 for the modulus 0. -/
def md (n p : Int) : Int := if p = 0 then 0 else n % p

theorem c_mod (n p : Int) (h1 : 0 ≤ n) (h3 : 0 ≤ p) (h4 : p < 4294967296) :
    CallOK Tryd.prog 36 [.val (.int .u64 n), .val (.int .u32 p)] [] (.val (.int .u32 (md n p))) [] [] := by
  refine callV (Z := []) tabOK mixedOK Tryd.func36 rfl (by kernel_rfl) rfl rfl (by kernel_rfl) rfl ?_
  intro W0 w0 ρ0 hE
  conv => whnf
  refine ⟨fun h => ?_, fun h => ?_⟩
  · conv => whnf
    have h : p = 0 := by simpa using h
    simp only [md, h, if_true]
    exact Recast.refl _
  · conv => whnf
    have h : p ≠ 0 := by simpa using h
    have e1 : IntKind.u64.wrap p = p := wrap_u64 h3 (by omega)
    refine ⟨by rw [e1]; exact h, ?_⟩
    conv => whnf
    rw [e1, Int.tmod_eq_emod_of_nonneg h1, wrap_u32 (Int.emod_nonneg _ h) (by have := Int.emod_lt_of_pos n (show 0 < p by omega); omega)]
    simp only [md, h, if_false]
    exact Recast.refl _

theorem md_bd {n p : Int} (h3 : 0 ≤ p) : 0 ≤ md n p ∧ (md n p < p ∨ md n p = 0) := by
  unfold md
  split
  · simp
  · rename_i hp
    exact ⟨Int.emod_nonneg _ hp, .inl (Int.emod_lt_of_pos n (by omega))⟩

theorem c_Add (a b p : Int) (ha : 0 ≤ a) (ha' : a < 4294967296) (hb : 0 ≤ b) (hb' : b < 4294967296) (h3 : 0 ≤ p) (h4 : p < 4294967296) :
    CallOK Tryd.prog 15 [.val (.int .u32 a), .val (.int .u32 b), .val (.int .u32 p)] [] (.val (.int .u32 (md (a + b) p))) [] [] := by
  refine callV (Z := []) tabOK mixedOK Tryd.func15 rfl (by kernel_rfl) rfl rfl (by kernel_rfl) rfl ?_
  intro W0 w0 ρ0 hE
  conv => whnf
  have e1 : IntKind.u64.wrap (IntKind.u64.wrap a + IntKind.u64.wrap b) = a + b := by rw [wrap_u64 ha (by omega), wrap_u64 hb (by omega), wrap_u64 (by omega) (by omega)]
  rw [e1]
  refine ⟨[], _, [], [], c_mod (a + b) p (by omega) h3 h4, nil_fk, nil_new, nil_upd, ?_⟩
  conv => whnf
  exact Recast.refl _

theorem c_Mul (a b p : Int) (ha : 0 ≤ a) (ha' : a < 4294967296) (hb : 0 ≤ b) (hb' : b < 4294967296) (h3 : 0 ≤ p) (h4 : p < 4294967296) :
    CallOK Tryd.prog 19 [.val (.int .u32 a), .val (.int .u32 b), .val (.int .u32 p)] [] (.val (.int .u32 (md (a * b) p))) [] [] := by
  refine callV (Z := []) tabOK mixedOK Tryd.func19 rfl (by kernel_rfl) rfl rfl (by kernel_rfl) rfl ?_
  intro W0 w0 ρ0 hE
  conv => whnf
  have h0 : 0 ≤ a * b := Int.mul_nonneg ha hb
  have h1 : a * b ≤ 4294967295 * 4294967295 := Int.mul_le_mul (by omega) (by omega) hb (by omega)
  have e1 : IntKind.u64.wrap (IntKind.u64.wrap a * IntKind.u64.wrap b) = a * b := by rw [wrap_u64 ha (by omega), wrap_u64 hb (by omega), wrap_u64 h0 (by omega)]
  rw [e1]
  refine ⟨[], _, [], [], c_mod (a * b) p h0 h3 h4, nil_fk, nil_new, nil_upd, ?_⟩
  conv => whnf
  exact Recast.refl _

theorem c_Sub (a b p : Int) (ha : 0 ≤ a) (ha' : a < 4294967296) (hb : 0 ≤ b) (hb' : b < 4294967296) (h3 : 0 ≤ p) (h4 : p < 4294967296) :
    CallOK Tryd.prog 17 [.val (.int .u32 a), .val (.int .u32 b), .val (.int .u32 p)] [] (.val (.int .u32 (md (md a p + p - md b p) p))) [] [] := by
  refine callV (Z := []) tabOK mixedOK Tryd.func17 rfl (by kernel_rfl) rfl rfl (by kernel_rfl) rfl ?_
  intro W0 w0 ρ0 hE
  conv => whnf
  have e1 : IntKind.u64.wrap a = a := wrap_u64 ha (by omega)
  have e2 : IntKind.u64.wrap b = b := wrap_u64 hb (by omega)
  rw [e1]
  refine ⟨[], _, [], [], c_mod a p ha h3 h4, nil_fk, nil_new, nil_upd, ?_⟩
  conv => whnf
  rw [e2]
  refine ⟨[], _, [], [], c_mod b p hb h3 h4, nil_fk, nil_new, nil_upd, ?_⟩
  conv => whnf
  obtain ⟨a1, a2⟩ := md_bd (n := a) h3
  obtain ⟨b1, b2⟩ := md_bd (n := b) h3
  have e3 : IntKind.u64.wrap (IntKind.u64.wrap (IntKind.u64.wrap (md a p) + IntKind.u64.wrap p) - IntKind.u64.wrap (md b p)) = md a p + p - md b p := by
    rw [wrap_u64 a1 (by omega), wrap_u64 h3 (by omega), wrap_u64 b1 (by omega), wrap_u64 (n := md a p + p) (by omega) (by omega), wrap_u64 (by omega) (by omega)]
  rw [e3]
  refine ⟨[], _, [], [], c_mod _ p (by omega) h3 h4, nil_fk, nil_new, nil_upd, ?_⟩
  conv => whnf
  exact Recast.refl _
end Go.Proofs.YtghdcjhlhcoijaaDoor

/- Contracts: mods.Pow. -/
namespace Go.Proofs.YtghdcjhlhcoijaaDoor
open Go.Sx
set_option linter.unusedSimpArgs false
set_option linter.unusedVariables false
set_option maxRecDepth 100000

theorem md_lt {n p : Int} (h3 : 0 ≤ p) (hp : p ≠ 0) : 0 ≤ md n p ∧ md n p < p := by
  simp only [md, hp, if_false]
  exact ⟨Int.emod_nonneg _ hp, Int.emod_lt_of_pos n (by omega)⟩

theorem mul_cong {p x x' y y' : Int} (h : x % p = x' % p) (h' : y % p = y' % p) : (x * y) % p = (x' * y') % p := by
  rw [Int.mul_emod, h, h', ← Int.mul_emod]
theorem emod_cong (x p : Int) : (x % p) % p = x % p := Int.emod_emod_of_dvd _ (Int.dvd_refl p)
theorem pow_cong {p x x' : Int} (h : x % p = x' % p) : ∀ n : Nat, (x ^ n) % p = (x' ^ n) % p
  | 0 => by rw [Int.pow_zero, Int.pow_zero]
  | n + 1 => by rw [Int.pow_succ, Int.pow_succ]; exact mul_cong (pow_cong h n) h

/-- What stands at the head of Pow's loop. -/
structure PowI (t p : Int) (n : Nat) (out a : Int) : Prop where
  o0 : 0 ≤ out
  o1 : out < 4294967296
  a0 : 0 ≤ a
  a1 : a < 4294967296
  n1 : n < 18446744073709551616
  z : p = 0 → out = 0
  s : p ≠ 0 → out < p ∧ (out * a ^ n) % p = t % p

theorem PowI.step {t p out a : Int} {n : Nat} (h3 : 0 ≤ p) (h4 : p < 4294967296) (h : PowI t p n out a) : PowI t p (n / 2) (if n % 2 = 1 then md (out * a) p else out) (md (a * a) p) := by
  have hb := md_bd (n := out * a) h3
  have hc := md_bd (n := a * a) h3
  refine ⟨by split <;> first | exact hb.1 | exact h.o0, by split <;> first | omega | exact h.o1, hc.1, by omega, by have := h.n1; omega, fun hz => ?_, fun hz => ?_⟩
  · split
    · simp [md, hz]
    · exact h.z hz
  · obtain ⟨s1, s2⟩ := h.s hz
    refine ⟨by split <;> first | exact (md_lt h3 hz).2 | exact s1, ?_⟩
    rw [← s2]
    have hn : n = n % 2 + 2 * (n / 2) := by omega
    have hpow : a ^ n = a ^ (n % 2) * (a * a) ^ (n / 2) := by
      conv => lhs; rw [hn, Int.pow_add, Int.pow_mul]
      rw [show a ^ 2 = a * a from by rw [Int.pow_succ, Int.pow_succ, Int.pow_zero, Int.one_mul]]
    rw [hpow]
    simp only [md, hz, if_false]
    split
    · rename_i h1
      rw [h1, Int.pow_succ, Int.pow_zero, Int.one_mul, ← Int.mul_assoc]
      exact mul_cong (emod_cong _ _) (pow_cong (emod_cong _ _) _)
    · rename_i h1
      have h0 : n % 2 = 0 := by omega
      rw [h0, Int.pow_zero, Int.one_mul]
      exact mul_cong rfl (pow_cong (emod_cong _ _) _)

theorem c_Pow (a p : Int) (n : Nat) (ha : 0 ≤ a) (ha' : a < 4294967296) (hn : n < 18446744073709551616) (h3 : 0 ≤ p) (h4 : p < 4294967296) :
    CallOK Tryd.prog 20 [.val (.int .u32 a), .val (.int .u64 n), .val (.int .u32 p)] [] (.val (.int .u32 (md (a ^ n) p))) [] [] := by
  refine callV (Z := []) tabOK mixedOK Tryd.func20 rfl (by kernel_rfl) rfl rfl (by kernel_rfl) rfl ?_
  intro W0 w0 ρ0 hE
  conv => whnf
  refine ⟨[], _, [], [], c_mod 1 p (by omega) h3 h4, nil_fk, nil_new, nil_upd, ?_⟩
  conv => whnf
  have hb1 := md_bd (n := 1) h3
  refine SW_loopN hE (fun k => k) [0, 1, 2, 7] [] (fun m fr hp => ∃ out b, PowI (a ^ n) p m out b ∧ fr = [(0, .val (.int .u32 b)), (1, .val (.int .u64 m)), (2, .val (.int .u32 p)), (7, .val (.int .u32 out))] ∧ hp = []) n (by kernel_rfl)
    ⟨md 1 p, a, ⟨hb1.1, by omega, ha, ha', hn, fun hz => by simp [md, hz], fun hz => ⟨(md_lt h3 hz).2, by simp only [md, hz, if_false]; rw [show a ^ n = 1 * a ^ n from (Int.one_mul _).symm, ← Int.mul_assoc, Int.mul_one]; exact mul_cong (emod_cong _ _) rfl⟩⟩, rfl, rfl⟩ ?_
  rintro m _ _ ⟨out, b, hI, rfl, rfl⟩
  conv => whnf
  refine ⟨fun h => ?_, fun h => ?_⟩
  · conv => whnf
    have hm : 0 < m := by simpa using h
    have e1 : iand .u64 (m : Int) 1 = ((m % 2 : Nat) : Int) := by
      have := iand_u64 (x := m) (y := 1) hI.n1 (by decide)
      rw [Nat.and_one_is_mod] at this
      exact this
    have e2 : ishr .u64 (m : Int) 1 = ((m / 2 : Nat) : Int) := ishr_nat .u64 (x := m) (s := 1) (by decide)
    have hst := hI.step h3 h4
    rw [e1]
    refine ⟨fun h => ?_, fun h => ?_⟩
    · have h : m % 2 = 1 := by have := of_decide_eq_true h; omega
      rw [if_pos h] at hst
      conv => whnf
      refine ⟨[], _, [], [], c_Mul out b p hI.o0 hI.o1 hI.a0 hI.a1 h3 h4, nil_fk, nil_new, nil_upd, ?_⟩
      conv => whnf
      refine ⟨[], _, [], [], c_Mul b b p hI.a0 hI.a1 hI.a0 hI.a1 h3 h4, nil_fk, nil_new, nil_upd, ?_⟩
      conv => whnf
      refine ⟨by decide, ?_⟩
      conv => whnf
      rw [e2]
      exact ⟨m / 2, fun k => k, [0, 1, 2, 7], [], by omega, by kernel_rfl, _, _, hst, rfl, rfl⟩
    · have h : ¬ m % 2 = 1 := by have := of_decide_eq_false h; omega
      rw [if_neg h] at hst
      conv => whnf
      refine ⟨[], _, [], [], c_Mul b b p hI.a0 hI.a1 hI.a0 hI.a1 h3 h4, nil_fk, nil_new, nil_upd, ?_⟩
      conv => whnf
      refine ⟨by decide, ?_⟩
      conv => whnf
      rw [e2]
      exact ⟨m / 2, fun k => k, [0, 1, 2, 7], [], by omega, by kernel_rfl, _, _, hst, rfl, rfl⟩
  · conv => whnf
    have hm : m = 0 := by have := of_decide_eq_false h; omega
    have e3 : out = md (a ^ n) p := by
      by_cases hz : p = 0
      · simp [md, hz, hI.z hz]
      · obtain ⟨s1, s2⟩ := hI.s hz
        simp only [md, hz, if_false, ← s2, hm, Int.pow_zero, Int.mul_one]
        exact (Int.emod_eq_of_lt hI.o0 s1).symm
    rw [e3]
    exact Recast.refl _
end Go.Proofs.YtghdcjhlhcoijaaDoor

/- Contracts: mods.Inv. -/
namespace Go.Proofs.YtghdcjhlhcoijaaDoor
open Go.Sx
set_option linter.unusedSimpArgs false
set_option linter.unusedVariables false
set_option maxRecDepth 100000

/-- The extended Euclidean algorithm, one coefficient. -/
def eu (x y : Nat) (u v : Int) : Nat × Int := if _h : y = 0 then (x, u) else eu y (x % y) v (u - (x / y : Nat) * v)
termination_by y
decreasing_by exact Nat.mod_lt _ (Nat.pos_of_ne_zero _h)

def invF (a p : Nat) : Int × Bool :=
  if p = 0 then (0, false) else
    let r := eu p (a % p) 0 1
    if r.1 = 1 then (r.2 % p, true) else (0, false)

theorem wrap_i64n {n : Nat} (h : n < 9223372036854775808) : IntKind.i64.wrap (n : Int) = n := wrap_i64 (by omega) (by omega)

structure InvI (p : Nat) (x y : Nat) (u v : Int) : Prop where
  hx : 1 ≤ x
  hx' : x ≤ p
  hy : y ≤ p
  hu : u.natAbs ≤ p
  hv : v.natAbs ≤ p
  s : v.natAbs * x + u.natAbs * y ≤ p

theorem InvI.step {p x y : Nat} {u v : Int} (h : InvI p x y u v) (hy : y ≠ 0) : InvI p y (x % y) v (u - (x / y : Nat) * v) ∧ ((x / y : Nat) * v).natAbs ≤ p := by
  have hq : ((x / y : Nat) * v : Int).natAbs = (x / y) * v.natAbs := by rw [Int.natAbs_mul, Int.natAbs_natCast]
  have hdm := Nat.div_add_mod x y
  have hs := h.s
  have h1 : (x / y) * v.natAbs * y + v.natAbs * (x % y) = v.natAbs * x := by
    conv => rhs; rw [← hdm]
    rw [Nat.mul_add, Nat.mul_comm (x / y), Nat.mul_assoc, Nat.mul_comm (x / y)]
  have h2 : (u - (x / y : Nat) * v).natAbs ≤ u.natAbs + (x / y) * v.natAbs := by rw [← hq]; omega
  have h3 : (u - (x / y : Nat) * v).natAbs * y ≤ u.natAbs * y + (x / y) * v.natAbs * y := by rw [← Nat.add_mul]; exact Nat.mul_le_mul_right _ h2
  have h4 : (u - (x / y : Nat) * v).natAbs * 1 ≤ (u - (x / y : Nat) * v).natAbs * y := Nat.mul_le_mul_left _ (by omega)
  have h5 : (x / y) * v.natAbs * 1 ≤ (x / y) * v.natAbs * y := Nat.mul_le_mul_left _ (by omega)
  refine ⟨⟨by omega, h.hy, ?_, h.hv, by omega, by omega⟩, by rw [hq]; omega⟩
  exact Nat.le_trans (Nat.le_of_lt (Nat.mod_lt _ (by omega))) h.hy

theorem c_Inv (a p : Nat) (ha : a < 4294967296) (h4 : p < 4294967296) :
    CallOK Tryd.prog 13 [.val (.int .u32 a), .val (.int .u32 p)] [] (.tup [.val (.int .u32 (invF a p).1), .val (.bool (invF a p).2)]) [] [] := by
  refine callV (Z := []) tabOK mixedOK Tryd.func13 rfl (by kernel_rfl) rfl rfl (by kernel_rfl) rfl ?_
  intro W0 w0 ρ0 hE
  conv => whnf
  refine ⟨fun h => ?_, fun h => ?_⟩
  · conv => whnf
    have hp : p = 0 := by have := of_decide_eq_true h; omega
    simp only [invF, hp, if_true]
    exact Recast.refl _
  · have hp : p ≠ 0 := by have := of_decide_eq_false h; omega
    conv => whnf
    have e1 : IntKind.u64.wrap (a : Int) = a := wrap_u64 (by omega) (by omega)
    have e2 : IntKind.i64.wrap (p : Int) = p := wrap_i64 (by omega) (by omega)
    have e3 : md (a : Int) p = ((a % p : Nat) : Int) := by simp only [md]; rw [if_neg (by omega)]; omega
    have e5 : a % p < p := Nat.mod_lt _ (by omega)
    have e4 : IntKind.i64.wrap ((a % p : Nat) : Int) = ((a % p : Nat) : Int) := wrap_i64 (by omega) (by omega)
    rw [e1]
    refine ⟨[], _, [], [], c_mod a p (by omega) (by omega) (by omega), nil_fk, nil_new, nil_upd, ?_⟩
    conv => whnf
    rw [e3]
    rw [e2, e4]
    refine SW_loopN hE (fun k => k) [1, 6, 7, 8, 9] [] (fun m fr hp => ∃ x u v, InvI p x m u v ∧ eu x m u v = eu p (a % p) 0 1 ∧ fr = [(1, .val (.int .u32 p)), (6, .val (.int .i64 x)), (7, .val (.int .i64 m)), (8, .val (.int .i64 u)), (9, .val (.int .i64 v))] ∧ hp = []) (a % p) (by kernel_rfl)
      ⟨p, 0, 1, ⟨by omega, by omega, by omega, by omega, by omega, by simp⟩, rfl, rfl, rfl⟩ ?_
    rintro m _ _ ⟨x, u, v, hI, hT, rfl, rfl⟩
    conv => whnf
    refine ⟨fun h => ?_, fun h => ?_⟩
    · have hm : m ≠ 0 := by rintro rfl; simp at h
      obtain ⟨hI', hq⟩ := hI.step hm
      conv => whnf
      refine ⟨by omega, ?_⟩
      conv => whnf
      have f1 : IntKind.i64.wrap ((x : Int).tdiv (m : Int)) = ((x / m : Nat) : Int) := by
        have : (x : Int).tdiv (m : Int) = ((x / m : Nat) : Int) := by simp
        rw [this]
        exact wrap_i64n (Nat.lt_of_le_of_lt (Nat.div_le_self x m) (Nat.lt_of_le_of_lt hI.hx' (by omega)))
      have f2 : IntKind.i64.wrap ((x : Int) - IntKind.i64.wrap (((x / m : Nat) : Int) * (m : Int))) = ((x % m : Nat) : Int) := by
        have g := Nat.div_add_mod x m
        have g' : ((x / m : Nat) : Int) * (m : Int) = (x : Int) - (x % m : Nat) := by
          have : ((m * (x / m) + x % m : Nat) : Int) = x := by rw [g]
          rw [Int.natCast_add, Int.natCast_mul, Int.mul_comm] at this
          omega
        have := hI.hx'
        have := Nat.mod_le x m
        rw [g', wrap_i64 (n := (x : Int) - (x % m : Nat)) (by omega) (by omega), show (x : Int) - ((x : Int) - (x % m : Nat)) = ((x % m : Nat) : Int) from by omega]
        exact wrap_i64n (by omega)
      have hu := hI.hu
      have hv := hI'.hv
      have f3 : IntKind.i64.wrap (u - IntKind.i64.wrap (((x / m : Nat) : Int) * v)) = u - ((x / m : Nat) : Int) * v := by
        rw [wrap_i64 (n := ((x / m : Nat) : Int) * v) (by omega) (by omega), wrap_i64 (by omega) (by omega)]
      rw [f1, f2, f3]
      refine ⟨x % m, fun k => k, [1, 6, 7, 8, 9], [], Nat.mod_lt _ (by omega), by kernel_rfl, m, v, u - ((x / m : Nat) : Int) * v, hI', ?_, rfl, rfl⟩
      rw [← hT]
      conv => rhs; rw [eu, dif_neg hm]
    · have hm : m = 0 := by have h := h; simp at h; omega
      subst hm
      rw [eu, dif_pos rfl] at hT
      conv => whnf
      refine ⟨fun h => ?_, fun h => ?_⟩
      · have hx : x ≠ 1 := by rintro rfl; simp at h
        conv => whnf
        have : (invF a p) = (0, false) := by simp only [invF, hp, if_false, ← hT, hx]
        rw [this]
        exact Recast.refl _
      · have hx : x = 1 := by have h := h; simp at h; omega
        conv => whnf
        refine ⟨by rw [e2]; omega, ?_⟩
        conv => whnf
        refine ⟨by rw [e2]; omega, ?_⟩
        conv => whnf
        have : (invF a p) = (u % p, true) := by simp only [invF, hp, if_false, ← hT, hx, if_true]
        rw [this, e2]
        have hpp : (0 : Int) < p := by omega
        have hu := hI.hu
        have g0 : IntKind.i64.wrap (u.tmod (p : Int) + (p : Int)) = u.tmod (p : Int) + p := by
          have h1 := Int.tmod_lt_of_pos u hpp
          have h2 := Int.lt_tmod_of_pos u hpp
          exact wrap_i64 (by omega) (by omega)
        have g1 : (u.tmod (p : Int) + (p : Int)).tmod p = u % p := by
          have h1 := Int.tmod_lt_of_pos u hpp
          have h2 : -(p : Int) < u.tmod p := by have := Int.lt_tmod_of_pos u hpp; omega
          rw [Int.tmod_eq_emod_of_nonneg (by omega), Int.add_emod_right]
          rw [Int.tmod_eq_emod]
          split <;> simp
        rw [g0, g1, wrap_u32 (Int.emod_nonneg _ (by omega)) (by have := Int.emod_lt_of_pos u hpp; omega)]
        exact Recast.refl _
end Go.Proofs.YtghdcjhlhcoijaaDoor

/- Contracts: bits.TrailingZeros32, mods.Prime's closure. -/
namespace Go.Proofs.YtghdcjhlhcoijaaDoor
open Go.Sx
set_option linter.unusedSimpArgs false
set_option linter.unusedVariables false
set_option maxRecDepth 100000

theorem and_compl (m k : Nat) (h : m < 2 ^ k) : m &&& (2 ^ k - (m + 1)) = 0 := by
  apply Nat.eq_of_testBit_eq
  intro i
  rw [Nat.testBit_and, Nat.testBit_two_pow_sub_succ h]
  cases m.testBit i <;> simp

theorem odd_and (m k : Nat) (h : m < 2 ^ k) : (2 * m + 1) &&& (2 ^ (k + 1) - (2 * m + 1)) = 1 := by
  have hp : 2 ^ (k + 1) = 2 * 2 ^ k := by rw [Nat.pow_succ, Nat.mul_comm]
  have h2 : 2 ^ (k + 1) - (2 * m + 1) = 2 * (2 ^ k - (m + 1)) + 1 := by omega
  rw [h2]
  have hc := and_compl m k h
  apply Nat.eq_of_testBit_eq
  intro i
  rw [Nat.testBit_and]
  cases i with
  | zero => simp
  | succ i =>
    have e : ∀ a : Nat, (2 * a + 1).testBit (i + 1) = a.testBit i := fun a => by rw [Nat.testBit_succ]; congr 1; omega
    rw [e, e, ← Nat.testBit_and, hc]
    simp [Nat.testBit_succ]

theorem low_bit (t m k : Nat) (h : m < 2 ^ k) : (2 ^ t * (2 * m + 1)) &&& (2 ^ (t + (k + 1)) - 2 ^ t * (2 * m + 1)) = 2 ^ t := by
  have h2 : 2 ^ (t + (k + 1)) - 2 ^ t * (2 * m + 1) = 2 ^ t * (2 ^ (k + 1) - (2 * m + 1)) := by rw [Nat.pow_add, Nat.mul_sub]
  rw [h2]
  have := odd_and m k h
  have e : ∀ a : Nat, 2 ^ t * a = a <<< t := fun a => by rw [Nat.shiftLeft_eq, Nat.mul_comm]
  rw [e, e, ← Nat.shiftLeft_and_distrib, this, Nat.shiftLeft_eq, Nat.one_mul]

def deBruijn : List Int := [0, 1, 28, 2, 29, 14, 24, 3, 30, 22, 20, 15, 25, 17, 4, 8, 31, 27, 13, 23, 21, 19, 16, 7, 26, 12, 18, 6, 11, 5, 10, 9]

theorem deBruijn_at : ∀ t : Nat, t < 32 → deBruijn[(2 ^ t * 125613361 % 4294967296) / 134217728]? = some (t : Int) := by decide

theorem c_TZ' (X : Nat) (t J : Int) (hx : 0 < X) (h : X < 4294967296) (hj0 : 0 ≤ J) (hj : J < 32) (e : ishr .u32 (IntKind.u32.wrap (iand .u32 (X : Int) (IntKind.u32.wrap (0 - (X : Int))) * 125613361)) 27 = J) (hd : deBruijn[J.toNat]? = some t) (ht0 : 0 ≤ t) (ht : t < 32) :
    CallOK Tryd.prog 32 [.val (.int .u32 X)] [] (.val (.int .i64 t)) [] [] := by
  refine callV (Z := []) tabOK mixedOK Tryd.func32 rfl (by kernel_rfl) rfl rfl (by kernel_rfl) rfl ?_
  intro W0 w0 ρ0 hE
  conv => whnf
  refine ⟨fun h => ?_, fun h => ?_⟩
  · exfalso; have := of_decide_eq_true h; omega
  · conv => whnf
    refine ⟨by decide, ?_⟩
    conv => whnf
    rw [e]
    refine ⟨_, [], [], op_globIndex rfl (ev_ok rfl) (ev_ok rfl) tok93 rfl tok5 hj0 (by exact hj), nil_fk, nil_new, ?_⟩
    conv => whnf
    refine ⟨_, [], [], op_globLoad rfl (ev_ok rfl) tok5 rfl (kd := .u8) (l := deBruijn) (v := t) (List.mem_cons_self ..) (by simpa [ti5] using hd), nil_fk, nil_new, ?_⟩
    conv => whnf
    rw [wrap_i64 (by omega) (by omega)]
    exact Recast.refl _

theorem c_TZ (t m : Nat) (h : 2 ^ t * (2 * m + 1) < 4294967296) :
    CallOK Tryd.prog 32 [.val (.int .u32 (2 ^ t * (2 * m + 1) : Nat))] [] (.val (.int .i64 t)) [] [] := by
  have ht : t < 32 := by
    have h1 : 2 ^ t * 1 ≤ 2 ^ t * (2 * m + 1) := Nat.mul_le_mul_left _ (by omega)
    exact (Nat.pow_lt_pow_iff_right (a := 2) (by decide)).1 (by omega)
  have hx : 0 < 2 ^ t * (2 * m + 1) := Nat.mul_pos (Nat.pow_pos (by decide)) (by omega)
  have hm : m < 2 ^ (31 - t) := by
    have h1 : 2 ^ t * (2 * m + 1) < 2 ^ t * 2 ^ (32 - t) := by rw [← Nat.pow_add, show t + (32 - t) = 32 from by omega]; exact h
    have h2 := Nat.lt_of_mul_lt_mul_left h1
    rw [show 32 - t = (31 - t) + 1 from by omega, Nat.pow_succ] at h2
    omega
  have hl := low_bit t m (31 - t) hm
  rw [show t + (31 - t + 1) = 32 from by omega] at hl
  generalize 2 ^ t * (2 * m + 1) = X at *
  have e0 : IntKind.u32.wrap (0 - (X : Int)) = ((2 ^ 32 - X : Nat) : Int) := by rw [wrap_u32']; omega
  have e1 : iand .u32 (X : Int) ((2 ^ 32 - X : Nat) : Int) = ((2 ^ t : Nat) : Int) := by rw [iand_u32 h (by omega), hl]
  have e2 : IntKind.u32.wrap (((2 ^ t : Nat) : Int) * 125613361) = ((2 ^ t * 125613361 % 4294967296 : Nat) : Int) := by rw [wrap_u32']; omega
  have e3 : ishr .u32 ((2 ^ t * 125613361 % 4294967296 : Nat) : Int) 27 = ((2 ^ t * 125613361 % 4294967296 / 134217728 : Nat) : Int) := ishr_nat .u32 (s := 27) (by decide)
  exact c_TZ' X t ((2 ^ t * 125613361 % 4294967296 / 134217728 : Nat) : Int) hx h (by omega) (by omega) (by rw [e0, e1, e2, e3]) (by rw [Int.toNat_natCast]; exact deBruijn_at t ht) (by omega) (by omega)

theorem c_minus (x n : Int) (K : Nat) (wr : Bool) (h1 : 1 ≤ n) (h2 : n < 4294967296) :
    CallOK Tryd.prog 33 [.val (.int .u32 x), .ptr K 0 0 0] [(K, ⟨22, wr, .one [.val (.int .u32 n)]⟩)] (.val (.bool (x == n - 1))) [] [] := by
  refine CallOK.anyWr ?_
  refine callK (Z := []) tabOK mixedOK Tryd.func33 rfl (by kernel_rfl) (args := [.val (.int .u32 x), .ptr 0 0 0 0]) (fk := [(0, ⟨22, false, .one [.val (.int .u32 n)]⟩)]) (c := .val (.bool (x == n - 1))) (new := []) (upd := []) ?_ rfl (fun _ => K) ?_ ?_
  · exact ⟨rfl, rfl, rfl, rfl, rfl, (fun _ _ h => by cases h), (fun k b h hw => by simp at h; rw [h.2] at hw; cases hw), rfl, rfl, rfl, rfl⟩
  · exact ⟨(fun q q' b b' h h' hne => by simp at h h'; omega), (fun _ _ h => by simp [keysOf] at h), (fun _ _ h => by simp [keysOf] at h)⟩
  intro W0 w0 ρ0 hE
  conv => whnf
  rw [wrap_u32 (by omega) (by omega)]
  exact ⟨Recast.refl _, (fun _ _ h => by cases h), (fun _ _ h => by cases h)⟩
end Go.Proofs.YtghdcjhlhcoijaaDoor

/- Contract: mods.Prime. -/
namespace Go.Proofs.YtghdcjhlhcoijaaDoor
open Go.Sx
set_option linter.unusedSimpArgs false
set_option linter.unusedVariables false
set_option maxRecDepth 100000

def firsts : List Nat := [2, 3, 5, 7, 11, 13, 17, 19, 23, 29, 31, 37, 41, 43, 47, 53, 59, 61]

def trial (n : Nat) : List Nat → Option Bool
  | [] => none
  | q :: l => if n % q = 0 then some (n == q) else trial n l

def tzF : Nat → Nat → Nat
  | 0, _ => 0
  | f + 1, x => if x % 2 = 1 then 0 else tzF f (x / 2) + 1

def iterF : Nat → Nat → Nat → Bool
  | 0, _, _ => false
  | k + 1, x, n => x * x % n == n - 1 || iterF k (x * x % n) n

/-- out times a to the n modulo p. -/
def powM : Nat → Nat → Nat → Nat → Nat → Nat
  | 0, out, _, _, _ => out
  | f + 1, out, a, n, p => powM f (if n % 2 = 1 then out * a % p else out) (a * a % p) (n / 2) p

def witF (n t w : Nat) : Bool :=
  let x := powM 64 (1 % n) w ((n - 1) / 2 ^ t) n
  x == 1 || (x == n - 1 || iterF (t - 1) x n)

def primeF (n : Nat) : Bool := match trial n firsts with
  | some b => b
  | none => if n < 2 then false else witF n (tzF 32 (n - 1)) 2 && (witF n (tzF 32 (n - 1)) 7 && witF n (tzF 32 (n - 1)) 61)

theorem tzF_spec : ∀ (f x : Nat), 0 < x → x < 2 ^ f → ∃ m, x = 2 ^ tzF f x * (2 * m + 1)
  | 0, x, h0, h => by simp at h; omega
  | f + 1, x, h0, h => by
    simp only [tzF]
    split
    · exact ⟨x / 2, by omega⟩
    · rw [Nat.pow_succ] at h
      obtain ⟨m, hm⟩ := tzF_spec f (x / 2) (by omega) (by omega)
      refine ⟨m, ?_⟩
      rw [Nat.pow_succ, Nat.mul_comm (2 ^ _) 2, Nat.mul_assoc, ← hm]
      omega

theorem powM_spec : ∀ (f out a n p : Nat), n < 2 ^ f → out < p → powM f out a n p = out * a ^ n % p
  | 0, out, a, n, p, h, ho => by
    have : n = 0 := by simpa using h
    simp [powM, this, Nat.mod_eq_of_lt ho]
  | f + 1, out, a, n, p, h, ho => by
    rw [Nat.pow_succ] at h
    have hn : n = n % 2 + 2 * (n / 2) := by omega
    have hpow : a ^ n = a ^ (n % 2) * (a * a) ^ (n / 2) := by
      conv => lhs; rw [hn, Nat.pow_add, Nat.pow_mul]
      rw [show a ^ 2 = a * a from Nat.pow_two a]
    simp only [powM]
    rw [hpow]
    by_cases h1 : n % 2 = 1
    · rw [if_pos h1, powM_spec f _ _ _ p (by omega) (Nat.mod_lt _ (by omega)), h1, Nat.pow_one, Nat.mul_mod, Nat.mod_mod, ← Nat.pow_mod, ← Nat.mul_mod, Nat.mul_assoc]
    · rw [if_neg h1, powM_spec f _ _ _ p (by omega) ho, show n % 2 = 0 from by omega, Nat.pow_zero, Nat.one_mul, Nat.mul_mod, ← Nat.pow_mod, ← Nat.mul_mod]

theorem firsts_bd : ∀ q ∈ firsts, 0 < q ∧ q < 62 := by decide

def wits : List Nat := [2, 7, 61]
theorem wits_bd : ∀ q ∈ wits, 0 < q ∧ q < 62 := by decide

theorem c_Prime (n : Nat) (hn : n < 4294967296) :
    CallOK Tryd.prog 10 [.val (.int .u32 n)] [] (.val (.bool (primeF n))) [] [] := by
  refine callV (Z := []) tabOK mixedOK Tryd.func10 rfl (by kernel_rfl) rfl rfl (by kernel_rfl) rfl ?_
  intro W0 w0 ρ0 hE
  conv => whnf
  refine SW_loopN hE (fun k => k) [1, 12, 13] [1] (fun m fr hp => ∃ i, m = 18 - i ∧ i ≤ 18 ∧ trial n (firsts.drop i) = trial n firsts ∧ fr = [(1, .ptr 1 0 0 0), (12, .agg (firsts.map fun (q : Nat) => .val (.int .u32 q))), (13, .val (.int .i64 i))] ∧ hp = [(1, ⟨22, true, .one [.val (.int .u32 n)]⟩)]) 18 ?_ ?_ ?_
  · kernel_rfl
  · exact ⟨0, rfl, by omega, rfl, rfl, rfl⟩
  rintro m _ _ ⟨i, rfl, hi, hT, rfl, rfl⟩
  conv => whnf
  refine ⟨fun h => ?_, fun h => ?_⟩
  · have hi' : i < 18 := by have := of_decide_eq_true h; omega
    obtain ⟨q, hq⟩ : ∃ q, firsts[i]? = some q := ⟨firsts[i]'(by simpa [firsts] using hi'), by simp⟩
    have hqm : q ∈ firsts := List.mem_of_getElem? hq
    have hqb : 0 < q ∧ q < 62 := firsts_bd q hqm
    conv => whnf
    refine ⟨_, [], [], op_indexAgg rfl (ev_ok rfl) (l := firsts.map fun (q : Nat) => .int .u32 q) rfl (ev_ok rfl) tok60 rfl tok22 rfl rfl (by omega) (by omega) (v := .int .u32 q) (by simp [hq]) rfl, nil_fk, nil_new, ?_⟩
    conv => whnf
    refine ⟨by omega, ?_⟩
    conv => whnf
    have hdrop : firsts.drop i = q :: firsts.drop (i + 1) := by
      rw [List.drop_eq_getElem_cons (by simpa [firsts] using hi')]
      congr 1
      exact (List.getElem?_eq_some_iff.1 hq).2
    have e1 : (n : Int).tmod (q : Int) = ((n % q : Nat) : Int) := by rw [Int.tmod_eq_emod_of_nonneg (by omega)]; rfl
    rw [e1]
    refine ⟨fun h => ?_, fun h => ?_⟩
    · have hz : n % q = 0 := by have := of_decide_eq_true h; omega
      conv => whnf
      have e2 : primeF n = ((n : Int) == (q : Int)) := by
        rw [hdrop] at hT
        simp only [primeF, ← hT, trial, hz, if_true]
        rw [Bool.eq_iff_iff]; simp; omega
      rw [e2]
      exact Recast.refl _
    · have hz : ¬ n % q = 0 := by have := of_decide_eq_false h; omega
      conv => whnf
      have e3 : IntKind.i64.wrap ((i : Int) + 1) = ((i + 1 : Nat) : Int) := by rw [wrap_i64 (by omega) (by omega)]; omega
      rw [e3]
      refine ⟨18 - (i + 1), fun k => k, [1, 12, 13], [1], by omega, by kernel_rfl, i + 1, rfl, by omega, ?_, rfl, rfl⟩
      rw [← hT, hdrop]
      simp only [trial, hz, if_false]
  · have hi' : i = 18 := by have := of_decide_eq_false h; omega
    subst hi'
    have hT : trial n firsts = none := hT.symm
    conv => whnf
    refine ⟨fun h => ?_, fun h => ?_⟩
    · have h2 : n < 2 := by have := of_decide_eq_true h; omega
      conv => whnf
      have e2 : primeF n = false := by simp only [primeF, hT, h2, if_true]
      rw [e2]
      exact Recast.refl _
    have h2 : ¬ n < 2 := by have := of_decide_eq_false h; omega
    obtain ⟨m0, hm0⟩ := tzF_spec 32 (n - 1) (by omega) (by omega)
    have cTZ := c_TZ (tzF 32 (n - 1)) m0 (by rw [← hm0]; omega)
    rw [← hm0] at cTZ
    have eP : primeF n = wits.all (witF n (tzF 32 (n - 1))) := by simp only [wits, primeF, hT, h2, if_false, List.all_cons, List.all_nil, Bool.and_true]
    have hTb : tzF 32 (n - 1) < 32 := by
      have h1 : 2 ^ (tzF 32 (n - 1)) * 1 ≤ 2 ^ (tzF 32 (n - 1)) * (2 * m0 + 1) := Nat.mul_le_mul_left _ (by omega)
      rw [← hm0] at h1
      exact (Nat.pow_lt_pow_iff_right (a := 2) (by decide)).1 (by omega)
    generalize tzF 32 (n - 1) = T at *
    have e1 : IntKind.u32.wrap ((n : Int) - 1) = ((n - 1 : Nat) : Int) := by rw [wrap_u32 (by omega) (by omega)]; omega
    conv => whnf
    rw [e1]
    refine ⟨[], _, [], [], cTZ, nil_fk, nil_new, nil_upd, ?_⟩
    conv => whnf
    refine ⟨_, [], [], [], op_makeFunc rfl rfl rfl, nil_fk, nil_new, nil_upd, ?_⟩
    conv => whnf
    refine SW_loopN hE (fun k => k) [1, 6, 7, 30, 31] [1] (fun m fr hp => ∃ i, m = 3 - i ∧ i ≤ 3 ∧ (wits.drop i).all (witF n T) = wits.all (witF n T) ∧ fr = [(1, .ptr 1 0 0 0), (6, .val (.int .i64 T)), (7, .clo 33 [] [.ptr 1 0 0 0]), (30, .agg (wits.map fun (q : Nat) => .val (.int .u32 q))), (31, .val (.int .i64 i))] ∧ hp = [(1, ⟨22, true, .one [.val (.int .u32 n)]⟩)]) 3 ?_ ?_ ?_
    · kernel_rfl
    · exact ⟨0, rfl, by omega, rfl, rfl, rfl⟩
    rintro m _ _ ⟨i, rfl, hi, hW, rfl, rfl⟩
    conv => whnf
    refine ⟨fun h => ?_, fun h => ?_⟩
    · have hi' : i < 3 := by have := of_decide_eq_true h; omega
      obtain ⟨q, hq⟩ : ∃ q, wits[i]? = some q := ⟨wits[i]'(by simpa [wits] using hi'), by simp⟩
      have hqm : q ∈ wits := List.mem_of_getElem? hq
      have hqb : 0 < q ∧ q < 62 := wits_bd q hqm
      have hdrop : wits.drop i = q :: wits.drop (i + 1) := by
        rw [List.drop_eq_getElem_cons (by simpa [wits] using hi')]
        congr 1
        exact (List.getElem?_eq_some_iff.1 hq).2
      conv => whnf
      refine ⟨_, [], [], op_indexAgg rfl (ev_ok rfl) (l := wits.map fun (q : Nat) => .int .u32 q) rfl (ev_ok rfl) tok62 rfl tok22 rfl rfl (by omega) (by omega) (v := .int .u32 q) (by simp [hq]) rfl, nil_fk, nil_new, ?_⟩
      conv => whnf
      refine ⟨by omega, ?_⟩
      conv => whnf
      have e2 : IntKind.u64.wrap ((n - 1 : Nat) : Int) = ((n - 1 : Nat) : Int) := wrap_u64 (by omega) (by omega)
      have e3 : ishr .u64 ((n - 1 : Nat) : Int) (T : Int) = (((n - 1) / 2 ^ T : Nat) : Int) := ishr_nat .u64 (by show T ≤ 64; omega)
      have e4 : (n - 1) / 2 ^ T ≤ n - 1 := Nat.div_le_self _ _
      rw [e1, e2, e3]
      refine ⟨[], _, [], [], c_Pow q n ((n - 1) / 2 ^ T) (by omega) (by omega) (by omega) (by omega) (by omega), nil_fk, nil_new, nil_upd, ?_⟩
      have e5 : md ((q : Int) ^ ((n - 1) / 2 ^ T)) n = ((powM 64 (1 % n) q ((n - 1) / 2 ^ T) n : Nat) : Int) := by
        rw [powM_spec 64 _ _ _ _ (by omega) (Nat.mod_lt _ (by omega))]
        simp only [md]
        rw [if_neg (by omega), Nat.mul_mod, Nat.mod_mod, ← Nat.mul_mod, Nat.one_mul]
        simp
      have e6 : powM 64 (1 % n) q ((n - 1) / 2 ^ T) n < n := by
        rw [powM_spec 64 _ _ _ _ (by omega) (Nat.mod_lt _ (by omega))]; exact Nat.mod_lt _ (by omega)
      have eW : witF n T q = (powM 64 (1 % n) q ((n - 1) / 2 ^ T) n == 1 || (powM 64 (1 % n) q ((n - 1) / 2 ^ T) n == n - 1 || iterF (T - 1) (powM 64 (1 % n) q ((n - 1) / 2 ^ T) n) n)) := rfl
      rw [e5]
      generalize powM 64 (1 % n) q ((n - 1) / 2 ^ T) n = x at *
      conv => whnf
      refine ⟨by kernel_rfl, ?_⟩
      conv => whnf
      have eX : ((x : Int) == (n : Int) - 1) = (x == n - 1) := by rw [Bool.eq_iff_iff]; simp; omega
      have eY : ((x : Int) == 1) = (x == 1) := by rw [Bool.eq_iff_iff]; simp; omega
      have next : witF n T q = true → wits.all (witF n T) = (wits.drop (i + 1)).all (witF n T) := fun hw => by rw [← hW, hdrop, List.all_cons, hw, Bool.true_and]
      have stop : witF n T q = false → primeF n = false := fun hw => by rw [eP, ← hW, hdrop, List.all_cons, hw, Bool.false_and]
      have eI : IntKind.i64.wrap ((i : Int) + 1) = ((i + 1 : Nat) : Int) := by rw [wrap_i64 (by omega) (by omega)]; omega
      refine ⟨fun hx => ?_, fun hx => ?_⟩
      · conv => whnf
        refine ⟨fun _ => ?_, fun h' => by rw [hx] at h'; simp at h'⟩
        conv => whnf
        refine ⟨fun _ => ?_, fun h' => by rw [hx] at h'; simp at h'⟩
        conv => whnf
        refine ⟨_, _, [], [], c_minus x n 1 true (by omega) (by omega), one_fk rfl, nil_new, nil_upd, ?_⟩
        conv => whnf
        refine ⟨.val (.bool ((x : Int) == (n : Int) - 1)), [], [], [], op_pick rfl (ev_ok rfl) (fun hb => by rw [hx] at hb; cases hb) (fun _ => ev_ok rfl) (by rw [hx]; rfl) (c1 := .any), nil_fk, nil_new, nil_upd, ?_⟩
        conv => whnf
        have hx1 : (x == 1) = false := by rw [← eY]; exact hx
        rw [hx1, Bool.false_or] at eW
        rw [eX]
        refine ⟨fun h1 => ?_, fun h1 => ?_⟩
        · rw [h1, Bool.true_or] at eW
          conv => whnf
          rw [eI]
          exact ⟨3 - (i + 1), fun k => k, [1, 6, 7, 30, 31], [1], by omega, by kernel_rfl, i + 1, rfl, by omega, (next eW).symm, rfl, rfl⟩
        rw [h1, Bool.false_or] at eW
        conv => whnf
        have eT : IntKind.i64.wrap ((T : Int) - 1) = (T : Int) - 1 := wrap_i64 (by omega) (by omega)
        rw [eT]
        refine SW_loopN hE (fun k => k) [1, 6, 7, 10, 30, 31, 50, 51] [1] (fun m fr hp => ∃ y r, m = T - 1 - r ∧ y < n ∧ iterF (T - 1 - r) y n = iterF (T - 1) x n ∧ fr = [(1, .ptr 1 0 0 0), (6, .val (.int .i64 T)), (7, .clo 33 [] [.ptr 1 0 0 0]), (10, .val (.int .u32 (y : Nat))), (30, .agg (wits.map fun (q : Nat) => .val (.int .u32 q))), (31, .val (.int .i64 i)), (50, .val (.int .i64 ((T : Int) - 1))), (51, .val (.int .i64 (r : Nat)))] ∧ hp = [(1, ⟨22, true, .one [.val (.int .u32 n)]⟩)]) (T - 1) ?_ ?_ ?_
        · kernel_rfl
        · exact ⟨x, 0, rfl, e6, rfl, rfl, rfl⟩
        rintro m _ _ ⟨y, r, rfl, hy, hit, rfl, rfl⟩
        conv => whnf
        refine ⟨fun hr => ?_, fun hr => ?_⟩
        · have hr' : r + 1 < T := by have := of_decide_eq_true hr; omega
          conv => whnf
          refine ⟨[], _, [], [], c_Mul y y n (by omega) (by omega) (by omega) (by omega) (by omega) (by omega), nil_fk, nil_new, nil_upd, ?_⟩
          have eM : md ((y : Int) * y) n = ((y * y % n : Nat) : Int) := by
            simp only [md]
            rw [if_neg (by omega)]
            simp
          rw [eM]
          have hy2 : y * y % n < n := Nat.mod_lt _ (by omega)
          rw [show T - 1 - r = (T - 1 - (r + 1)) + 1 from by omega] at hit
          simp only [iterF] at hit
          generalize y * y % n = z at *
          have eZ : ((z : Int) == (n : Int) - 1) = (z == n - 1) := by rw [Bool.eq_iff_iff]; simp; omega
          conv => whnf
          refine ⟨_, _, [], [], c_minus z n 1 true (by omega) (by omega), one_fk rfl, nil_new, nil_upd, ?_⟩
          conv => whnf
          rw [eZ]
          refine ⟨fun h1 => ?_, fun h1 => ?_⟩
          · rw [h1, Bool.true_or] at hit
            rw [← hit] at eW
            conv => whnf
            rw [eI]
            exact ⟨3 - (i + 1), fun k => k, [1, 6, 7, 30, 31], [1], by omega, by kernel_rfl, i + 1, rfl, by omega, (next eW).symm, rfl, rfl⟩
          · rw [h1, Bool.false_or] at hit
            conv => whnf
            rw [show IntKind.i64.wrap ((r : Int) + 1) = ((r + 1 : Nat) : Int) from by rw [wrap_i64 (by omega) (by omega)]; omega]
            exact ⟨T - 1 - (r + 1), fun k => k, [1, 6, 7, 10, 30, 31, 50, 51], [1], by omega, by kernel_rfl, z, r + 1, rfl, hy2, hit, rfl, rfl⟩
        · have hr' : T - 1 - r = 0 := by have := of_decide_eq_false hr; omega
          rw [hr'] at hit
          have hit : false = iterF (T - 1) x n := hit
          rw [← hit] at eW
          conv => whnf
          rw [stop eW]
          exact Recast.refl _
      · conv => whnf
        refine ⟨fun h' => by rw [hx] at h'; simp at h', fun _ => ?_⟩
        conv => whnf
        refine ⟨fun h' => by rw [hx] at h'; simp at h', fun _ => ?_⟩
        conv => whnf
        refine ⟨.val (.bool true), [], [], [], op_pick rfl (ev_ok rfl) (fun _ => ev_ok rfl) (fun hb => by rw [hx] at hb; cases hb) (by rw [hx]; rfl) (c2 := .any), nil_fk, nil_new, nil_upd, ?_⟩
        conv => whnf
        refine ⟨fun _ => ?_, fun h' => by cases h'⟩
        have hx1 : (x == 1) = true := by rw [← eY]; exact hx
        rw [hx1, Bool.true_or] at eW
        conv => whnf
        rw [eI]
        exact ⟨3 - (i + 1), fun k => k, [1, 6, 7, 30, 31], [1], by omega, by kernel_rfl, i + 1, rfl, by omega, (next eW).symm, rfl, rfl⟩
    · have hi' : i = 3 := by have := of_decide_eq_false h; omega
      subst hi'
      have hW : wits.all (witF n T) = true := hW.symm
      rw [hW] at eP
      conv => whnf
      rw [eP]
      exact Recast.refl _
end Go.Proofs.YtghdcjhlhcoijaaDoor

/- Contracts: mods.Next, gussetlaw06.P. -/
namespace Go.Proofs.YtghdcjhlhcoijaaDoor
open Go.Sx
set_option linter.unusedSimpArgs false
set_option linter.unusedVariables false
set_option maxRecDepth 100000

/-- The first q below 2^31 that the test takes, from q on; f counts what is left. -/
def nextF : Nat → Nat → Int × Int
  | 0, _ => (0, 3)
  | f + 1, q => if primeF q then (q, 0) else nextF f (q + 1)

theorem c_Next (n : Nat) (hn : n < 4294967296) :
    CallOK Tryd.prog 8 [.val (.int .u32 n)] [] (.tup [.val (.int .u32 (nextF (2147483648 - (n + 1)) (n + 1)).1), .val (.int .i64 (nextF (2147483648 - (n + 1)) (n + 1)).2)]) [] [] := by
  refine callV (Z := []) tabOK mixedOK Tryd.func8 rfl (by kernel_rfl) rfl rfl (by kernel_rfl) rfl ?_
  intro W0 w0 ρ0 hE
  conv => whnf
  have e1 : IntKind.u64.wrap (IntKind.u64.wrap (n : Int) + 1) = ((n + 1 : Nat) : Int) := by rw [wrap_u64 (n := (n : Int)) (by omega) (by omega), wrap_u64 (by omega) (by omega)]; omega
  rw [e1]
  refine SW_loopN hE (fun k => k) [4] [] (fun m fr hp => ∃ q, m = 2147483648 - q ∧ q ≤ 4294967296 ∧ nextF (2147483648 - q) q = nextF (2147483648 - (n + 1)) (n + 1) ∧ fr = [(4, .val (.int .u64 (q : Nat)))] ∧ hp = []) (2147483648 - (n + 1)) ?_ ?_ ?_
  · kernel_rfl
  · exact ⟨n + 1, rfl, by omega, rfl, rfl, rfl⟩
  rintro m _ _ ⟨q, rfl, hq0, hT, rfl, rfl⟩
  conv => whnf
  refine ⟨fun h => ?_, fun h => ?_⟩
  · have hq : q < 2147483648 := by have := of_decide_eq_true h; omega
    rw [show 2147483648 - q = (2147483648 - (q + 1)) + 1 from by omega] at hT
    simp only [nextF] at hT
    conv => whnf
    have e2 : IntKind.u32.wrap (q : Int) = q := wrap_u32 (by omega) (by omega)
    rw [e2]
    refine ⟨[], _, [], [], c_Prime q (by omega), nil_fk, nil_new, nil_upd, ?_⟩
    conv => whnf
    refine ⟨fun h => ?_, fun h => ?_⟩
    · rw [if_pos h] at hT
      conv => whnf
      rw [e2, ← hT]
      exact Recast.refl _
    · rw [if_neg (by simp [h])] at hT
      conv => whnf
      rw [show IntKind.u64.wrap ((q : Int) + 1) = ((q + 1 : Nat) : Int) from by rw [wrap_u64 (by omega) (by omega)]; omega]
      exact ⟨2147483648 - (q + 1), fun k => k, [4], [], by omega, by kernel_rfl, q + 1, rfl, by omega, hT, rfl, rfl⟩
  · have hq : 2147483648 - q = 0 := by have := of_decide_eq_false h; omega
    rw [hq] at hT
    simp only [nextF] at hT
    conv => whnf
    rw [← hT]
    exact Recast.refl _
end Go.Proofs.YtghdcjhlhcoijaaDoor

/- The law's own helper, and the mods that take fractions. -/
namespace Go.Proofs.YtghdcjhlhcoijaaDoor
open Go.Sx
set_option linter.unusedSimpArgs false
set_option linter.unusedVariables false
set_option maxRecDepth 100000
set_option maxHeartbeats 2000000
variable {M : Nat}

theorem c_lawOf (ok : NatOK M) (n d : Int) (hM : fsz (n : Rat) + fsz (d : Rat) ≤ M) (h0 : -9223372036854775808 ≤ n) (h1 : n < 9223372036854775808) (h2 : -9223372036854775808 ≤ d) (h3 : d < 9223372036854775808) (hd : d ≠ 0) :
    CallOK Tryd.prog 34 [.val (.int .i64 n), .val (.int .i64 d)] [] (.frac ((n : Rat) / (d : Rat))) [] [] := by
  have k1 := c_fOf ok n d hM h0 h1 h2 h3 hd
  refine callV (Z := []) tabOK mixedOK Tryd.func34 rfl (by kernel_rfl) rfl rfl (by kernel_rfl) rfl ?_
  intro W0 w0 ρ0 hE
  conv => whnf
  (repeat (first | (refine step_w1 rfl rfl ?_; conv => whnf) | (refine step_w2 rfl rfl ?_; conv => whnf) | (refine step_i (by kernel_rfl) ?_; conv => whnf) | (refine And.intro (by first | decide | omega | (simp only [tiB5, tiB22, tiB3, tiB2, tiB9, tiB55, tiB49, tiB28, tiB4, tiB66, tiB68]; omega)) ?_; conv => whnf) | (refine ⟨[], _, [], [], (by assumption), nil_fk, nil_new, nil_upd, ?_⟩; conv => whnf) | (refine ⟨[], _, [_], [], (by assumption), nil_fk, one_new rfl, nil_upd, ?_⟩; conv => whnf) | (refine ⟨[_], _, [], [], (by assumption), one_fk rfl, nil_new, nil_upd, ?_⟩; conv => whnf) | (refine ⟨[_, _], _, [], [], (by assumption), two_fk rfl rfl, nil_new, nil_upd, ?_⟩; conv => whnf) | (refine ⟨[_], _, [_], [], (by assumption), one_fk rfl, one_new rfl, nil_upd, ?_⟩; conv => whnf) | (refine ⟨[_], _, [], [_], (by assumption), one_fk rfl, nil_new, one_upd (List.mem_cons_self ..) rfl rfl rfl, ?_⟩; conv => whnf) | (refine ⟨[_, _], _, [], [_, _], (by assumption), two_fk rfl rfl, nil_new, two_upd (List.mem_cons_self ..) rfl rfl rfl (List.mem_cons_of_mem _ (List.mem_cons_self ..)) rfl rfl rfl, ?_⟩; conv => whnf) | (refine ⟨[_, _], _, [_, _], [], (by assumption), two_fk rfl rfl, two_new rfl rfl, nil_upd, ?_⟩; conv => whnf) | (refine ⟨_, [], [], [], op_pickT rfl (ev_ok rfl) (ev_ok rfl), nil_fk, nil_new, nil_upd, ?_⟩; conv => whnf) | (refine ⟨_, [], [], [], op_pickF rfl (ev_ok rfl) (ev_ok rfl), nil_fk, nil_new, nil_upd, ?_⟩; conv => whnf) | (rw [beq_self_eq_true]; conv => whnf) | (rw [bne_self_eq_false]; conv => whnf))); exact Recast.refl _

theorem c_OfInt (ok : NatOK M) (z p : Int) (hz : sz z.natAbs < M) (h3 : 0 ≤ p) (h4 : p < 4294967296) :
    CallOK Tryd.prog 24 [.int z, .val (.int .u32 p)] [] (.val (.int .u32 (md z p))) [] [] := by
  have hb := ok.big
  have e1 : IntKind.u64.wrap p = ((p.toNat : Nat) : Int) := by rw [wrap_u64 h3 (by omega)]; omega
  have k1 := c_nOf p.toNat (by omega)
  have k2 := c_From false p.toNat
  rw [show signed false p.toNat = p from by simp [signed]; omega] at k2
  refine callV (Z := []) tabOK mixedOK Tryd.func24 rfl (by kernel_rfl) rfl rfl (by kernel_rfl) rfl ?_
  intro W0 w0 ρ0 hE
  conv => whnf
  rw [e1]
  by_cases hp : p = 0
  · subst hp
    have k3 := c_iDivZ ok z
    have k4 := c_Abs 0
    have k5 := c_U64 (Int.natAbs 0)
    (repeat (first | (refine step_w1 rfl rfl ?_; conv => whnf) | (refine step_w2 rfl rfl ?_; conv => whnf) | (refine step_i (by kernel_rfl) ?_; conv => whnf) | (refine And.intro (by first | decide | omega | (simp only [tiB5, tiB22, tiB3, tiB2, tiB9, tiB55, tiB49, tiB28, tiB4, tiB66, tiB68]; omega)) ?_; conv => whnf) | (refine ⟨[], _, [], [], (by assumption), nil_fk, nil_new, nil_upd, ?_⟩; conv => whnf) | (refine ⟨[], _, [_], [], (by assumption), nil_fk, one_new rfl, nil_upd, ?_⟩; conv => whnf) | (refine ⟨[_], _, [], [], (by assumption), one_fk rfl, nil_new, nil_upd, ?_⟩; conv => whnf) | (refine ⟨[_, _], _, [], [], (by assumption), two_fk rfl rfl, nil_new, nil_upd, ?_⟩; conv => whnf) | (refine ⟨[_], _, [_], [], (by assumption), one_fk rfl, one_new rfl, nil_upd, ?_⟩; conv => whnf) | (refine ⟨[_], _, [], [_], (by assumption), one_fk rfl, nil_new, one_upd (List.mem_cons_self ..) rfl rfl rfl, ?_⟩; conv => whnf) | (refine ⟨[_, _], _, [], [_, _], (by assumption), two_fk rfl rfl, nil_new, two_upd (List.mem_cons_self ..) rfl rfl rfl (List.mem_cons_of_mem _ (List.mem_cons_self ..)) rfl rfl rfl, ?_⟩; conv => whnf) | (refine ⟨[_, _], _, [_, _], [], (by assumption), two_fk rfl rfl, two_new rfl rfl, nil_upd, ?_⟩; conv => whnf) | (refine ⟨_, [], [], [], op_pickT rfl (ev_ok rfl) (ev_ok rfl), nil_fk, nil_new, nil_upd, ?_⟩; conv => whnf) | (refine ⟨_, [], [], [], op_pickF rfl (ev_ok rfl) (ev_ok rfl), nil_fk, nil_new, nil_upd, ?_⟩; conv => whnf) | (rw [beq_self_eq_true]; conv => whnf) | (rw [bne_self_eq_false]; conv => whnf))); exact Recast.refl _
  · have hps : sz p.natAbs < M := Nat.lt_of_le_of_lt (sz_le.2 (show p.natAbs < 2 ^ 32 by omega)) (by omega)
    have k3 := c_iDiv ok z p hz hps hp
    have k4 := c_Abs (z % p)
    have k5 := c_U64 (z % p).natAbs
    (repeat (first | (refine step_w1 rfl rfl ?_; conv => whnf) | (refine step_w2 rfl rfl ?_; conv => whnf) | (refine step_i (by kernel_rfl) ?_; conv => whnf) | (refine And.intro (by first | decide | omega | (simp only [tiB5, tiB22, tiB3, tiB2, tiB9, tiB55, tiB49, tiB28, tiB4, tiB66, tiB68]; omega)) ?_; conv => whnf) | (refine ⟨[], _, [], [], (by assumption), nil_fk, nil_new, nil_upd, ?_⟩; conv => whnf) | (refine ⟨[], _, [_], [], (by assumption), nil_fk, one_new rfl, nil_upd, ?_⟩; conv => whnf) | (refine ⟨[_], _, [], [], (by assumption), one_fk rfl, nil_new, nil_upd, ?_⟩; conv => whnf) | (refine ⟨[_, _], _, [], [], (by assumption), two_fk rfl rfl, nil_new, nil_upd, ?_⟩; conv => whnf) | (refine ⟨[_], _, [_], [], (by assumption), one_fk rfl, one_new rfl, nil_upd, ?_⟩; conv => whnf) | (refine ⟨[_], _, [], [_], (by assumption), one_fk rfl, nil_new, one_upd (List.mem_cons_self ..) rfl rfl rfl, ?_⟩; conv => whnf) | (refine ⟨[_, _], _, [], [_, _], (by assumption), two_fk rfl rfl, nil_new, two_upd (List.mem_cons_self ..) rfl rfl rfl (List.mem_cons_of_mem _ (List.mem_cons_self ..)) rfl rfl rfl, ?_⟩; conv => whnf) | (refine ⟨[_, _], _, [_, _], [], (by assumption), two_fk rfl rfl, two_new rfl rfl, nil_upd, ?_⟩; conv => whnf) | (refine ⟨_, [], [], [], op_pickT rfl (ev_ok rfl) (ev_ok rfl), nil_fk, nil_new, nil_upd, ?_⟩; conv => whnf) | (refine ⟨_, [], [], [], op_pickF rfl (ev_ok rfl) (ev_ok rfl), nil_fk, nil_new, nil_upd, ?_⟩; conv => whnf) | (rw [beq_self_eq_true]; conv => whnf) | (rw [bne_self_eq_false]; conv => whnf)))
    have h5 := Int.emod_nonneg z hp
    have h6 := Int.emod_lt_of_pos z (show 0 < p by omega)
    rw [low_small (by omega), wrap_u32 (by omega) (by omega)]
    rw [show (((z % p).natAbs : Nat) : Int) = md z p from by simp only [md, hp, if_false]; omega]
    exact Recast.refl _

/-- The residue of a natural number. -/
def mdN (n p : Nat) : Nat := if p = 0 then 0 else n % p
theorem md_nat (n p : Nat) : md n p = (mdN n p : Nat) := by
  unfold md mdN
  by_cases h : p = 0 <;> simp [h]
theorem mdN_le {n p : Nat} (hp : p < 4294967296) : mdN n p < 4294967296 := by
  unfold mdN
  split
  · omega
  · have := Nat.mod_lt n (show 0 < p by omega); omega

theorem invF_bd {a p : Nat} (h : p < 4294967296) : 0 ≤ (invF a p).1 ∧ (invF a p).1 < 4294967296 := by
  unfold invF
  split
  · exact ⟨by decide, by decide⟩
  · simp only []
    split
    · have h1 := Int.emod_nonneg (eu p (a % p) 0 1).2 (show (p : Int) ≠ 0 by omega)
      have h2 := Int.emod_lt_of_pos (eu p (a % p) 0 1).2 (show (0 : Int) < p by omega)
      exact ⟨h1, by omega⟩
    · exact ⟨by decide, by decide⟩

/-- What mods.OfFrac gives. -/
def ofFracF (q : Rat) (p : Nat) : Int × Bool :=
  if (invF (mdN q.den p) p).2 then (md (md q.num p * (invF (mdN q.den p) p).1) p, true) else (0, false)

theorem c_OfFrac (ok : NatOK M) (q : Rat) (p : Nat) (hq : fsz q < M) (hp : p < 4294967296) :
    CallOK Tryd.prog 29 [.frac q, .val (.int .u32 p)] [] (.tup [.val (.int .u32 (ofFracF q p).1), .val (.bool (ofFracF q p).2)]) [] [] := by
  have h1 := fsz_num q
  have h2 := fsz_den q
  have k1 := c_Den ok q (by omega)
  have k2 := c_From false q.den
  rw [show signed false q.den = (q.den : Int) from rfl] at k2
  have k3 := c_OfInt ok q.den p (by rw [Int.natAbs_natCast]; omega) (by omega) (by omega)
  rw [md_nat] at k3
  have k4 := c_Inv (mdN q.den p) p (mdN_le hp) hp
  have k5 := c_Num q
  have k6 := c_OfInt ok q.num p (by omega) (by omega) (by omega)
  obtain ⟨b1, b2⟩ := invF_bd (a := mdN q.den p) hp
  have h5 := md_bd (n := q.num) (p := p) (by omega)
  have k7 := c_Mul (md q.num p) (invF (mdN q.den p) p).1 p h5.1 (by omega) b1 b2 (by omega) (by omega)
  have hr : ofFracF q p = if (invF (mdN q.den p) p).2 then (md (md q.num p * (invF (mdN q.den p) p).1) p, true) else (0, false) := rfl
  rw [hr]
  generalize invF (mdN q.den p) p = iv at *
  obtain ⟨v, b⟩ := iv
  refine callV (Z := []) tabOK mixedOK Tryd.func29 rfl (by kernel_rfl) rfl rfl (by kernel_rfl) rfl ?_
  intro W0 w0 ρ0 hE
  conv => whnf
  cases b
  · (repeat (first | (refine step_w1 rfl rfl ?_; conv => whnf) | (refine step_w2 rfl rfl ?_; conv => whnf) | (refine step_i (by kernel_rfl) ?_; conv => whnf) | (refine And.intro (by first | decide | omega | (simp only [tiB5, tiB22, tiB3, tiB2, tiB9, tiB55, tiB49, tiB28, tiB4, tiB66, tiB68]; omega)) ?_; conv => whnf) | (refine ⟨[], _, [], [], (by assumption), nil_fk, nil_new, nil_upd, ?_⟩; conv => whnf) | (refine ⟨[], _, [_], [], (by assumption), nil_fk, one_new rfl, nil_upd, ?_⟩; conv => whnf) | (refine ⟨[_], _, [], [], (by assumption), one_fk rfl, nil_new, nil_upd, ?_⟩; conv => whnf) | (refine ⟨[_, _], _, [], [], (by assumption), two_fk rfl rfl, nil_new, nil_upd, ?_⟩; conv => whnf) | (refine ⟨[_], _, [_], [], (by assumption), one_fk rfl, one_new rfl, nil_upd, ?_⟩; conv => whnf) | (refine ⟨[_], _, [], [_], (by assumption), one_fk rfl, nil_new, one_upd (List.mem_cons_self ..) rfl rfl rfl, ?_⟩; conv => whnf) | (refine ⟨[_, _], _, [], [_, _], (by assumption), two_fk rfl rfl, nil_new, two_upd (List.mem_cons_self ..) rfl rfl rfl (List.mem_cons_of_mem _ (List.mem_cons_self ..)) rfl rfl rfl, ?_⟩; conv => whnf) | (refine ⟨[_, _], _, [_, _], [], (by assumption), two_fk rfl rfl, two_new rfl rfl, nil_upd, ?_⟩; conv => whnf) | (refine ⟨_, [], [], [], op_pickT rfl (ev_ok rfl) (ev_ok rfl), nil_fk, nil_new, nil_upd, ?_⟩; conv => whnf) | (refine ⟨_, [], [], [], op_pickF rfl (ev_ok rfl) (ev_ok rfl), nil_fk, nil_new, nil_upd, ?_⟩; conv => whnf) | (rw [beq_self_eq_true]; conv => whnf) | (rw [bne_self_eq_false]; conv => whnf))); exact Recast.refl _
  · (repeat (first | (refine step_w1 rfl rfl ?_; conv => whnf) | (refine step_w2 rfl rfl ?_; conv => whnf) | (refine step_i (by kernel_rfl) ?_; conv => whnf) | (refine And.intro (by first | decide | omega | (simp only [tiB5, tiB22, tiB3, tiB2, tiB9, tiB55, tiB49, tiB28, tiB4, tiB66, tiB68]; omega)) ?_; conv => whnf) | (refine ⟨[], _, [], [], (by assumption), nil_fk, nil_new, nil_upd, ?_⟩; conv => whnf) | (refine ⟨[], _, [_], [], (by assumption), nil_fk, one_new rfl, nil_upd, ?_⟩; conv => whnf) | (refine ⟨[_], _, [], [], (by assumption), one_fk rfl, nil_new, nil_upd, ?_⟩; conv => whnf) | (refine ⟨[_, _], _, [], [], (by assumption), two_fk rfl rfl, nil_new, nil_upd, ?_⟩; conv => whnf) | (refine ⟨[_], _, [_], [], (by assumption), one_fk rfl, one_new rfl, nil_upd, ?_⟩; conv => whnf) | (refine ⟨[_], _, [], [_], (by assumption), one_fk rfl, nil_new, one_upd (List.mem_cons_self ..) rfl rfl rfl, ?_⟩; conv => whnf) | (refine ⟨[_, _], _, [], [_, _], (by assumption), two_fk rfl rfl, nil_new, two_upd (List.mem_cons_self ..) rfl rfl rfl (List.mem_cons_of_mem _ (List.mem_cons_self ..)) rfl rfl rfl, ?_⟩; conv => whnf) | (refine ⟨[_, _], _, [_, _], [], (by assumption), two_fk rfl rfl, two_new rfl rfl, nil_upd, ?_⟩; conv => whnf) | (refine ⟨_, [], [], [], op_pickT rfl (ev_ok rfl) (ev_ok rfl), nil_fk, nil_new, nil_upd, ?_⟩; conv => whnf) | (refine ⟨_, [], [], [], op_pickF rfl (ev_ok rfl) (ev_ok rfl), nil_fk, nil_new, nil_upd, ?_⟩; conv => whnf) | (rw [beq_self_eq_true]; conv => whnf) | (rw [bne_self_eq_false]; conv => whnf))); exact Recast.refl _
end Go.Proofs.YtghdcjhlhcoijaaDoor

/- Contracts: nats for small numbers. -/
namespace Go.Proofs.YtghdcjhlhcoijaaDoor
open Go.Sx
set_option linter.unusedSimpArgs false
set_option linter.unusedVariables false
set_option maxRecDepth 100000

theorem c_Add64 (x y : Nat) (hx : x < 18446744073709551616) (hy : y < 18446744073709551616) :
    CallOK Tryd.prog 73 [.val (.int .u64 x), .val (.int .u64 y), .val (.int .u64 0)] [] (.tup [.val (.int .u64 ((x + y) % 18446744073709551616 : Nat)), .val (.int .u64 ((x + y) / 18446744073709551616 : Nat))]) [] [] := by
  refine .inr fun ρ w z hz hp => ?_
  simp only [HasZ, HasC] at hz
  obtain ⟨_, _, rfl, ⟨rfl, _⟩, _, _, rfl, ⟨rfl, _⟩, _, _, rfl, ⟨rfl, _⟩, rfl⟩ := hz
  refine ⟨.tuple #[.int .u64 ((x + y) % 18446744073709551616 : Nat), .int .u64 ((x + y) / 18446744073709551616 : Nat)], ρ, w, ?_, .pure ?_⟩
  · show (callFunc 73 #[.int .u64 x, .int .u64 y, .int .u64 0]).run Tryd.prog w = _
    rw [run_callFunc_extern Tryd.func73 (by kernel_rfl) (by kernel_rfl) (by kernel_rfl) (e := add64Entry) (by kernel_rfl), run_add64 x y 0 (by omega) (by omega) (by omega) (by omega)]
    simp only [Result.andThen]
    congr 5 <;> omega
  · simp only [Has, HasZ, HasC]
    exact ⟨_, ⟨_, _, rfl, ⟨rfl, rfl⟩, _, _, rfl, ⟨rfl, rfl⟩, rfl⟩, rfl⟩

theorem s_Cmp (a b : Nat) (ha : a < 18446744073709551616) (hb : b < 18446744073709551616) :
    CallOK Tryd.prog 86 [.nat a, .nat b] [] (.val (.int .i64 ((a : Int) - b).sign)) [] [] := by
  refine callV (Z := []) tabOK mixedOK Tryd.func86 rfl (by kernel_rfl) rfl rfl (by kernel_rfl) rfl ?_
  intro W0 w0 ρ0 hE
  conv => whnf
  rw [big_eq, decide_eq_true ha]
  refine ⟨fun _ => ?_, fun h => by cases h⟩
  conv => whnf
  refine ⟨fun _ => ?_, fun h => by cases h⟩
  conv => whnf
  refine ⟨fun _ => ?_, fun h => by cases h⟩
  conv => whnf
  rw [big_eq, decide_eq_true hb]
  refine ⟨.val (.bool true), [], [], [], op_pick rfl (ev_ok rfl) (fun _ => ev_ok rfl) (fun hb => by cases hb) rfl (c2 := .any), nil_fk, nil_new, nil_upd, ?_⟩
  conv => whnf
  refine ⟨fun _ => ?_, fun h => by cases h⟩
  conv => whnf
  rw [low_small ha, low_small hb]
  refine ⟨fun h => ?_, fun h => ?_⟩
  · have hz : ((a : Int) - b).sign = -1 := Int.sign_eq_neg_one_of_neg (by have := of_decide_eq_true h; omega)
    conv => whnf
    rw [hz]
    exact Recast.refl _
  · have h1 := of_decide_eq_false h
    conv => whnf
    rw [low_small ha, low_small hb]
    refine ⟨fun h => ?_, fun h => ?_⟩
    · have hz : ((a : Int) - b).sign = 1 := Int.sign_eq_one_of_pos (by have := of_decide_eq_true h; omega)
      conv => whnf
      rw [hz]
      exact Recast.refl _
    · have hz : ((a : Int) - b).sign = 0 := by rw [Int.sign_eq_zero_iff_zero]; have := of_decide_eq_false h; omega
      conv => whnf
      rw [hz]
      exact Recast.refl _

theorem hasC_nat {x : Int} {n : Nat} {s : ByteArray} (hx : x = n) (hs : s = ByteArray.empty) (hn : n < 18446744073709551616) : ∀ ρ y, HasC ρ (.agg [.val (.int .u64 x), .val (.string s)]) y → HasC ρ (.nat n) y :=
  hasC_flat (l := natCells n) (by rw [natCells_small hn, hx, hs]; rfl) rfl (fun _ h => by cases h)

theorem recast_nat {n : Nat} (hn : n < 18446744073709551616) : Recast (.agg [.val (.int .u64 n), .val (.string .empty)]) (.nat n) :=
  recast_flat (l := natCells n) (by rw [natCells_small hn]; rfl) rfl (fun _ h => by cases h)

theorem s_Add (a b : Nat) (h : a + b < 18446744073709551616) :
    CallOK Tryd.prog 51 [.nat a, .nat b] [] (.nat (a + b)) [] [] := by
  have ha : a < 18446744073709551616 := by omega
  have hb : b < 18446744073709551616 := by omega
  refine callV (Z := []) tabOK mixedOK Tryd.func51 rfl (by kernel_rfl) rfl rfl (by kernel_rfl) rfl ?_
  intro W0 w0 ρ0 hE
  conv => whnf
  rw [big_eq, decide_eq_true ha]
  refine ⟨fun _ => ?_, fun h => by cases h⟩
  conv => whnf
  refine ⟨fun _ => ?_, fun h => by cases h⟩
  conv => whnf
  refine ⟨fun _ => ?_, fun h => by cases h⟩
  conv => whnf
  rw [big_eq, decide_eq_true hb]
  refine ⟨.val (.bool true), [], [], [], op_pick rfl (ev_ok rfl) (fun _ => ev_ok rfl) (fun hb => by cases hb) rfl (c2 := .any), nil_fk, nil_new, nil_upd, ?_⟩
  conv => whnf
  refine ⟨fun _ => ?_, fun h => by cases h⟩
  conv => whnf
  rw [low_small ha, low_small hb]
  refine ⟨[], _, [], [], c_Add64 a b ha hb, nil_fk, nil_new, nil_upd, ?_⟩
  rw [Nat.mod_eq_of_lt h, Nat.div_eq_of_lt h]
  conv => whnf
  refine ⟨fun _ => ?_, fun h => by cases h⟩
  conv => whnf
  exact recast_nat h

theorem s_Sub (a b : Nat) (ha : a < 18446744073709551616) (h : b ≤ a) :
    CallOK Tryd.prog 72 [.nat a, .nat b] [] (.tup [.nat (a - b), .val (.bool true)]) [] [] := by
  have hb : b < 18446744073709551616 := by omega
  refine callV (Z := []) tabOK mixedOK Tryd.func72 rfl (by kernel_rfl) rfl rfl (by kernel_rfl) rfl ?_
  intro W0 w0 ρ0 hE
  conv => whnf
  refine ⟨[], _, [], [], s_Cmp a b ha hb, nil_fk, nil_new, nil_upd, ?_⟩
  have hs : decide (((a : Int) - b).sign < 0) = false := by
    rw [decide_eq_false_iff_not, Int.not_lt]
    exact Int.sign_nonneg_iff.2 (by omega)
  conv => whnf
  rw [hs]
  refine ⟨fun h => (by cases h), fun _ => ?_⟩
  conv => whnf
  rw [big_eq, decide_eq_true ha]
  refine ⟨fun _ => ?_, fun h => by cases h⟩
  conv => whnf
  refine recast_tup2 (hasC_nat ?_ rfl (by omega)) rfl (fun _ _ h => h) rfl
  rw [low_small ha, low_small hb, wrap_u64 (by omega) (by omega)]
  omega

theorem s_Div (a b : Nat) (ha : a < 18446744073709551616) (hb : b < 18446744073709551616) (h0 : b ≠ 0) :
    CallOK Tryd.prog 69 [.nat a, .nat b] [] (.tup [.nat (a / b), .nat (a % b), .val (.bool true)]) [] [] := by
  refine callV (Z := []) tabOK mixedOK Tryd.func69 rfl (by kernel_rfl) rfl rfl (by kernel_rfl) rfl ?_
  intro W0 w0 ρ0 hE
  conv => whnf
  refine ⟨[], _, [], [], c_nZero b, nil_fk, nil_new, nil_upd, ?_⟩
  rw [decide_eq_false h0]
  conv => whnf
  refine ⟨fun h => (by cases h), fun _ => ?_⟩
  conv => whnf
  refine ⟨[], _, [], [], s_Cmp a b ha hb, nil_fk, nil_new, nil_upd, ?_⟩
  conv => whnf
  refine ⟨fun h => ?_, fun h => ?_⟩
  · have hlt : a < b := by
      have h := of_decide_eq_true h
      have := Int.sign_neg_iff.1 h
      omega
    conv => whnf
    refine ⟨by kernel_rfl, ?_⟩
    conv => whnf
    rw [Nat.div_eq_of_lt hlt, Nat.mod_eq_of_lt hlt]
    exact Recast.refl _
  · have hle : b ≤ a := by
      have h := of_decide_eq_false h
      have := Int.sign_nonneg_iff.1 (Int.not_lt.1 h)
      omega
    conv => whnf
    rw [big_eq, decide_eq_true ha]
    refine ⟨fun _ => ?_, fun h => by cases h⟩
    conv => whnf
    rw [low_small hb]
    refine ⟨by omega, ?_⟩
    conv => whnf
    refine ⟨by rw [low_small hb]; omega, ?_⟩
    conv => whnf
    refine ⟨by kernel_rfl, ?_⟩
    conv => whnf
    have hd : a / b ≤ a := Nat.div_le_self a b
    have hm : a % b ≤ a := Nat.mod_le a b
    refine recast_tup3 (hasC_nat ?_ rfl (by omega)) rfl (hasC_nat ?_ rfl (by omega)) rfl (fun _ _ h => h) rfl
    · rw [low_small ha, show (a : Int).tdiv (b : Int) = ((a / b : Nat) : Int) from rfl, wrap_u64 (Int.natCast_nonneg _) (by exact Int.ofNat_lt.2 (Nat.lt_of_le_of_lt hd ha))]
    · rw [low_small ha, low_small hb]; rfl

theorem s_Gcd (a b : Nat) (ha : a < 18446744073709551616) (hb : b < 18446744073709551616) :
    CallOK Tryd.prog 77 [.nat a, .nat b] [] (.nat (Nat.gcd a b)) [] [] := by
  refine callV (Z := []) tabOK mixedOK Tryd.func77 rfl (by kernel_rfl) rfl rfl (by kernel_rfl) rfl ?_
  intro W0 w0 ρ0 hE
  conv => whnf
  refine SW_loopN hE (fun k => k) [2, 3, 4] [2, 3, 4] (fun m fr hp => ∃ x, x < 18446744073709551616 ∧ m < 18446744073709551616 ∧ Nat.gcd x m = Nat.gcd a b ∧ fr = [(2, .ptr 2 0 0 0), (3, .ptr 3 0 0 0), (4, .ptr 4 0 0 0)] ∧ hp = [(2, ⟨45, true, .one [.nat x]⟩), (3, ⟨45, true, .one [.nat m]⟩), (4, ⟨45, true, .one [.nat 0]⟩)]) b ?_ ?_ ?_
  · kernel_rfl
  · exact ⟨a, ha, hb, rfl, rfl, rfl⟩
  rintro m _ _ ⟨x, hx, hm, hg, rfl, rfl⟩
  conv => whnf
  refine ⟨[], _, [], [], c_nZero m, nil_fk, nil_new, nil_upd, ?_⟩
  conv => whnf
  refine ⟨fun h => ?_, fun h => ?_⟩
  · have h0 : m ≠ 0 := by simpa using h
    conv => whnf
    refine ⟨[], _, [], [], s_Div x m hx hm h0, nil_fk, nil_new, nil_upd, ?_⟩
    conv => whnf
    refine ⟨by kernel_rfl, ?_⟩
    have hlt := Nat.mod_lt x (Nat.pos_of_ne_zero h0)
    refine ⟨x % m, fun k => k, [2, 3, 4], [2, 3, 4], hlt, by kernel_rfl, m, hm, by omega, ?_, rfl, rfl⟩
    rw [← hg, Nat.gcd_comm m, ← Nat.gcd_rec, Nat.gcd_comm]
  · have h0 : m = 0 := by simpa using h
    subst h0
    conv => whnf
    rw [← hg, Nat.gcd_zero_right]
    exact Recast.refl _

theorem s_SubF (a b : Nat) (ha : a < 18446744073709551616) (hb : b < 18446744073709551616) (h : a < b) :
    CallOK Tryd.prog 72 [.nat a, .nat b] [] (.tup [.nat 0, .val (.bool false)]) [] [] := by
  refine callV (Z := []) tabOK mixedOK Tryd.func72 rfl (by kernel_rfl) rfl rfl (by kernel_rfl) rfl ?_
  intro W0 w0 ρ0 hE
  conv => whnf
  refine ⟨[], _, [], [], s_Cmp a b ha hb, nil_fk, nil_new, nil_upd, ?_⟩
  have hs : decide (((a : Int) - b).sign < 0) = true := by
    rw [decide_eq_true_eq]
    exact Int.sign_neg_iff.2 (by omega)
  conv => whnf
  rw [hs]
  refine ⟨fun _ => ?_, fun h => by cases h⟩
  conv => whnf
  exact Recast.refl _

theorem c_DivZ (a : Nat) : CallOK Tryd.prog 69 [.nat a, .nat 0] [] (.tup [.nat 0, .nat 0, .val (.bool false)]) [] [] := by
  refine callV (Z := []) tabOK mixedOK Tryd.func69 rfl (by kernel_rfl) rfl rfl (by kernel_rfl) rfl ?_
  intro W0 w0 ρ0 hE
  conv => whnf
  refine ⟨[], _, [], [], c_nZero 0, nil_fk, nil_new, nil_upd, ?_⟩
  conv => whnf
  refine ⟨fun _ => ?_, fun h => by cases h⟩
  conv => whnf
  exact Recast.refl _

end Go.Proofs.YtghdcjhlhcoijaaDoor

/- Plain number theory: Fermat's little theorem. -/
namespace Go.Sx

structure PrimeN (p : Nat) : Prop where
  two : 2 ≤ p
  div : ∀ d, d ∣ p → d = 1 ∨ d = p

theorem PrimeN.coprime {p a : Nat} (h : PrimeN p) (ha : ¬ p ∣ a) : Nat.Coprime p a := by
  rcases h.div _ (Nat.gcd_dvd_left p a) with h1 | h1
  · exact h1
  · exact absurd (h1 ▸ Nat.gcd_dvd_right p a) ha

theorem PrimeN.dvd_mul {p a b : Nat} (h : PrimeN p) (hd : p ∣ a * b) : p ∣ a ∨ p ∣ b := by
  by_cases ha : p ∣ a
  · exact .inl ha
  · exact .inr ((h.coprime ha).dvd_of_dvd_mul_left hd)

def choose : Nat → Nat → Nat
  | _, 0 => 1
  | 0, _ + 1 => 0
  | n + 1, k + 1 => choose n k + choose n (k + 1)

theorem choose_zero (n : Nat) : choose n 0 = 1 := by cases n <;> rfl
theorem choose_gt : ∀ (n k : Nat), n < k → choose n k = 0
  | _, 0, h => by omega
  | 0, _ + 1, _ => rfl
  | n + 1, k + 1, h => by rw [choose, choose_gt n k (by omega), choose_gt n (k + 1) (by omega)]
theorem choose_self : ∀ n, choose n n = 1
  | 0 => rfl
  | n + 1 => by rw [choose, choose_self n, choose_gt n (n + 1) (by omega)]

theorem choose_succ : ∀ (n k : Nat), (n + 1) * choose n k = choose (n + 1) (k + 1) * (k + 1)
  | 0, 0 => rfl
  | 0, k + 1 => by simp [choose]
  | n + 1, 0 => by
    have := choose_succ n 0
    simp only [choose, choose_zero] at this ⊢
    omega
  | n + 1, k + 1 => by
    have h1 := choose_succ n k
    have h2 := choose_succ n (k + 1)
    have e1 : (n + 1) * choose (n + 1) (k + 1) = (n + 1) * choose n k + (n + 1) * choose n (k + 1) := by
      rw [← Nat.mul_add]; rfl
    have r : (choose (n + 1) (k + 1) + choose (n + 1) (k + 1 + 1)) * (k + 1 + 1) = choose (n + 1) (k + 1) * (k + 1) + choose (n + 1) (k + 1) + choose (n + 1) (k + 1 + 1) * (k + 1 + 1) := by rw [Nat.add_mul, Nat.mul_succ]
    show (n + 1 + 1) * choose (n + 1) (k + 1) = (choose (n + 1) (k + 1) + choose (n + 1) (k + 1 + 1)) * (k + 1 + 1)
    rw [r, ← h1, ← h2, Nat.succ_mul, e1]
    omega

theorem PrimeN.choose {p k : Nat} (h : PrimeN p) (h0 : 0 < k) (hk : k < p) : p ∣ choose p k := by
  obtain ⟨k, rfl⟩ : ∃ j, k = j + 1 := ⟨k - 1, by omega⟩
  obtain ⟨q, rfl⟩ : ∃ j, p = j + 1 := ⟨p - 1, by omega⟩
  have := choose_succ q k
  rcases h.dvd_mul (show q + 1 ∣ Sx.choose (q + 1) (k + 1) * (k + 1) from ⟨_, this.symm⟩) with h1 | h1
  · exact h1
  · exact absurd (Nat.le_of_dvd (by omega) h1) (by omega)

def bsum (n a : Nat) : Nat → Nat
  | 0 => 0
  | m + 1 => bsum n a m + choose n m * a ^ m

theorem bsum_succ (n a : Nat) : ∀ m, bsum (n + 1) a (m + 1) = a * bsum n a m + bsum n a (m + 1)
  | 0 => by simp [bsum, choose_zero]
  | m + 1 => by
    have ih := bsum_succ n a m
    have e : bsum (n + 1) a (m + 2) = bsum (n + 1) a (m + 1) + choose (n + 1) (m + 1) * a ^ (m + 1) := rfl
    have e1 : bsum n a (m + 2) = bsum n a (m + 1) + choose n (m + 1) * a ^ (m + 1) := rfl
    have e2 : bsum n a (m + 1) = bsum n a m + choose n m * a ^ m := rfl
    rw [e, ih, e1, show choose (n + 1) (m + 1) = choose n m + choose n (m + 1) from rfl, Nat.add_mul, Nat.pow_succ]
    have e3 : a * bsum n a (m + 1) = a * bsum n a m + choose n m * (a ^ m * a) := by
      rw [e2, Nat.mul_add, Nat.mul_left_comm, Nat.mul_comm a (a ^ m)]
    omega

theorem binom (a : Nat) : ∀ n, (a + 1) ^ n = bsum n a (n + 1)
  | 0 => by simp [bsum, choose]
  | n + 1 => by
    rw [Nat.pow_succ, binom a n, bsum_succ n a (n + 1)]
    have : bsum n a (n + 2) = bsum n a (n + 1) := by
      show bsum n a (n + 1) + choose n (n + 1) * a ^ (n + 1) = _
      rw [choose_gt n (n + 1) (by omega)]; omega
    rw [show n + 1 + 1 = n + 2 from rfl, this, Nat.mul_add, Nat.mul_one, Nat.mul_comm]

theorem bsum_mod {p a : Nat} (h : PrimeN p) : ∀ m, m + 1 ≤ p → bsum p a (m + 1) % p = 1 % p
  | 0, _ => by simp [bsum, choose_zero]
  | m + 1, hm => by
    have ih := bsum_mod (a := a) h m (by omega)
    show (bsum p a (m + 1) + Sx.choose p (m + 1) * a ^ (m + 1)) % p = _
    rw [Nat.add_mod, ih, Nat.mul_mod, Nat.mod_eq_zero_of_dvd (h.choose (by omega) hm), Nat.zero_mul, Nat.zero_mod, Nat.add_zero, Nat.mod_mod]

theorem fermat' {p : Nat} (h : PrimeN p) : ∀ a, a ^ p % p = a % p
  | 0 => by rw [Nat.zero_pow (by have := h.two; omega)]
  | a + 1 => by
    have ih := fermat' h a
    have h2 := h.two
    obtain ⟨q, rfl⟩ : ∃ j, p = j + 1 := ⟨p - 1, by omega⟩
    rw [binom]
    show (bsum (q + 1) a (q + 1) + Sx.choose (q + 1) (q + 1) * a ^ (q + 1)) % (q + 1) = _
    rw [choose_self, Nat.one_mul, Nat.add_mod, bsum_mod h q (by omega), ih, ← Nat.add_mod, Nat.add_comm]

/-- FERMAT. -/
theorem fermat {p a : Nat} (h : PrimeN p) (ha : ¬ p ∣ a) : a ^ (p - 1) % p = 1 := by
  have h2 := h.two
  obtain ⟨q, rfl⟩ : ∃ j, p = j + 1 := ⟨p - 1, by omega⟩
  have h1 := fermat' h a
  show a ^ q % (q + 1) = 1
  have hpos : 1 ≤ a ^ q := Nat.pow_pos (Nat.pos_of_ne_zero fun h0 => ha (by subst h0; exact Nat.dvd_zero _))
  have hle : a ≤ a ^ (q + 1) := by rw [Nat.pow_succ]; exact Nat.le_mul_of_pos_left _ hpos
  have hd : q + 1 ∣ a * (a ^ q - 1) := by
    rw [Nat.mul_sub, Nat.mul_one, Nat.mul_comm, ← Nat.pow_succ]
    exact Nat.dvd_of_mod_eq_zero (Nat.sub_mod_eq_zero_of_mod_eq h1)
  have := (h.coprime ha).dvd_of_dvd_mul_left hd
  obtain ⟨c, hc⟩ := this
  rw [show a ^ q = 1 + (q + 1) * c from by omega, Nat.add_mul_mod_self_left, Nat.mod_eq_of_lt (by omega)]

/-- Trial division. -/
def noDiv (n : Nat) : Nat → Nat → Bool
  | 0, _ => true
  | f + 1, d => !(n % d == 0) && noDiv n f (d + 1)

theorem noDiv_spec {n : Nat} : ∀ {f d : Nat}, noDiv n f d = true → ∀ e, d ≤ e → e < d + f → ¬ e ∣ n
  | 0, _, _, e, h1, h2, _ => by omega
  | f + 1, d, h, e, h1, h2, hd => by
    simp only [noDiv, Bool.and_eq_true, Bool.not_eq_true', beq_eq_false_iff_ne] at h
    rcases Nat.eq_or_lt_of_le h1 with rfl | h3
    · exact h.1 (Nat.mod_eq_zero_of_dvd hd)
    · exact noDiv_spec h.2 e h3 (by omega) hd

theorem prime_of {p r : Nat} (h2 : 2 ≤ p) (hr : p < r * r) (h : ∀ e, 2 ≤ e → e < r → ¬ e ∣ p) : PrimeN p := by
  refine ⟨h2, fun d hd => ?_⟩
  refine Classical.byContradiction fun hn => ?_
  have hn := not_or.1 hn
  obtain ⟨c, rfl⟩ := hd
  have hc0 : c ≠ 0 := fun h0 => by subst h0; omega
  have hd0 : d ≠ 0 := fun h0 => by subst h0; omega
  have hc1 : c ≠ 1 := fun h1 => hn.2 (by subst h1; omega)
  by_cases hdr : d < r
  · exact h d (by omega) hdr ⟨c, rfl⟩
  · by_cases hcr : c < r
    · exact h c (by omega) hcr ⟨d, by rw [Nat.mul_comm]⟩
    · have := Nat.mul_le_mul (show r ≤ d by omega) (show r ≤ c by omega)
      omega

/-- No divisor in [2, 2 + k*b): in blocks. -/
def noDivB (n b : Nat) : Nat → Nat → Bool
  | 0, _ => true
  | k + 1, d => noDiv n b d && noDivB n b k (d + b)

theorem noDivB_spec {n b : Nat} : ∀ {k d : Nat}, noDivB n b k d = true → ∀ e, d ≤ e → e < d + k * b → ¬ e ∣ n
  | 0, _, _, e, h1, h2, _ => by omega
  | k + 1, d, h, e, h1, h2, hd => by
    simp only [noDivB, Bool.and_eq_true] at h
    rw [Nat.succ_mul] at h2
    by_cases h3 : e < d + b
    · exact noDiv_spec h.1 e h1 h3 hd
    · exact noDivB_spec h.2 e (by omega) (by omega) hd
end Go.Sx

/- copy; loops unrolled. -/
namespace Go.Sx
set_option maxRecDepth 4000

/-- The data with c elements of other data in place of those from i on. -/
def dcopy (d : Data) (i : Nat) (d2 : Data) (i2 c : Nat) : Option Data :=
  match d, d2 with
  | .ints k xs, .ints k' ys => if k' = k then some (.ints k (xs.take i ++ ((ys.drop i2).take c ++ xs.drop (i + c)))) else none
  | .fracs xs, .fracs ys => some (.fracs (xs.take i ++ ((ys.drop i2).take c ++ xs.drop (i + c))))
  | .seq w xs, .seq w' ys => if w' = w then some (.seq w (xs.take i ++ ((ys.drop i2).take c ++ xs.drop (i + c)))) else none
  | _, _ => none

theorem dcopy_rows {ρ : Rho} {d d2 d' : Data} {i i2 c s s2 : Nat} {z z2 : List (List Value)} (h : dcopy d i d2 i2 c = some d') (hz : Rows ρ s d z) (hz2 : Rows ρ s2 d2 z2) : Rows ρ s d' (z.take i ++ ((z2.drop i2).take c ++ z.drop (i + c))) ∧ s2 = s := by
  unfold dcopy at h
  split at h
  · split at h
    · rename_i hk
      subst hk
      simp only [Option.some.injEq] at h
      subst h
      simp only [Rows] at hz hz2 ⊢
      obtain ⟨rfl, rfl⟩ := hz
      obtain ⟨rfl, rfl⟩ := hz2
      exact ⟨⟨rfl, by simp [List.map_take, List.map_drop]⟩, rfl⟩
    · simp at h
  · simp only [Option.some.injEq] at h
    subst h
    simp only [Rows] at hz hz2 ⊢
    obtain ⟨rfl, rfl⟩ := hz
    obtain ⟨rfl, rfl⟩ := hz2
    exact ⟨⟨rfl, by simp [List.map_take, List.map_drop]⟩, rfl⟩
  · split at h
    · rename_i hk
      subst hk
      simp only [Option.some.injEq] at h
      subst h
      simp only [Rows] at hz hz2 ⊢
      obtain ⟨rfl, h1, h2⟩ := hz
      obtain ⟨rfl, h3, h4⟩ := hz2
      refine ⟨⟨rfl, HasZ_append (HasZ_take i h1) (HasZ_append (HasZ_take c (HasZ_drop i2 h3)) (HasZ_drop _ h1)), ?_⟩, rfl⟩
      intro x hx
      rcases List.mem_append.1 hx with hx | hx
      · exact h2 x (List.mem_of_mem_take hx)
      · rcases List.mem_append.1 hx with hx | hx
        · exact h4 x (List.mem_of_mem_drop (List.mem_of_mem_take hx))
        · exact h2 x (List.mem_of_mem_drop hx)
    · simp at h
  · simp at h

theorem rows_live {ρ : Rho} {s : Nat} {d : Data} {z : List (List Value)} (h : Rows ρ s d z) : d.live = true := by
  cases d <;> simp only [Rows] at h <;> rfl

theorem empty_len {d : Data} (h : d.empty) : dlen d = 0 := by
  cases d <;> simp only [Data.empty] at h <;> simp only [dlen] <;> rw [h] <;> rfl
theorem empty_of {ρ : Rho} {s : Nat} {d : Data} {z : List (List Value)} (h : Rows ρ s d z) (hz : z.length = 0) : d.empty := by
  have hl := h.len.1
  rw [hz] at hl
  cases d <;> simp only [Rows] at h <;> simp only [Data.empty]
  all_goals exact List.length_eq_zero_iff.1 hl.symm

section
variable {P : Program} {o : Oper} {fr : List (Nat × SV)} {fk : List (Nat × Blk)}

/-- What is loaded from a slice's first c elements. -/
theorem run_firstC {ρ : Rho} {w : World} {k s i n : Nat} {blk : Blk} {v : Value} (hv : Has ρ (.slc k s i n) v) (hb : BlkOK ρ w k blk) (hl : blk.data.live = true) (hw : dwidth blk.data = some s) (hin : i + n ≤ dlen blk.data) :
    ∃ z, Rows ρ s blk.data z ∧ (∀ c, c ≤ n → (Builtin.firstCells s c v).run P w = .ok (((z.drop i).take c).flatten).toArray w) ∧ Builtin.lenOf v = Pure.pure n := by
  obtain ⟨z, hz, hcase⟩ := blk_rows hb hl hw
  obtain ⟨zl, zw⟩ := hz.len
  refine ⟨z, hz, ?_⟩
  rcases has_slc hv with ⟨b, t, cap, e1, e2, e3, rfl⟩ | ⟨rfl, a, rfl⟩
  · rcases hcase with ⟨b', t', ex, h1, h2, h3, h4⟩ | ⟨h1, _⟩
    · rw [e1] at h1
      cases h1
      refine ⟨fun c hc => ?_, rfl⟩
      have hseg : ((z.drop i).take c).flatten = (z.flatten.drop (i * s)).take (c * s) := by
        rw [flatten_take (s := s) _ _ (fun u hu => zw u (List.mem_of_mem_drop hu)), flatten_drop (s := s) _ _ zw]
      have hlen : (((z.drop i).take c).flatten).length = c * s := by
        rw [flatten_len (s := s) _ (fun u hu => zw u (List.mem_of_mem_drop (List.mem_of_mem_take hu))), List.length_take, List.length_drop]
        congr 1
        omega
      refine run_firstCells_some (P := P) w s c _ n cap _ hlen ?_
      intro j u hj
      have hadd : (⟨b, i * s, none⟩ : Addr).add j = ⟨b, i * s + j, none⟩ := by unfold Addr.add; split <;> simp_all
      rw [hadd, cell_of_row w b (i * s + j) _ blk.ty (0, 0) h2]
      have h6 := take_eq_get hseg j u hj
      have hlt : i * s + j < z.flatten.length := (List.getElem?_eq_some_iff.1 h6).1
      simp only [List.getElem?_toArray]
      rw [List.getElem?_append_left hlt]
      exact h6
    · rw [e1] at h1; cases h1
  · refine ⟨fun c hc => ?_, rfl⟩
    obtain rfl : c = 0 := by omega
    cases a with
    | none => simp [Builtin.firstCells]
    | some a => simp [Builtin.firstCells, loadCells, loadCellsFrom]

theorem rows_at {ρ : Rho} {w : World} {k b t s : Nat} {blk : Blk} (hb : BlkOK ρ w k blk) (hl : blk.data.live = true) (hw : dwidth blk.data = some s) (hk : ρ.key k = some (b, t)) :
    ∃ z ex, Rows ρ s blk.data z ∧ w.heap[b]? = some (.cells (z.flatten ++ ex).toArray blk.ty (0, 0)) ∧ (z.flatten ++ ex).length = t ∧ (∀ v ∈ ex, v.oneCell' = true) := by
  obtain ⟨z, hz, hcase⟩ := blk_rows hb hl hw
  rcases hcase with ⟨b', t', ex, h1, h2, h3, h4⟩ | ⟨h1, _⟩
  · rw [hk] at h1
    cases h1
    exact ⟨z, ex, hz, h2, h3, h4⟩
  · rw [hk] at h1; cases h1

theorem op_copy {t t2 e ty : TypeId} {x y : Operand} {xs : Array Operand} {ts : Array TypeId} {ti te : TI} {k k2 i n i2 m c : Nat} {d d' : Data} {blk2 : Blk} (ho : o.op = .call ⟨.builtin .copy, xs, ts⟩) (hxs : xs = #[x, y]) (hts : ts = #[t, t2])
    (hx : EvOK fr x (.slc k te.size i n)) (hy : EvOK fr y (.slc k2 te.size i2 m)) (ht : TOK P t ti) (hk : ti.kind = .slc e) (he : TOK P e te)
    (hf : (k, ⟨ty, true, d⟩) ∈ fk) (hf2 : (k2, blk2) ∈ fk) (hl : d.live = true) (hl2 : blk2.data.live = true) (hw : dwidth d = some te.size) (hw2 : dwidth blk2.data = some te.size)
    (hn : i + n ≤ dlen d) (hm : i2 + m ≤ dlen blk2.data) (hc : c = Nat.min m n) (hd : dcopy d i blk2.data i2 c = some d') :
    OpOK P o fr fk (.val (.int .i64 (c : Nat))) [] [(k, ⟨ty, true, d'⟩)] :=
  ok_value fun ρ a w hp => by
    have hvx := hx ρ a hp.hft
    have hvy := hy ρ a hp.hft
    have hu := ht.kind; rw [hk] at hu
    have hcm : c ≤ m := hc ▸ Nat.min_le_left _ _
    have hcn : c ≤ n := hc ▸ Nat.min_le_right _ _
    obtain ⟨z2, hz2, hrun2, hlen2⟩ := run_firstC (P := P) hvy (hp.hfk k2 _ hf2) hl2 hw2 hm
    have hload := hrun2 c hcm
    obtain ⟨zl2, zw2⟩ := hz2.len
    have hsegw : ∀ u ∈ (z2.drop i2).take c, u.length = te.size := fun u hu => zw2 u (List.mem_of_mem_drop (List.mem_of_mem_take hu))
    have hsegl : ((z2.drop i2).take c).length = c := by rw [List.length_take, List.length_drop]; omega
    have hcall : ∀ v w', (Builtin.copy_ ts o.type #[a.eval x, a.eval y]).run P w = .ok v w' → (execOp a.eval o).run P w = .ok (.value v) w' := by
      intro v w' h
      simp only [execOp, ho, resolve, invoke, builtin, hxs, Sem.run_bind, Sem.run_pure, Result.andThen_ok, List.map_toArray, List.map_cons, List.map_nil]
      rw [h]
      rfl
    have hone : ∀ v ∈ (((z2.drop i2).take c).flatten), v.oneCell' = true := fun u hu => by
      obtain ⟨q, hq, hu⟩ := List.mem_flatten.1 hu
      exact hz2.one' q (List.mem_of_mem_drop (List.mem_of_mem_take hq)) u hu
    rcases has_slc hvx with ⟨b, t', cap, e1, e2, e3, hv⟩ | ⟨rfl, a', hv⟩
    · obtain ⟨z, ex, hz, g1, g2, g3⟩ := rows_at (hp.hfk k _ hf) hl hw e1
      obtain ⟨zl, zw⟩ := hz.len
      simp only at zl
      have hrows := (dcopy_rows hd hz hz2).1
      have hcl : (((z2.drop i2).take c).flatten).length = c * te.size := by rw [flatten_len _ hsegw, hsegl]
      have hfit : i * te.size + c * te.size ≤ (z.flatten ++ ex).length := by
        have := Nat.mul_le_mul_right te.size (show i + c ≤ i + cap by omega)
        rw [Nat.add_mul] at this
        omega
      have hst := run_storeCells_at (P := P) b (i * te.size) ty (((z2.drop i2).take c).flatten) 0 (z.flatten ++ ex).toArray w g1 (by simp only [List.size_toArray]; omega) hone
      have hzl : z.flatten.length = z.length * te.size := flatten_len _ zw
      have hicz : (i + c) * te.size ≤ z.flatten.length := by
        rw [hzl]; exact Nat.mul_le_mul_right _ (by omega)
      have hiz : i * te.size ≤ z.flatten.length := by
        rw [hzl]; exact Nat.mul_le_mul_right _ (by omega)
      have hL : (z.flatten ++ ex).take (i * te.size) ++ ((z2.drop i2).take c).flatten ++ (z.flatten ++ ex).drop (i * te.size + (((z2.drop i2).take c).flatten).length) = (z.take i ++ ((z2.drop i2).take c ++ z.drop (i + c))).flatten ++ ex := by
        rw [hcl, ← Nat.add_mul, List.take_append_of_le_length hiz, List.drop_append_of_le_length hicz, List.flatten_append, List.flatten_append, flatten_take _ _ zw, flatten_drop _ _ zw]
        simp only [List.append_assoc]
      simp only [Nat.add_zero, hL] at hst
      refine ⟨goInt c, w.setRow b ((z.take i ++ ((z2.drop i2).take c ++ z.drop (i + c))).flatten ++ ex).toArray, ρ, hcall _ _ ?_, ?_⟩
      · simp only [Builtin.copy_, hts, hv, List.getElem?_toArray, List.getElem?_cons_zero, List.getElem?_cons_succ, Sem.run_bind, run_underlying hu, Result.andThen_ok, hlen2, Sem.run_pure, he.sizeOf]
        rw [← hc, hload]
        simp only [Result.andThen_ok, hst]
      · refine ⟨.refl ρ, has_val rfl, fun _ _ => rfl, ⟨rfl, rfl, rfl, by simp [World.setRow], fun j hj hnj => ?_⟩, fun j bj hj => ?_, (fun j c1 c2 h1 h2 h3 h4 => ?_), (fun _ _ _ h => by cases h), (fun _ _ _ _ _ _ h => by cases h), fun b o h => .inl h⟩
        · refine heap_setRow_other fun hib => hnj ⟨k, _, t', List.mem_cons_self .., ?_⟩
          rw [hib]; exact e1
        · rcases hj with hj | hj
          · simp only [List.mem_singleton, Prod.mk.injEq] at hj
            obtain ⟨rfl, rfl⟩ := hj
            refine .inr (.inl ⟨b, t', _, ex, e1, heap_setRow_same g1, hrows.data, ?_, g3⟩)
            rw [← g2, List.length_append, List.length_append, flatten_len _ hrows.len.2, hzl]
            congr 2
            rw [List.length_append, List.length_append, List.length_take, List.length_drop, hsegl]
            omega
          · cases hj
        · simp only [List.mem_singleton, Prod.mk.injEq] at h1 h2
          obtain ⟨_, rfl⟩ := h1
          obtain ⟨_, rfl⟩ := h2
          rw [h3] at h4; cases h4
    · obtain rfl : c = 0 := by omega
      obtain ⟨z, hz, hcase⟩ := blk_rows (hp.hfk k _ hf) hl hw
      have hrows := (dcopy_rows hd hz hz2).1
      have hsame : z.take i ++ ((z2.drop i2).take 0 ++ z.drop (i + 0)) = z := by simp
      rw [hsame] at hrows
      refine ⟨goInt 0, w, ρ, hcall _ _ ?_, ?_⟩
      · simp only [Builtin.copy_, hts, hv, List.getElem?_toArray, List.getElem?_cons_zero, List.getElem?_cons_succ, Sem.run_bind, run_underlying hu, Result.andThen_ok, hlen2, Sem.run_pure, he.sizeOf]
        rw [← hc, hload]
        cases a' with
        | none => simp [goInt]
        | some a' => simp [goInt, storeCells]
      · refine ⟨.refl ρ, has_val rfl, fun _ _ => rfl, .refl _ _, fun j bj hj => ?_, (fun j c1 c2 h1 h2 h3 h4 => ?_), (fun _ _ _ h => by cases h), (fun _ _ _ _ _ _ h => by cases h), fun b o h => .inl h⟩
        · rcases hj with hj | hj
          · simp only [List.mem_singleton, Prod.mk.injEq] at hj
            obtain ⟨rfl, rfl⟩ := hj
            rcases hcase with ⟨b', t', ex, h1, h2, h3, h4⟩ | ⟨h1, h2⟩
            · exact .inr (.inl ⟨b', t', _, ex, h1, h2, hrows.data, h3, h4⟩)
            · refine .inr (.inr ⟨h1, ?_⟩)
              exact empty_of hrows (by rw [h2]; rfl)
          · cases hj
        · simp only [List.mem_singleton, Prod.mk.injEq] at h1 h2
          obtain ⟨_, rfl⟩ := h1
          obtain ⟨_, rfl⟩ := h2
          rw [h3] at h4; cases h4
end

/-- As SWx of a loop, from behind the first step into it. -/
structure SWb (E : Env) (c : Code) (K : Post') (fr : List (Nat × SV)) (hp : List (Nat × Blk)) : Prop where
  run : ∀ a w, RR E (fn fr hp) a w → ∀ b k cs, ∃ e a' w', liftQ E K e a' w' ∧ Arrives E.P (lone (b.at a (.code c :: .inLoop c :: k)) cs w) b k cs e a' w'

theorem SWx_of_b {E : Env} {c : Code} {K : Post'} {fr : List (Nat × SV)} {hp : List (Nat × Blk)} (h : SWb E c K fr hp) : SWx E (.loop c) K fr hp := by
  refine ⟨fun a w hR b k cs => ?_⟩
  obtain ⟨e, a', w', hq, harr⟩ := h.run a w hR b k cs
  exact ⟨e, a', w', hq, .of_steps (.one step_loop) harr⟩

/-- A loop's round written out. -/
theorem SWb_step {E : Env} (hE : E.OK) {c : Code} {K : Post'} {fr : List (Nat × SV)} {hp : List (Nat × Blk)}
    (h : cwp E c (fun e fr' hp' => match e with
      | .normal => SWb E c K fr' hp'
      | e => K e fr' hp') fr hp) : SWb E c K fr hp := by
  refine ⟨fun a w hR b k cs => ?_⟩
  obtain ⟨e, a₁, w₁, ⟨fr', hp', hq, hR'⟩, harr⟩ := cwp_sound hE c _ fr hp h a w hR b (.inLoop c :: k) cs
  cases e with
  | normal =>
    obtain ⟨e₂, a₂, w₂, hq₂, harr₂⟩ := hq.run a₁ w₁ hR' b k cs
    exact ⟨e₂, a₂, w₂, hq₂, .of_steps (Steps.trans harr (.one step_inLoop)) harr₂⟩
  | exit id => exact ⟨_, a₁, w₁, ⟨fr', hp', hq, hR'⟩, .pass (x := .inLoop c) rfl (fun _ _ => .inl (by simp)) harr⟩
  | goto l => exact ⟨_, a₁, w₁, ⟨fr', hp', hq, hR'⟩, .pass (x := .inLoop c) rfl (fun _ _ => .inl (by simp)) harr⟩
  | ret => exact ⟨_, a₁, w₁, ⟨fr', hp', hq, hR'⟩, .pass (x := .inLoop c) rfl (fun _ _ => .inl (by simp)) harr⟩
  | panic ch => exact ⟨_, a₁, w₁, ⟨fr', hp', hq, hR'⟩, .pass (x := .inLoop c) rfl (fun _ _ => .inl (by simp)) harr⟩
  | outgrown => exact ⟨_, a₁, w₁, ⟨fr', hp', hq, hR'⟩, .pass (x := .inLoop c) rfl (fun _ _ => .inl (by simp)) harr⟩
end Go.Sx

/- Numbers and their words: plain. -/
namespace Go.Sx

/-- The number of the first k words. -/
def valI (xs : List Int) : Nat → Int
  | 0 => 0
  | k + 1 => valI xs k + xs.getD k 0 * 4294967296 ^ k

/-- Words are 32 bits wide. -/
def W32 (xs : List Int) : Prop := ∀ i, 0 ≤ xs.getD i 0 ∧ xs.getD i 0 < 4294967296

theorem getD_set {xs : List Int} {i j : Nat} {v : Int} : (xs.set i v).getD j 0 = if i = j ∧ j < xs.length then v else xs.getD j 0 := by
  simp only [List.getD_eq_getElem?_getD, List.getElem?_set]
  split
  · rename_i h
    subst h
    split
    · rename_i h1; simp [h1]
    · rename_i h1; simp [h1]
  · rename_i h; simp [h]

theorem getD_ge {xs : List Int} {i : Nat} (h : xs.length ≤ i) : xs.getD i 0 = 0 := by
  simp [List.getD_eq_getElem?_getD, List.getElem?_eq_none h]

theorem getD_take {xs : List Int} {i k : Nat} : (xs.take k).getD i 0 = if i < k then xs.getD i 0 else 0 := by
  simp only [List.getD_eq_getElem?_getD, List.getElem?_take]
  split <;> simp

theorem getD_append {xs ys : List Int} {i : Nat} : (xs ++ ys).getD i 0 = if i < xs.length then xs.getD i 0 else ys.getD (i - xs.length) 0 := by
  simp only [List.getD_eq_getElem?_getD]
  split
  · rename_i h; rw [List.getElem?_append_left h]
  · rename_i h; rw [List.getElem?_append_right (by omega)]

theorem getD_replicate {n i : Nat} : (List.replicate n (0 : Int)).getD i 0 = 0 := by
  simp only [List.getD_eq_getElem?_getD, List.getElem?_replicate]
  split <;> rfl

theorem W32.set {xs : List Int} (h : W32 xs) {i : Nat} {v : Int} (h0 : 0 ≤ v) (h1 : v < 4294967296) : W32 (xs.set i v) := by
  intro j
  rw [getD_set]
  split
  · exact ⟨h0, h1⟩
  · exact h j

theorem W32_of {xs : List Int} (h : ∀ x ∈ xs, 0 ≤ x ∧ x < 4294967296) : W32 xs := by
  intro i
  rw [List.getD_eq_getElem?_getD]
  cases hx : xs[i]? with
  | none => simp
  | some v => simpa using h v (List.mem_of_getElem? hx)

theorem W32.mem {xs : List Int} (h : W32 xs) : ∀ x ∈ xs, 0 ≤ x ∧ x < 4294967296 := by
  intro x hx
  obtain ⟨i, hi⟩ := List.getElem?_of_mem hx
  have := h i
  rw [List.getD_eq_getElem?_getD, hi] at this
  exact this

theorem valI_congr {xs ys : List Int} : ∀ {k : Nat}, (∀ i, i < k → xs.getD i 0 = ys.getD i 0) → valI xs k = valI ys k
  | 0, _ => rfl
  | k + 1, h => by rw [valI, valI, valI_congr (fun i hi => h i (by omega)), h k (by omega)]

theorem valI_set_ge {xs : List Int} {i k : Nat} {v : Int} (h : k ≤ i) : valI (xs.set i v) k = valI xs k :=
  valI_congr fun j hj => by rw [getD_set, if_neg (by omega)]

theorem valI_nonneg {xs : List Int} (h : W32 xs) : ∀ k, 0 ≤ valI xs k
  | 0 => Int.le_refl _
  | k + 1 => by
    have := valI_nonneg h k
    have h1 : 0 ≤ xs.getD k 0 * 4294967296 ^ k := Int.mul_nonneg (h k).1 (Int.pow_nonneg (by decide))
    rw [valI]; omega

theorem powW_pos (k : Nat) : (0 : Int) < 4294967296 ^ k := Int.pow_pos (by decide)

theorem valI_lt {xs : List Int} (h : W32 xs) : ∀ k, valI xs k < 4294967296 ^ k
  | 0 => by simp [valI]
  | k + 1 => by
    have h1 := valI_lt h k
    have h2 : xs.getD k 0 * 4294967296 ^ k ≤ 4294967295 * 4294967296 ^ k := Int.mul_le_mul_of_nonneg_right (by have := (h k).2; omega) (Int.le_of_lt (powW_pos k))
    rw [valI, Int.pow_succ]; omega

theorem valI_zeros {xs : List Int} {k : Nat} : ∀ {n : Nat}, (∀ i, k ≤ i → i < n → xs.getD i 0 = 0) → k ≤ n → valI xs n = valI xs k
  | 0, _, hk => by obtain rfl : k = 0 := by omega
                   rfl
  | n + 1, h, hk => by
    by_cases he : k = n + 1
    · subst he; rfl
    · rw [valI, h n (by omega) (by omega), valI_zeros (n := n) (fun i h1 h2 => h i h1 (by omega)) (by omega), Int.zero_mul, Int.add_zero]

/-- How many words are left when the leading zeros are cut. -/
def cutN (xs : List Int) : Nat → Nat
  | 0 => 0
  | n + 1 => if xs.getD n 0 = 0 then cutN xs n else n + 1

theorem cutN_le (xs : List Int) : ∀ n, cutN xs n ≤ n
  | 0 => Nat.le_refl _
  | n + 1 => by rw [cutN]; split; exact Nat.le_succ_of_le (cutN_le xs n); exact Nat.le_refl _

theorem valI_cut (xs : List Int) : ∀ n, valI xs (cutN xs n) = valI xs n
  | 0 => rfl
  | n + 1 => by
    rw [cutN]
    split
    · rename_i h; rw [valI_cut xs n, valI, h, Int.zero_mul, Int.add_zero]
    · rfl

theorem cutN_top (xs : List Int) : ∀ n, cutN xs n = 0 ∨ xs.getD (cutN xs n - 1) 0 ≠ 0
  | 0 => .inl rfl
  | n + 1 => by
    rw [cutN]
    split
    · exact cutN_top xs n
    · rename_i h; exact .inr h

/-- With a nonzero top word the number fills its words. -/
theorem valI_ge {xs : List Int} (h : W32 xs) {k : Nat} (ht : xs.getD k 0 ≠ 0) : 4294967296 ^ k ≤ valI xs (k + 1) := by
  have h1 := valI_nonneg h k
  have h2 : 1 * 4294967296 ^ k ≤ xs.getD k 0 * 4294967296 ^ k := Int.mul_le_mul_of_nonneg_right (by have := (h k).1; omega) (Int.le_of_lt (powW_pos k))
  rw [valI]; omega

/-! ### words -/

theorem wordsFuel_eq : ∀ (f g n : Nat), n ≤ f → n ≤ g → wordsFuel f n = wordsFuel g n
  | 0, 0, _, _, _ => rfl
  | 0, g + 1, n, h, _ => by obtain rfl : n = 0 := by omega
                            simp [wordsFuel]
  | f + 1, 0, n, _, h => by obtain rfl : n = 0 := by omega
                            simp [wordsFuel]
  | f + 1, g + 1, n, h, h' => by
    unfold wordsFuel
    split
    · rfl
    · rw [wordsFuel_eq f g (n / 4294967296) (by omega) (by omega)]

theorem words_zero : words 0 = [] := rfl
theorem words_succ {n : Nat} (h : n ≠ 0) : words n = n % 4294967296 :: words (n / 4294967296) := by
  unfold words
  obtain ⟨m, rfl⟩ : ∃ m, n = m + 1 := ⟨n - 1, by omega⟩
  rw [wordsFuel, if_neg h, wordsFuel_eq m ((m + 1) / 4294967296) _ (by omega) (Nat.le_refl _)]

/-- The words as the machine has them. -/
def wInts (n : Nat) : List Int := (words n).map Int.ofNat

theorem wInts_zero : wInts 0 = [] := rfl
theorem wInts_succ {n : Nat} (h : n ≠ 0) : wInts n = ((n % 4294967296 : Nat) : Int) :: wInts (n / 4294967296) := by
  rw [wInts, words_succ h]; rfl

theorem valI_cons (x : Int) (xs : List Int) : ∀ k, valI (x :: xs) (k + 1) = x + 4294967296 * valI xs k
  | 0 => by simp [valI]
  | k + 1 => by
    rw [valI, valI_cons x xs k, valI, List.getD_cons_succ, Int.pow_succ]
    grind

theorem wInts_val (n : Nat) : valI (wInts n) (wInts n).length = n := by
  induction n using Nat.strongRecOn with
  | _ n ih =>
    by_cases h : n = 0
    · subst h; rfl
    · rw [wInts_succ h, List.length_cons, valI_cons, ih _ (by omega)]; omega

theorem wInts_w32 (n : Nat) : W32 (wInts n) := by
  refine W32_of fun x hx => ?_
  obtain ⟨w, hw, rfl⟩ := List.mem_map.1 hx
  have := words_lt hw
  exact ⟨Int.natCast_nonneg _, by show (w : Int) < _; omega⟩

theorem wInts_length (n : Nat) : (wInts n).length = (words n).length := by simp [wInts]

theorem wInts_top {n : Nat} (h : n ≠ 0) : (wInts n).length ≠ 0 ∧ (wInts n).getD ((wInts n).length - 1) 0 ≠ 0 := by
  induction n using Nat.strongRecOn with
  | _ n ih =>
    rw [wInts_succ h]
    refine ⟨by simp, ?_⟩
    by_cases h1 : n / 4294967296 = 0
    · rw [h1, wInts_zero]
      simp only [List.length_singleton, Nat.sub_self, List.getD_cons_zero]
      omega
    · obtain ⟨h2, h3⟩ := ih _ (by omega) h1
      obtain ⟨l, hl⟩ : ∃ l, (wInts (n / 4294967296)).length = l + 1 := ⟨(wInts (n / 4294967296)).length - 1, by omega⟩
      simp only [List.length_cons, hl, Nat.add_sub_cancel, List.getD_cons_succ]
      rw [hl] at h3
      simpa using h3

/-- Words with a nonzero top are the words of their number. -/
theorem wInts_of : ∀ (k : Nat) (xs : List Int), W32 xs → k ≤ xs.length → (k = 0 ∨ xs.getD (k - 1) 0 ≠ 0) → wInts (valI xs k).toNat = xs.take k
  | 0, xs, _, _, _ => by simp [valI, wInts_zero]
  | k + 1, [], _, h, _ => by simp at h
  | k + 1, x :: xs, hw, h, ht => by
    have hx := hw 0
    simp only [List.getD_cons_zero] at hx
    have hws : W32 xs := fun i => by have := hw (i + 1); simpa using this
    have hv := valI_nonneg hws k
    have hrec := wInts_of k xs hws (by simpa using h) (by
      cases k with
      | zero => exact .inl rfl
      | succ k => right; have := ht.resolve_left (by omega); simpa using this)
    have hn : (valI (x :: xs) (k + 1)).toNat ≠ 0 := by
      have ht' := ht.resolve_left (by omega)
      have := valI_ge hw (k := k) (by simpa using ht')
      have := powW_pos k
      omega
    rw [wInts_succ hn, valI_cons, List.take_succ_cons]
    have e1 : (x + 4294967296 * valI xs k).toNat % 4294967296 = x.toNat := by omega
    have e2 : (x + 4294967296 * valI xs k).toNat / 4294967296 = (valI xs k).toNat := by omega
    rw [e1, e2, hrec]
    congr 1
    omega

theorem one_get {hp : List (Nat × Blk)} {k : Nat} {b : Blk} (h : find hp k = some b) : ∀ j c, (j, c) ∈ [(k, b)] → find hp j = some c := one_fk h

theorem natPowW (k : Nat) : (((4294967296 ^ k : Nat)) : Int) = (4294967296 : Int) ^ k := by rw [Int.natCast_pow]; rfl

theorem len_le_of {n k : Nat} (h : n < 4294967296 ^ k) : (wInts n).length ≤ k := by
  by_cases hn : n = 0
  · subst hn; simp [wInts_zero]
  · obtain ⟨h1, h2⟩ := wInts_top hn
    obtain ⟨l, hl⟩ : ∃ l, (wInts n).length = l + 1 := ⟨(wInts n).length - 1, by omega⟩
    rw [hl] at h2
    have h3 := valI_ge (wInts_w32 n) (k := l) (by simpa using h2)
    rw [← hl, wInts_val] at h3
    refine Nat.le_of_not_lt fun hlt => ?_
    have h4 : (4294967296 : Int) ^ k ≤ 4294967296 ^ l := by
      have : (4294967296 : Nat) ^ k ≤ 4294967296 ^ l := Nat.pow_le_pow_right (by decide) (by omega)
      rw [← natPowW, ← natPowW]; exact Int.ofNat_le.2 this
    have h5 : (n : Int) < 4294967296 ^ k := by rw [← natPowW]; exact Int.ofNat_lt.2 h
    omega

theorem lt_of_len (n : Nat) : n < 4294967296 ^ (wInts n).length := by
  have := valI_lt (wInts_w32 n) (wInts n).length
  rw [wInts_val, ← natPowW] at this
  exact Int.ofNat_lt.1 this

/-! ### The shape of a contract, by a look -/

def updKB (fk : List (Nat × Blk)) : List (Nat × Blk) → Bool
  | [] => true
  | (k, _) :: r => (match find fk k with
    | some b0 => b0.wr && b0.data.live
    | none => false) && updKB fk r
def updAllB (upd : List (Nat × Blk)) : List (Nat × Blk) → Bool
  | [] => true
  | (k, b) :: r => (!(b.wr && b.data.live) || (find upd k).isSome) && updAllB upd r

theorem updKB_spec {fk : List (Nat × Blk)} : ∀ {upd : List (Nat × Blk)}, updKB fk upd = true → ∀ k b, (k, b) ∈ upd → ∃ b0, (k, b0) ∈ fk ∧ b0.wr = true ∧ b0.data.live = true
  | (j, c) :: r, h, k, b, hm => by
    simp only [updKB, Bool.and_eq_true] at h
    rcases List.mem_cons.1 hm with h1 | h1
    · cases h1
      cases hf : find fk j with
      | none => rw [hf] at h; simp at h
      | some b0 =>
        rw [hf] at h
        simp only [Bool.and_eq_true] at h
        exact ⟨b0, find_mem hf, h.1⟩
    · exact updKB_spec h.2 k b h1

theorem updAllB_spec {upd : List (Nat × Blk)} : ∀ {fk : List (Nat × Blk)}, updAllB upd fk = true → ∀ k b, (k, b) ∈ fk → b.wr = true → b.data.live = true → ∃ b', (k, b') ∈ upd
  | (j, c) :: r, h, k, b, hm, hw, hl => by
    simp only [updAllB, Bool.and_eq_true] at h
    rcases List.mem_cons.1 hm with h1 | h1
    · cases h1
      have := h.1
      rw [hw, hl] at this
      cases hf : find upd j with
      | none => rw [hf] at this; simp at this
      | some b0 => exact ⟨b0, find_mem hf⟩
    · exact updAllB_spec h.2 k b h1 hw hl

theorem ShapeOK.of {args : List SV} {fk : List (Nat × Blk)} {c : SV} {new upd : List (Nat × Blk)} (h1 : subN (refsL args) (keysOf fk) = true) (h2 : subN (refsB fk) (keysOf fk) = true) (h3 : nodupN (keysOf fk ++ keysOf new) = true)
    (h4 : allWr new = true) (h5 : allWr upd = true) (h6 : updKB fk upd = true) (h7 : updAllB upd fk = true) (h8 : subN (refs c) (keysOf fk ++ keysOf new) = true) (h9 : subN (refsB new) (keysOf fk ++ keysOf new) = true)
    (h10 : subN (refsB upd) (keysOf fk ++ keysOf new) = true) (h11 : args.all passable = true) : ShapeOK args fk c new upd :=
  ⟨h1, h2, h3, h4, h5, updKB_spec h6, updAllB_spec h7, h8, h9, h10, h11⟩

def allRo : List (Nat × Blk) → Bool
  | [] => true
  | (_, b) :: r => !b.wr && allRo r
theorem allRo_spec : ∀ {l : List (Nat × Blk)}, allRo l = true → ∀ k b, (k, b) ∈ l → b.wr = false
  | (j, c) :: r, h, k, b, hm => by
    simp only [allRo, Bool.and_eq_true, Bool.not_eq_true'] at h
    rcases List.mem_cons.1 hm with h1 | h1
    · cases h1; exact h.1
    · exact allRo_spec h.2 k b h1

/-- All that comes in is only read, nothing new goes out. -/
theorem NamesOK.ro {fk : List (Nat × Blk)} {σ : Nat → Nat} (h : allRo fk = true) : NamesOK fk [] σ :=
  ⟨(fun q q' b b' hq _ _ hw => by rw [allRo_spec h q b hq] at hw; cases hw), (fun _ _ h => by simp [keysOf] at h), (fun _ _ h => by simp [keysOf] at h)⟩
/-- Nothing comes in, one new block goes out. -/
theorem NamesOK.one {m : Nat} {b : Blk} {σ : Nat → Nat} : NamesOK [] [(m, b)] σ :=
  ⟨(fun q q' b b' hq => by cases hq), (fun m m' h1 h2 hne => by simp [keysOf] at h1 h2; omega), (fun _ _ _ h => by simp [keysOf] at h)⟩
/-- All that comes in is only read, one new block goes out. -/
theorem NamesOK.roNew {fk : List (Nat × Blk)} {m : Nat} {b : Blk} {σ : Nat → Nat} (h : allRo fk = true) (hn : ∀ q ∈ keysOf fk, σ m ≠ σ q) : NamesOK fk [(m, b)] σ :=
  ⟨(fun q q' b b' hq _ _ hw => by rw [allRo_spec h q b hq] at hw; cases hw), (fun m m' h1 h2 hne => by simp [keysOf] at h1 h2; omega), (fun m' q h1 h2 => by
    have h1 : m' = m := by simpa [keysOf] using h1
    rw [h1]; exact hn q h2)⟩
/-- One block comes in and is written. -/
theorem NamesOK.upd {q : Nat} {b : Blk} {σ : Nat → Nat} : NamesOK [(q, b)] [] σ :=
  ⟨(fun q q' b b' h h' hne => by simp at h h'; omega), (fun _ _ h => by simp [keysOf] at h), (fun _ _ h => by simp [keysOf] at h)⟩
/-- Two blocks come in. -/
theorem NamesOK.two {q r : Nat} {b c : Blk} {σ : Nat → Nat} (h : σ q ≠ σ r) : NamesOK [(q, b), (r, c)] [] σ :=
  ⟨(fun x y b b' hx hy hne _ => by
    simp only [List.mem_cons, List.not_mem_nil, or_false, Prod.mk.injEq] at hx hy
    rcases hx with ⟨rfl, _⟩ | ⟨rfl, _⟩ <;> rcases hy with ⟨rfl, _⟩ | ⟨rfl, _⟩
    · exact absurd rfl hne
    · exact h
    · exact h.symm
    · exact absurd rfl hne), (fun _ _ h => by simp [keysOf] at h), (fun _ _ h => by simp [keysOf] at h)⟩

theorem two_fk {hp : List (Nat × Blk)} {k l : Nat} {b c : Blk} (h : find hp k = some b) (h' : find hp l = some c) : ∀ j d, (j, d) ∈ [(k, b), (l, c)] → find hp j = some d := fun j d hm => by
  simp only [List.mem_cons, List.not_mem_nil, or_false, Prod.mk.injEq] at hm
  rcases hm with ⟨rfl, rfl⟩ | ⟨rfl, rfl⟩
  · exact h
  · exact h'
theorem one_upd {fk : List (Nat × Blk)} {k : Nat} {b0 b : Blk} (h : (k, b0) ∈ fk) (h1 : b0.wr = true) (h2 : b0.data.live = true) (h3 : b.wr = true) : ∀ j c, (j, c) ∈ [(k, b)] → ∃ b0 : Blk, (j, b0) ∈ fk ∧ b0.wr = true ∧ b0.data.live = true ∧ c.wr = true := fun j c hm => by
  simp only [List.mem_singleton, Prod.mk.injEq] at hm
  obtain ⟨rfl, rfl⟩ := hm
  exact ⟨b0, h, h1, h2, h3⟩
theorem two_upd {fk : List (Nat × Blk)} {k l : Nat} {b0 b c0 c : Blk} (h : (k, b0) ∈ fk) (h1 : b0.wr = true) (h2 : b0.data.live = true) (h3 : b.wr = true) (g : (l, c0) ∈ fk) (g1 : c0.wr = true) (g2 : c0.data.live = true) (g3 : c.wr = true) :
    ∀ j d, (j, d) ∈ [(k, b), (l, c)] → ∃ b0 : Blk, (j, b0) ∈ fk ∧ b0.wr = true ∧ b0.data.live = true ∧ d.wr = true := fun j d hm => by
  simp only [List.mem_cons, List.not_mem_nil, or_false, Prod.mk.injEq] at hm
  rcases hm with ⟨rfl, rfl⟩ | ⟨rfl, rfl⟩
  · exact ⟨b0, h, h1, h2, h3⟩
  · exact ⟨c0, g, g1, g2, g3⟩


/-! ### Words with a given number -/

/-- The first n words of a number. -/
def digs (v n : Nat) : List Int := (List.range n).map fun i => ((v / 4294967296 ^ i % 4294967296 : Nat) : Int)

theorem digs_len (v n : Nat) : (digs v n).length = n := by simp [digs]
theorem digs_get {v n i : Nat} (h : i < n) : (digs v n).getD i 0 = ((v / 4294967296 ^ i % 4294967296 : Nat) : Int) := by
  rw [List.getD_eq_getElem?_getD, digs, List.getElem?_map, List.getElem?_range h]; rfl
theorem digs_w32 (v n : Nat) : W32 (digs v n) := by
  refine W32_of fun x hx => ?_
  obtain ⟨i, _, rfl⟩ := List.mem_map.1 hx
  omega

theorem valI_mod {xs : List Int} (hx : W32 xs) {n : Nat} : ∀ {k : Nat}, k ≤ n → valI xs n % 4294967296 ^ k = valI xs k := by
  intro k hk
  induction n with
  | zero =>
    obtain rfl : k = 0 := by omega
    simp [valI]
  | succ n ih =>
    by_cases he : k = n + 1
    · subst he
      exact Int.emod_eq_of_lt (valI_nonneg hx _) (valI_lt hx _)
    · rw [valI, show n = k + (n - k) from by omega, Int.pow_add, ← show n = k + (n - k) from by omega, Int.mul_left_comm, Int.add_mul_emod_self_left]
      exact ih (by omega)

theorem valI_div {xs : List Int} (hx : W32 xs) {i n : Nat} (h : i < n) : valI xs n / 4294967296 ^ i % 4294967296 = xs.getD i 0 := by
  have h1 := valI_mod hx (n := n) (k := i + 1) (by omega)
  have hp := powW_pos i
  have e : valI xs n = valI xs (i + 1) + 4294967296 ^ (i + 1) * (valI xs n / 4294967296 ^ (i + 1)) := by
    rw [← h1]; exact (Int.emod_add_mul_ediv _ _).symm
  have h0 := valI_nonneg hx i
  have hl := valI_lt hx i
  have e2 : valI xs n = valI xs i + 4294967296 ^ i * (xs.getD i 0 + 4294967296 * (valI xs n / 4294967296 ^ (i + 1))) := by
    conv => lhs; rw [e]
    rw [valI, Int.pow_succ]
    grind
  rw [e2, Int.add_mul_ediv_left _ _ (by omega), Int.ediv_eq_zero_of_lt h0 hl, Int.zero_add, Int.add_mul_emod_self_left]
  exact Int.emod_eq_of_lt (hx i).1 (hx i).2

/-- Words are given by their number. -/
theorem digs_of {xs : List Int} (hx : W32 xs) {v : Nat} (hv : valI xs xs.length = v) : xs = digs v xs.length := by
  refine List.ext_getElem? fun i => ?_
  by_cases hi : i < xs.length
  · have h1 := valI_div hx hi
    have h2 := digs_get (v := v) hi
    rw [hv, ← natPowW, ← Int.natCast_ediv, show ((v / 4294967296 ^ i : Nat) : Int) % 4294967296 = ((v / 4294967296 ^ i % 4294967296 : Nat) : Int) from rfl, ← h2, List.getD_eq_getElem?_getD, List.getD_eq_getElem?_getD] at h1
    have hl : i < (digs v xs.length).length := by rw [digs_len]; exact hi
    rw [List.getElem?_eq_getElem hi, List.getElem?_eq_getElem hl] at h1 ⊢
    simpa using h1.symm
  · rw [List.getElem?_eq_none (by omega), List.getElem?_eq_none (by rw [digs_len]; omega)]

theorem digs_of' {xs : List Int} {n : Nat} (hl : xs.length = n) (hx : W32 xs) {v : Nat} (hv : valI xs n = v) : xs = digs v n := by
  subst hl; exact digs_of hx hv

theorem valI_digs (v n : Nat) : valI (digs v n) n = ((v % 4294967296 ^ n : Nat) : Int) := by
  have key : ∀ k, k ≤ n → valI (digs v n) k = ((v % 4294967296 ^ k : Nat) : Int) := by
    intro k hk
    induction k with
    | zero => simp [valI, Nat.mod_one]
    | succ k ih =>
      rw [valI, ih (by omega), digs_get (by omega), ← natPowW, ← Int.natCast_mul, ← Int.natCast_add, Nat.pow_succ, Nat.mod_mul, Nat.mul_comm (4294967296 ^ k)]
  exact key n (Nat.le_refl n)

theorem valI_set {xs : List Int} {i : Nat} {v : Int} : ∀ {n : Nat}, i < n → i < xs.length → valI (xs.set i v) n = valI xs n + (v - xs.getD i 0) * 4294967296 ^ i
  | 0, h, _ => by omega
  | n + 1, h, hl => by
    by_cases he : i = n
    · subst he
      rw [valI, valI, valI_set_ge (Nat.le_refl _), getD_set, if_pos ⟨rfl, hl⟩]; grind
    · rw [valI, valI, valI_set (n := n) (by omega) hl, getD_set, if_neg (by omega)]; grind
end Go.Sx

/- Contracts: nats.cut. -/
namespace Go.Proofs.YtghdcjhlhcoijaaDoor
open Go.Sx
set_option linter.unusedSimpArgs false
set_option linter.unusedVariables false
set_option maxRecDepth 100000
set_option maxHeartbeats 2000000

theorem c_cut (xs : List Int) (n : Nat) (hn : n ≤ xs.length) (hl : xs.length < 4611686018427387904) (K : Nat) (wr : Bool) :
    CallOK Tryd.prog 90 [.slc K 1 0 n] [(K, ⟨22, wr, .ints .u32 xs⟩)] (.slc K 1 0 (cutN xs n)) [] [] := by
  refine CallOK.anyWr ?_
  refine callK (Z := []) tabOK mixedOK Tryd.func90 rfl (by kernel_rfl) (args := [.slc 0 1 0 n]) (fk := [(0, ⟨22, false, .ints .u32 xs⟩)]) (c := .slc 0 1 0 (cutN xs n)) (new := []) (upd := []) ?_ rfl (fun _ => K) ?_ ?_
  · exact ⟨rfl, rfl, rfl, rfl, rfl, (fun _ _ h => by cases h), (fun k b h hw => by simp at h; rw [h.2] at hw; cases hw), rfl, rfl, rfl, rfl⟩
  · exact ⟨(fun q q' b b' h h' hne => by simp at h h'; omega), (fun _ _ h => by simp [keysOf] at h), (fun _ _ h => by simp [keysOf] at h)⟩
  intro W0 w0 ρ0 hE
  conv => whnf
  refine SW_loopN hE (fun k => k) [0] [0] (fun m fr hp => m ≤ n ∧ cutN xs m = cutN xs n ∧ fr = [(0, .slc 0 1 0 m)] ∧ hp = [(0, ⟨22, false, .ints .u32 xs⟩)]) n ?_ ?_ ?_
  · kernel_rfl
  · exact ⟨by omega, rfl, rfl, rfl⟩
  rintro m _ _ ⟨hm, hc, rfl, rfl⟩
  conv => whnf
  refine ⟨fun h => ?_, fun h => ?_⟩
  · have h0 : 0 < m := by have := of_decide_eq_true h; omega
    obtain ⟨m, rfl⟩ : ∃ k, m = k + 1 := ⟨m - 1, by omega⟩
    have hd : decide (((m + 1 : Nat) : Int) > 0) = true := decide_eq_true (by omega)
    have hw : IntKind.i64.wrap (((m + 1 : Nat) : Int) - 1) = (m : Int) := by rw [wrap_i64 (by omega) (by omega)]; omega
    rw [hd]
    conv => whnf
    refine ⟨fun _ => ?_, fun h => by cases h⟩
    conv => whnf
    refine ⟨fun _ => ?_, fun h => by cases h⟩
    conv => whnf
    refine ⟨fun _ => ?_, fun h => by cases h⟩
    conv => whnf
    refine ⟨fun _ => ?_, fun h => by cases h⟩
    conv => whnf
    rw [hw]
    refine ⟨⟨by omega, by omega⟩, ?_⟩
    conv => whnf
    refine ⟨fun _ => ?_, fun h => by cases h⟩
    conv => whnf
    refine ⟨by omega, ?_⟩
    conv => whnf
    rw [show 0 + (m : Int).toNat = m from by omega]
    refine ⟨fun _ => ?_, fun h => by cases h⟩
    conv => whnf
    refine ⟨.val (.bool (xs.getD m 0 == 0)), [], [], [], op_pick rfl (ev_ok rfl) (fun _ => ev_ok rfl) (fun hb => by cases hb) rfl (c2 := .any), nil_fk, nil_new, nil_upd, ?_⟩
    conv => whnf
    refine ⟨fun h => ?_, fun h => ?_⟩
    · have hx : xs.getD m 0 = 0 := by simpa using h
      conv => whnf
      rw [hw]
      refine ⟨by omega, ?_⟩
      conv => whnf
      rw [show ((m : Int) - 0).toNat = m from by omega]
      refine ⟨m, fun k => k, [0], [0], by omega, by kernel_rfl, by omega, ?_, rfl, rfl⟩
      rw [← hc, cutN, if_pos hx]
    · have hx : ¬ xs.getD m 0 = 0 := by simpa using h
      conv => whnf
      rw [← hc, cutN, if_neg hx]
      exact ⟨Recast.refl _, (fun _ _ h => by cases h), (fun _ _ h => by cases h)⟩
  · have h0 : m = 0 := by have := of_decide_eq_false h; omega
    subst h0
    rw [show decide (((0 : Nat) : Int) > 0) = false from rfl]
    conv => whnf
    iterate 6
      refine ⟨fun h => (by cases h), fun _ => ?_⟩
      conv => whnf
    refine ⟨.val (.bool false), [], [], [], op_pick rfl (ev_ok rfl) (fun hb => by cases hb) (fun _ => ev_ok rfl) rfl (c1 := .any), nil_fk, nil_new, nil_upd, ?_⟩
    conv => whnf
    refine ⟨fun h => (by cases h), fun _ => ?_⟩
    conv => whnf
    rw [← hc]
    exact ⟨Recast.refl _, (fun _ _ h => by cases h), (fun _ _ h => by cases h)⟩
end Go.Proofs.YtghdcjhlhcoijaaDoor

/- Contracts: nats.of. -/
namespace Go.Proofs.YtghdcjhlhcoijaaDoor
open Go.Sx
set_option linter.unusedSimpArgs false
set_option linter.unusedVariables false
set_option maxRecDepth 100000
set_option maxHeartbeats 2000000

theorem val_step (xs : List Int) (hx : W32 xs) (i : Nat) (hi : i < 2) :
    ior .u64 (valI xs i) (ishl .u64 (IntKind.u64.wrap (xs.getD i 0)) ((32 * i : Nat) : Int)) = valI xs (i + 1) := by
  obtain ⟨a0, a1⟩ := hx 0
  obtain ⟨b0, b1⟩ := hx 1
  have hc : i = 0 ∨ i = 1 := by omega
  rcases hc with rfl | rfl
  · obtain ⟨w, hw⟩ := Int.eq_ofNat_of_zero_le a0
    have e : ishl .u64 (IntKind.u64.wrap (xs.getD 0 0)) ((32 * 0 : Nat) : Int) = (w : Int) := by
      rw [hw, wrap_u64 (by omega) (by omega)]
      show IntKind.u64.wrap ((w : Int) * 1) = w
      rw [Int.mul_one, wrap_u64 (by omega) (by omega)]
    rw [e, show valI xs 0 = ((0 : Nat) : Int) from rfl, ior_u64 (by omega) (by omega), Nat.zero_or]
    simp only [valI, hw, Int.pow_zero, Int.mul_one, Int.zero_add]
  · obtain ⟨w, hw⟩ := Int.eq_ofNat_of_zero_le b0
    obtain ⟨v, hv⟩ := Int.eq_ofNat_of_zero_le a0
    have e : ishl .u64 (IntKind.u64.wrap (xs.getD 1 0)) ((32 * 1 : Nat) : Int) = ((4294967296 * w : Nat) : Int) := by
      rw [hw, wrap_u64 (by omega) (by omega)]
      show IntKind.u64.wrap ((w : Int) * 4294967296) = _
      rw [wrap_u64 (by omega) (by omega)]
      omega
    have e1 : valI xs 1 = (v : Int) := by simp only [valI, hv, Int.pow_zero, Int.mul_one, Int.zero_add]
    have e2 : valI xs (1 + 1) = ((v + w * 4294967296 : Nat) : Int) := by
      simp only [valI, hv, hw, Int.pow_zero, Int.mul_one, Int.zero_add, Int.pow_succ, Int.one_mul]; omega
    rw [e, e1, e2, ior_u64 (by omega) (by omega), Nat.or_comm]
    have := Nat.two_pow_add_eq_or_of_lt (i := 32) (b := v) (by omega) w
    rw [show 4294967296 * w = 2 ^ 32 * w from rfl, ← this]
    omega

/-- The bytes of some words. -/
def bytesI (xs : List Int) : List Int := xs.flatMap fun x => (wordBytes x.toNat).map fun b => ((b.toNat : Nat) : Int)

theorem bytesI_len (xs : List Int) : (bytesI xs).length = 4 * xs.length := by
  induction xs with
  | nil => rfl
  | cons x xs ih =>
    rw [bytesI, List.flatMap_cons, List.length_append, ← bytesI, ih]
    simp [wordBytes]; omega

theorem bytesI_snoc {xs : List Int} {i : Nat} (h : i < xs.length) : bytesI (xs.take (i + 1)) = bytesI (xs.take i) ++ bytesI [xs.getD i 0] := by
  rw [List.take_add_one, bytesI, List.flatMap_append]
  have : xs[i]? = some (xs.getD i 0) := by rw [List.getD_eq_getElem?_getD, List.getElem?_eq_getElem h]; rfl
  rw [this]; rfl

theorem wu8m (n : Nat) : IntKind.u8.wrap (n : Int) = ((n % 256 : Nat) : Int) := by simp [IntKind.wrap, IntKind.bits, IntKind.signed]

theorem bytesI_one {x : Int} (h0 : 0 ≤ x) : bytesI [x] = [IntKind.u8.wrap x, IntKind.u8.wrap (ishr .u32 x 8), IntKind.u8.wrap (ishr .u32 x 16), IntKind.u8.wrap (ishr .u32 x 24)] := by
  obtain ⟨n, rfl⟩ := Int.eq_ofNat_of_zero_le h0
  have s8 : ishr .u32 (n : Int) 8 = ((n / 256 : Nat) : Int) := ishr_nat .u32 (s := 8) (by decide)
  have s16 : ishr .u32 (n : Int) 16 = ((n / 65536 : Nat) : Int) := ishr_nat .u32 (s := 16) (by decide)
  have s24 : ishr .u32 (n : Int) 24 = ((n / 16777216 : Nat) : Int) := ishr_nat .u32 (s := 24) (by decide)
  rw [s8, s16, s24, wu8m, wu8m, wu8m, wu8m]
  simp only [bytesI, wordBytes, List.flatMap_cons, List.flatMap_nil, List.map_cons, List.map_nil, List.append_nil, Int.toNat_natCast, UInt8.toNat_ofNat']

theorem bytesI_back {xs : List Int} (h : W32 xs) : (bytesI xs).map (fun v => UInt8.ofNat v.toNat) = (xs.map Int.toNat).flatMap wordBytes := by
  induction xs with
  | nil => rfl
  | cons x xs ih =>
    have hw : W32 xs := fun i => by have := h (i + 1); simpa using this
    rw [bytesI, List.flatMap_cons, List.map_append, ← bytesI, ih hw, List.map_cons, List.flatMap_cons]
    congr 1
    rw [List.map_map]
    have : ((fun v : Int => UInt8.ofNat v.toNat) ∘ fun b : UInt8 => ((b.toNat : Nat) : Int)) = id := by funext b; simp
    rw [this, List.map_id]

theorem big_of {xs : List Int} {k : Nat} (hx : W32 xs) (hk : k ≤ xs.length) (h2 : 2 < k) (ht : xs.getD (k - 1) 0 ≠ 0) :
    natCells (valI xs k).toNat = [.int .u64 0, .string ⟨((bytesI (xs.take k)).map (fun v => UInt8.ofNat v.toNat)).toArray⟩] := by
  have h1 := wInts_of k xs hx hk (.inr ht)
  obtain ⟨j, rfl⟩ : ∃ j, k = j + 1 := ⟨k - 1, by omega⟩
  have hge := valI_ge hx (k := j) (by simpa using ht)
  have hp : (4294967296 : Int) ^ 2 ≤ 4294967296 ^ j := by
    have : (4294967296 : Nat) ^ 2 ≤ 4294967296 ^ j := Nat.pow_le_pow_right (by decide) (by omega)
    rw [← natPowW, ← natPowW]; exact Int.ofNat_le.2 this
  have hbig : ¬ (valI xs (j + 1)).toNat < 18446744073709551616 := by
    have : (4294967296 : Int) ^ 2 = 18446744073709551616 := by decide
    omega
  have hw : W32 (xs.take (j + 1)) := fun i => by
    rw [getD_take]
    split
    · exact hx i
    · decide
  simp only [natCells, low, big, hbig, if_false]
  rw [bytesI_back hw, ← h1, wInts, List.map_map]
  have : (Int.toNat ∘ Int.ofNat) = id := by funext n; rfl
  rw [this, List.map_id]

theorem c_of (xs : List Int) (n : Nat) (hn : n ≤ xs.length) (hl : xs.length < 1099511627776) (hx : W32 xs) (K : Nat) (wr : Bool) :
    CallOK Tryd.prog 76 [.slc K 1 0 n] [(K, ⟨22, wr, .ints .u32 xs⟩)] (.nat (valI xs n).toNat) [] [] := by
  refine CallOK.anyWr ?_
  refine callK (Z := []) tabOK mixedOK Tryd.func76 rfl (by kernel_rfl) (args := [.slc 0 1 0 n]) (fk := [(0, ⟨22, false, .ints .u32 xs⟩)]) (c := .nat (valI xs n).toNat) (new := []) (upd := []) ?_ rfl (fun _ => K) ?_ ?_
  · exact ⟨rfl, rfl, rfl, rfl, rfl, (fun _ _ h => by cases h), (fun k b h hw => by simp at h; rw [h.2] at hw; cases hw), rfl, rfl, rfl, rfl⟩
  · exact ⟨(fun q q' b b' h h' hne => by simp at h h'; omega), (fun _ _ h => by simp [keysOf] at h), (fun _ _ h => by simp [keysOf] at h)⟩
  intro W0 w0 ρ0 hE
  conv => whnf
  refine ⟨_, _, [], [], c_cut xs n hn (by omega) 0 false, one_fk rfl, nil_new, nil_upd, ?_⟩
  have hle := cutN_le xs n
  have htop := cutN_top xs n
  rw [← valI_cut xs n]
  generalize cutN xs n = k at *
  conv => whnf
  by_cases hk : k ≤ 2
  · have t1 : decide ((k : Int) ≤ 2) = true := by simp; omega
    rw [t1]
    (repeat (first | (refine step_w1 rfl rfl ?_; conv => whnf) | (refine step_w2 rfl rfl ?_; conv => whnf) | (refine step_i (by kernel_rfl) ?_; conv => whnf) | (refine And.intro (by first | decide | omega | (simp only [tiB5, tiB22, tiB3, tiB2, tiB9, tiB55, tiB49, tiB28, tiB4, tiB66, tiB68]; omega)) ?_; conv => whnf) | (refine g_c (by assumption) ?_; conv => whnf) | (refine g_cn (by assumption) rfl ?_; conv => whnf) | (refine g_c1 (by assumption) rfl ?_; conv => whnf) | (refine g_c2 (by assumption) rfl rfl ?_; conv => whnf) | (refine g_c1n (by assumption) rfl rfl ?_; conv => whnf) | (refine g_c1u (by assumption) rfl rfl ?_; conv => whnf) | (refine ⟨[_, _], _, [], [_, _], (by assumption), two_fk rfl rfl, nil_new, two_upd (List.mem_cons_self ..) rfl rfl rfl (List.mem_cons_of_mem _ (List.mem_cons_self ..)) rfl rfl rfl, ?_⟩; conv => whnf) | (refine ⟨[_, _], _, [_, _], [], (by assumption), two_fk rfl rfl, two_new rfl rfl, nil_upd, ?_⟩; conv => whnf) | (refine g_o (op_pickT rfl (ev_ok rfl) (ev_ok rfl)) ?_; conv => whnf) | (refine g_o (op_pickF rfl (ev_ok rfl) (ev_ok rfl)) ?_; conv => whnf) | (rw [beq_self_eq_true]; conv => whnf) | (rw [bne_self_eq_false]; conv => whnf)))
    refine SW_loopN hE (fun k => k) [2, 3, 14, 15, 16] [0, 2] (fun m fr hp => ∃ i, m = k - i ∧ i ≤ k ∧ fr = [(2, .ptr 2 0 0 0), (3, .val (.int .u64 (valI xs i))), (14, .slc 0 1 0 k), (15, .val (.int .i64 k)), (16, .val (.int .i64 (i : Nat)))] ∧ hp = [(0, ⟨22, false, .ints .u32 xs⟩), (2, ⟨45, true, .one [.nat 0]⟩)]) k ?_ ?_ ?_
    · kernel_rfl
    · exact ⟨0, rfl, by omega, rfl, rfl⟩
    rintro m _ _ ⟨i, rfl, hi, rfl, rfl⟩
    conv => whnf
    refine ⟨fun h => ?_, fun h => ?_⟩
    · have hi' : i < k := by have := of_decide_eq_true h; omega
      conv => whnf
      have hw : IntKind.i64.wrap (32 * (i : Int)) = ((32 * i : Nat) : Int) := by rw [wrap_i64 (by omega) (by omega)]; omega
      have hi2 : IntKind.i64.wrap ((i : Int) + 1) = ((i + 1 : Nat) : Int) := by rw [wrap_i64 (by omega) (by omega)]; omega
      (repeat (first | (refine step_w1 rfl rfl ?_; conv => whnf) | (refine step_w2 rfl rfl ?_; conv => whnf) | (refine step_i (by kernel_rfl) ?_; conv => whnf) | (refine And.intro (by first | decide | omega | (simp only [tiB5, tiB22, tiB3, tiB2, tiB9, tiB55, tiB49, tiB28, tiB4, tiB66, tiB68]; omega)) ?_; conv => whnf) | (refine g_c (by assumption) ?_; conv => whnf) | (refine g_cn (by assumption) rfl ?_; conv => whnf) | (refine g_c1 (by assumption) rfl ?_; conv => whnf) | (refine g_c2 (by assumption) rfl rfl ?_; conv => whnf) | (refine g_c1n (by assumption) rfl rfl ?_; conv => whnf) | (refine g_c1u (by assumption) rfl rfl ?_; conv => whnf) | (refine ⟨[_, _], _, [], [_, _], (by assumption), two_fk rfl rfl, nil_new, two_upd (List.mem_cons_self ..) rfl rfl rfl (List.mem_cons_of_mem _ (List.mem_cons_self ..)) rfl rfl rfl, ?_⟩; conv => whnf) | (refine ⟨[_, _], _, [_, _], [], (by assumption), two_fk rfl rfl, two_new rfl rfl, nil_upd, ?_⟩; conv => whnf) | (refine g_o (op_pickT rfl (ev_ok rfl) (ev_ok rfl)) ?_; conv => whnf) | (refine g_o (op_pickF rfl (ev_ok rfl) (ev_ok rfl)) ?_; conv => whnf) | (rw [beq_self_eq_true]; conv => whnf) | (rw [bne_self_eq_false]; conv => whnf) | (rw [hw]; conv => whnf)))
      rw [show 0 + (i : Int).toNat = i from by omega, hi2, val_step xs hx i (by omega)]
      exact ⟨k - (i + 1), fun k => k, [2, 3, 14, 15, 16], [0, 2], by omega, by kernel_rfl, i + 1, rfl, by omega, rfl, rfl⟩
    · have hi' : i = k := by have := of_decide_eq_false h; omega
      subst hi'
      conv => whnf
      have hb := valI_lt hx i
      have h0 := valI_nonneg hx i
      have hb' : (4294967296 : Int) ^ i ≤ 18446744073709551616 := by
        have : i = 0 ∨ i = 1 ∨ i = 2 := by omega
        rcases this with rfl | rfl | rfl <;> decide
      obtain ⟨v, hv⟩ := Int.eq_ofNat_of_zero_le h0
      rw [hv] at hb ⊢
      exact ⟨recast_nat (by omega), (fun _ _ h => by cases h), (fun _ _ h => by cases h)⟩
  · have t1 : decide ((k : Int) ≤ 2) = false := by simp; omega
    have e1 : IntKind.i64.wrap (4 * (k : Int)) = ((4 * k : Nat) : Int) := by rw [wrap_i64 (by omega) (by omega)]; omega
    (repeat (first | (refine step_w1 rfl rfl ?_; conv => whnf) | (refine step_w2 rfl rfl ?_; conv => whnf) | (refine step_i (by kernel_rfl) ?_; conv => whnf) | (refine And.intro (by first | decide | omega | (simp only [tiB5, tiB22, tiB3, tiB2, tiB9, tiB55, tiB49, tiB28, tiB4, tiB66, tiB68]; omega)) ?_; conv => whnf) | (refine g_c (by assumption) ?_; conv => whnf) | (refine g_cn (by assumption) rfl ?_; conv => whnf) | (refine g_c1 (by assumption) rfl ?_; conv => whnf) | (refine g_c2 (by assumption) rfl rfl ?_; conv => whnf) | (refine g_c1n (by assumption) rfl rfl ?_; conv => whnf) | (refine g_c1u (by assumption) rfl rfl ?_; conv => whnf) | (refine ⟨[_, _], _, [], [_, _], (by assumption), two_fk rfl rfl, nil_new, two_upd (List.mem_cons_self ..) rfl rfl rfl (List.mem_cons_of_mem _ (List.mem_cons_self ..)) rfl rfl rfl, ?_⟩; conv => whnf) | (refine ⟨[_, _], _, [_, _], [], (by assumption), two_fk rfl rfl, two_new rfl rfl, nil_upd, ?_⟩; conv => whnf) | (refine g_o (op_pickT rfl (ev_ok rfl) (ev_ok rfl)) ?_; conv => whnf) | (refine g_o (op_pickF rfl (ev_ok rfl) (ev_ok rfl)) ?_; conv => whnf) | (rw [beq_self_eq_true]; conv => whnf) | (rw [bne_self_eq_false]; conv => whnf) | (rw [t1]; conv => whnf) | (rw [e1]; conv => whnf)))
    refine SW_loopN hE (fun k => k) [2, 6, 35, 36, 37] [0, 2, 34] (fun m fr hp => ∃ i, m = k - i ∧ i ≤ k ∧ fr = [(2, .ptr 2 0 0 0), (6, .slc 34 1 0 (4 * i)), (35, .slc 0 1 0 k), (36, .val (.int .i64 k)), (37, .val (.int .i64 (i : Nat)))] ∧ hp = [(0, ⟨22, false, .ints .u32 xs⟩), (2, ⟨45, true, .one [.nat 0]⟩), (34, ⟨5, true, .ints .u8 (bytesI (xs.take i))⟩)]) k ?_ ?_ ?_
    · kernel_rfl
    · exact ⟨0, rfl, by omega, rfl, rfl⟩
    rintro m _ _ ⟨i, rfl, hi, rfl, rfl⟩
    conv => whnf
    refine ⟨fun h => ?_, fun h => ?_⟩
    · have hi' : i < k := by have := of_decide_eq_true h; omega
      conv => whnf
      have hb := hx i
      have hlen : (bytesI (xs.take i)).length = 4 * i := by rw [bytesI_len, List.length_take]; omega
      have hi2 : IntKind.i64.wrap ((i : Int) + 1) = ((i + 1 : Nat) : Int) := by rw [wrap_i64 (by omega) (by omega)]; omega
      have hs := bytesI_snoc (xs := xs) (i := i) (by omega)
      rw [bytesI_one hb.1] at hs
      (repeat (first | (refine step_w1 rfl rfl ?_; conv => whnf) | (refine step_w2 rfl rfl ?_; conv => whnf) | (refine step_i (by kernel_rfl) ?_; conv => whnf) | (refine And.intro (by first | decide | omega | (simp only [tiB5, tiB22, tiB3, tiB2, tiB9, tiB55, tiB49, tiB28, tiB4, tiB66, tiB68]; omega)) ?_; conv => whnf) | (refine g_c (by assumption) ?_; conv => whnf) | (refine g_cn (by assumption) rfl ?_; conv => whnf) | (refine g_c1 (by assumption) rfl ?_; conv => whnf) | (refine g_c2 (by assumption) rfl rfl ?_; conv => whnf) | (refine g_c1n (by assumption) rfl rfl ?_; conv => whnf) | (refine g_c1u (by assumption) rfl rfl ?_; conv => whnf) | (refine ⟨[_, _], _, [], [_, _], (by assumption), two_fk rfl rfl, nil_new, two_upd (List.mem_cons_self ..) rfl rfl rfl (List.mem_cons_of_mem _ (List.mem_cons_self ..)) rfl rfl rfl, ?_⟩; conv => whnf) | (refine ⟨[_, _], _, [_, _], [], (by assumption), two_fk rfl rfl, two_new rfl rfl, nil_upd, ?_⟩; conv => whnf) | (refine g_o (op_pickT rfl (ev_ok rfl) (ev_ok rfl)) ?_; conv => whnf) | (refine g_o (op_pickF rfl (ev_ok rfl) (ev_ok rfl)) ?_; conv => whnf) | (rw [beq_self_eq_true]; conv => whnf) | (rw [bne_self_eq_false]; conv => whnf) | (rw [show 0 + (i : Int).toNat = i from by omega]; conv => whnf)))
      refine ⟨⟨by show 4 * i ≤ (bytesI (xs.take i)).length; omega, Nat.le_refl 4, by show (4 * i + 4) * 1 ≤ _; omega, by omega⟩, ?_⟩
      conv => whnf
      (repeat (first | (refine step_w1 rfl rfl ?_; conv => whnf) | (refine step_w2 rfl rfl ?_; conv => whnf) | (refine step_i (by kernel_rfl) ?_; conv => whnf) | (refine And.intro (by first | decide | omega | (simp only [tiB5, tiB22, tiB3, tiB2, tiB9, tiB55, tiB49, tiB28, tiB4, tiB66, tiB68]; omega)) ?_; conv => whnf) | (refine g_c (by assumption) ?_; conv => whnf) | (refine g_cn (by assumption) rfl ?_; conv => whnf) | (refine g_c1 (by assumption) rfl ?_; conv => whnf) | (refine g_c2 (by assumption) rfl rfl ?_; conv => whnf) | (refine g_c1n (by assumption) rfl rfl ?_; conv => whnf) | (refine g_c1u (by assumption) rfl rfl ?_; conv => whnf) | (refine ⟨[_, _], _, [], [_, _], (by assumption), two_fk rfl rfl, nil_new, two_upd (List.mem_cons_self ..) rfl rfl rfl (List.mem_cons_of_mem _ (List.mem_cons_self ..)) rfl rfl rfl, ?_⟩; conv => whnf) | (refine ⟨[_, _], _, [_, _], [], (by assumption), two_fk rfl rfl, two_new rfl rfl, nil_upd, ?_⟩; conv => whnf) | (refine g_o (op_pickT rfl (ev_ok rfl) (ev_ok rfl)) ?_; conv => whnf) | (refine g_o (op_pickF rfl (ev_ok rfl) (ev_ok rfl)) ?_; conv => whnf) | (rw [beq_self_eq_true]; conv => whnf) | (rw [bne_self_eq_false]; conv => whnf) | (rw [hi2]; conv => whnf)))
      refine ⟨k - (i + 1), renBy [(54, 34)], [2, 6, 35, 36, 37], [0, 2, 54], by omega, by kernel_rfl, i + 1, rfl, by omega, rfl, ?_⟩
      rw [hs]
      conv => lhs; whnf
      rw [← hlen, List.take_length]
      rfl
    · have hi' : i = k := by have := of_decide_eq_false h; omega
      subst hi'
      conv => whnf
      have hlen : (bytesI (xs.take i)).length = 4 * i := by rw [bytesI_len, List.length_take]; omega
      refine ⟨_, [(34, ⟨5, true, .ints .u8 (bytesI (xs.take i))⟩)], [], op_bytesStr (P := Tryd.prog) (i := 0) (n := 4 * i) rfl (ev_ok rfl) (tabOK.get (t := 124) rfl) rfl (tabOK.get (t := 5) rfl) rfl (tabOK.get (t := 9) rfl) rfl (List.mem_cons_self ..) (by omega), one_fk rfl, nil_new, ?_⟩
      rw [List.drop_zero, ← hlen, List.take_length]
      conv => whnf
      (repeat (first | (refine step_w1 rfl rfl ?_; conv => whnf) | (refine step_w2 rfl rfl ?_; conv => whnf) | (refine step_i (by kernel_rfl) ?_; conv => whnf) | (refine And.intro (by first | decide | omega | (simp only [tiB5, tiB22, tiB3, tiB2, tiB9, tiB55, tiB49, tiB28, tiB4, tiB66, tiB68]; omega)) ?_; conv => whnf) | (refine g_c (by assumption) ?_; conv => whnf) | (refine g_cn (by assumption) rfl ?_; conv => whnf) | (refine g_c1 (by assumption) rfl ?_; conv => whnf) | (refine g_c2 (by assumption) rfl rfl ?_; conv => whnf) | (refine g_c1n (by assumption) rfl rfl ?_; conv => whnf) | (refine g_c1u (by assumption) rfl rfl ?_; conv => whnf) | (refine ⟨[_, _], _, [], [_, _], (by assumption), two_fk rfl rfl, nil_new, two_upd (List.mem_cons_self ..) rfl rfl rfl (List.mem_cons_of_mem _ (List.mem_cons_self ..)) rfl rfl rfl, ?_⟩; conv => whnf) | (refine ⟨[_, _], _, [_, _], [], (by assumption), two_fk rfl rfl, two_new rfl rfl, nil_upd, ?_⟩; conv => whnf) | (refine g_o (op_pickT rfl (ev_ok rfl) (ev_ok rfl)) ?_; conv => whnf) | (refine g_o (op_pickF rfl (ev_ok rfl) (ev_ok rfl)) ?_; conv => whnf) | (rw [beq_self_eq_true]; conv => whnf) | (rw [bne_self_eq_false]; conv => whnf)))
      refine ⟨recast_flat (l := natCells (valI xs i).toNat) ?_ rfl (fun _ h => by cases h), (fun _ _ h => by cases h), (fun _ _ h => by cases h)⟩
      rw [big_of hx (by omega) (by omega) (htop.resolve_left (by omega))]
      rfl
end Go.Proofs.YtghdcjhlhcoijaaDoor

/- Contracts: bits.Mul64. -/
namespace Go.Proofs.YtghdcjhlhcoijaaDoor
open Go.Sx
set_option linter.unusedSimpArgs false
set_option linter.unusedVariables false
set_option maxRecDepth 100000
set_option maxHeartbeats 2000000

theorem and32 (n : Nat) : n &&& 4294967295 = n % 4294967296 := by
  have := Nat.and_two_pow_sub_one_eq_mod n 32
  simpa using this

theorem iand_lo {n : Nat} (h : n < 18446744073709551616) : iand .u64 (n : Int) 4294967295 = ((n % 4294967296 : Nat) : Int) := by
  have := iand_u64 (x := n) (y := 4294967295) h (by decide)
  rw [and32] at this
  exact this
theorem ishr_hi (n : Nat) : ishr .u64 (n : Int) 32 = ((n / 4294967296 : Nat) : Int) := ishr_nat .u64 (s := 32) (by decide)

/-- The high word of the schoolbook product. -/
theorem mul_hi (x y : Nat) :
    x / 4294967296 * (y / 4294967296) + (x / 4294967296 * (y % 4294967296) + x % 4294967296 * (y % 4294967296) / 4294967296) / 4294967296 + ((x / 4294967296 * (y % 4294967296) + x % 4294967296 * (y % 4294967296) / 4294967296) % 4294967296 + x % 4294967296 * (y / 4294967296)) / 4294967296 = x * y / 18446744073709551616 := by
  have e1 : x * y = (x / 4294967296 * (y / 4294967296)) * 18446744073709551616 + (x / 4294967296 * (y % 4294967296)) * 4294967296 + (x % 4294967296 * (y / 4294967296)) * 4294967296 + x % 4294967296 * (y % 4294967296) := by
    have hx' : x = 4294967296 * (x / 4294967296) + x % 4294967296 := by omega
    have hy' : y = 4294967296 * (y / 4294967296) + y % 4294967296 := by omega
    generalize x / 4294967296 = a at *
    generalize x % 4294967296 = b at *
    generalize y / 4294967296 = c at *
    generalize y % 4294967296 = d at *
    rw [hx', hy', Nat.add_mul, Nat.mul_add, Nat.mul_add, Nat.mul_mul_mul_comm, Nat.mul_assoc 4294967296 a d, Nat.mul_left_comm b 4294967296 c]
    omega
  generalize x / 4294967296 * (y / 4294967296) = A at *
  generalize x / 4294967296 * (y % 4294967296) = B at *
  generalize x % 4294967296 * (y / 4294967296) = C at *
  generalize x % 4294967296 * (y % 4294967296) = D at *
  omega

theorem c_Mul64 (x y : Nat) (hx : x < 18446744073709551616) (hy : y < 18446744073709551616) :
    CallOK Tryd.prog 78 [.val (.int .u64 x), .val (.int .u64 y)] [] (.tup [.val (.int .u64 (x * y / 18446744073709551616 : Nat)), .val (.int .u64 (x * y % 18446744073709551616 : Nat))]) [] [] := by
  refine callV (Z := []) tabOK mixedOK Tryd.func78 rfl (by kernel_rfl) rfl rfl (by kernel_rfl) rfl ?_
  intro W0 w0 ρ0 hE
  conv => whnf
  iterate 5
    refine ⟨by decide, ?_⟩
    conv => whnf
  have hh := mul_hi x y
  have elo : IntKind.u64.wrap ((x : Int) * y) = ((x * y % 18446744073709551616 : Nat) : Int) := by rw [wrap_u64', ← Int.natCast_mul]; omega
  rw [elo, ishr_hi x, ishr_hi y, iand_lo hx, iand_lo hy]
  have ba : x / 4294967296 ≤ 4294967295 := by omega
  have bb : x % 4294967296 ≤ 4294967295 := by omega
  have bc : y / 4294967296 ≤ 4294967295 := by omega
  have bd : y % 4294967296 ≤ 4294967295 := by omega
  generalize x / 4294967296 = a at *
  generalize x % 4294967296 = b at *
  generalize y / 4294967296 = c at *
  generalize y % 4294967296 = d at *
  have pac := Nat.mul_le_mul ba bc
  have pad := Nat.mul_le_mul ba bd
  have pbc := Nat.mul_le_mul bb bc
  have pbd := Nat.mul_le_mul bb bd
  have wu : ∀ {n : Nat}, n < 18446744073709551616 → IntKind.u64.wrap (n : Int) = n := fun h => wrap_u64 (by omega) (by omega)
  rw [← Int.natCast_mul, ← Int.natCast_mul, ← Int.natCast_mul, ← Int.natCast_mul, wu (n := a * c) (by omega), wu (n := a * d) (by omega), wu (n := b * d) (by omega), wu (n := b * c) (by omega), ishr_hi (b * d), ← Int.natCast_add, wu (n := a * d + b * d / 4294967296) (by omega), ishr_hi, iand_lo (by omega), ← Int.natCast_add, ← Int.natCast_add, wu (n := a * c + (a * d + b * d / 4294967296) / 4294967296) (by omega), wu (n := (a * d + b * d / 4294967296) % 4294967296 + b * c) (by omega), ishr_hi, ← Int.natCast_add, hh, wu (by omega)]
  exact Recast.refl _
end Go.Proofs.YtghdcjhlhcoijaaDoor

/- Contracts: math/bits on 32 bits. -/
namespace Go.Proofs.YtghdcjhlhcoijaaDoor
open Go.Sx
set_option linter.unusedSimpArgs false
set_option linter.unusedVariables false
set_option maxRecDepth 100000
set_option maxHeartbeats 4000000

theorem wu64 {n : Nat} (h : n < 18446744073709551616) : IntKind.u64.wrap (n : Int) = n := wrap_u64 (by omega) (by omega)
theorem wu32 {n : Nat} (h : n < 4294967296) : IntKind.u32.wrap (n : Int) = n := wrap_u32 (by omega) (by omega)
theorem wu32m (n : Nat) : IntKind.u32.wrap (n : Int) = ((n % 4294967296 : Nat) : Int) := by rw [wrap_u32']; omega

theorem c_Add32 (x y c : Nat) (hx : x < 4294967296) (hy : y < 4294967296) (hc : c ≤ 1) :
    CallOK Tryd.prog 75 [.val (.int .u32 x), .val (.int .u32 y), .val (.int .u32 c)] [] (.tup [.val (.int .u32 ((x + y + c) % 4294967296 : Nat)), .val (.int .u32 ((x + y + c) / 4294967296 : Nat))]) [] [] := by
  have e1 : IntKind.u64.wrap (IntKind.u64.wrap (IntKind.u64.wrap (x : Int) + IntKind.u64.wrap (y : Int)) + IntKind.u64.wrap (c : Int)) = ((x + y + c : Nat) : Int) := by
    rw [wu64 (n := x) (by omega), wu64 (n := y) (by omega), wu64 (n := c) (by omega), ← Int.natCast_add, wu64 (by omega), ← Int.natCast_add, wu64 (by omega)]
  have e2 : IntKind.u32.wrap (ishr .u64 ((x + y + c : Nat) : Int) 32) = (((x + y + c) / 4294967296 : Nat) : Int) := by rw [ishr_hi, wu32 (by omega)]
  refine callV (Z := []) tabOK mixedOK Tryd.func75 rfl (by kernel_rfl) rfl rfl (by kernel_rfl) rfl ?_
  intro W0 w0 ρ0 hE
  conv => whnf
  (repeat (first | (refine step_w1 rfl rfl ?_; conv => whnf) | (refine step_w2 rfl rfl ?_; conv => whnf) | (refine step_i (by kernel_rfl) ?_; conv => whnf) | (refine And.intro (by first | decide | omega | (simp only [tiB5, tiB22, tiB3, tiB2, tiB9, tiB55, tiB49, tiB28, tiB4, tiB66, tiB68]; omega)) ?_; conv => whnf) | (refine ⟨[], _, [], [], (by assumption), nil_fk, nil_new, nil_upd, ?_⟩; conv => whnf) | (refine ⟨[], _, [_], [], (by assumption), nil_fk, one_new rfl, nil_upd, ?_⟩; conv => whnf) | (refine ⟨[_], _, [], [], (by assumption), one_fk rfl, nil_new, nil_upd, ?_⟩; conv => whnf) | (refine ⟨[_, _], _, [], [], (by assumption), two_fk rfl rfl, nil_new, nil_upd, ?_⟩; conv => whnf) | (refine ⟨[_], _, [_], [], (by assumption), one_fk rfl, one_new rfl, nil_upd, ?_⟩; conv => whnf) | (refine ⟨[_], _, [], [_], (by assumption), one_fk rfl, nil_new, one_upd (List.mem_cons_self ..) rfl rfl rfl, ?_⟩; conv => whnf) | (refine ⟨[_, _], _, [], [_, _], (by assumption), two_fk rfl rfl, nil_new, two_upd (List.mem_cons_self ..) rfl rfl rfl (List.mem_cons_of_mem _ (List.mem_cons_self ..)) rfl rfl rfl, ?_⟩; conv => whnf) | (refine ⟨[_, _], _, [_, _], [], (by assumption), two_fk rfl rfl, two_new rfl rfl, nil_upd, ?_⟩; conv => whnf) | (refine ⟨_, [], [], [], op_pickT rfl (ev_ok rfl) (ev_ok rfl), nil_fk, nil_new, nil_upd, ?_⟩; conv => whnf) | (refine ⟨_, [], [], [], op_pickF rfl (ev_ok rfl) (ev_ok rfl), nil_fk, nil_new, nil_upd, ?_⟩; conv => whnf) | (rw [beq_self_eq_true]; conv => whnf) | (rw [bne_self_eq_false]; conv => whnf)))
  rw [e1, e2, wu32m]
  exact Recast.refl _

theorem ior_u32 {x y : Nat} (hx : x < 4294967296) (hy : y < 4294967296) : ior .u32 x y = ((x ||| y : Nat) : Int) := by
  have : x ||| y < 4294967296 := Nat.or_lt_two_pow (n := 32) hx hy
  have e1 : (BitVec.ofInt IntKind.u32.bits (x : Int)).toNat = x := by simp [BitVec.toNat_ofInt, IntKind.bits]; omega
  have e2 : (BitVec.ofInt IntKind.u32.bits (y : Int)).toNat = y := by simp [BitVec.toNat_ofInt, IntKind.bits]; omega
  rw [ior, BitVec.toNat_or, e1, e2]
  exact wu32 this
theorem ixor_u32 {x y : Nat} (hx : x < 4294967296) (hy : y < 4294967296) : ixor .u32 x y = ((x ^^^ y : Nat) : Int) := by
  have : x ^^^ y < 4294967296 := Nat.xor_lt_two_pow (n := 32) hx hy
  have e1 : (BitVec.ofInt IntKind.u32.bits (x : Int)).toNat = x := by simp [BitVec.toNat_ofInt, IntKind.bits]; omega
  have e2 : (BitVec.ofInt IntKind.u32.bits (y : Int)).toNat = y := by simp [BitVec.toNat_ofInt, IntKind.bits]; omega
  rw [ixor, BitVec.toNat_xor, e1, e2]
  exact wu32 this

theorem top31 {n : Nat} (h : n < 4294967296) : n / 2147483648 = if n.testBit 31 then 1 else 0 := by
  rw [Nat.testBit_eq_decide_div_mod_eq]
  simp only [Nat.reducePow, decide_eq_true_eq]
  split <;> omega
theorem bit31 {n : Nat} (h : n < 4294967296) : n.testBit 31 = decide (2147483648 ≤ n) := by
  rw [Nat.testBit_eq_decide_div_mod_eq, decide_eq_decide]
  simp only [Nat.reducePow]
  omega

theorem borrow (x y c : Nat) (hx : x < 4294967296) (hy : y < 4294967296) (hc : c ≤ 1) :
    ((((4294967295 ^^^ x) &&& y) ||| ((4294967295 ^^^ (x ^^^ y)) &&& ((x + 4294967296 - y - c) % 4294967296))) / 2147483648 : Nat) = if x < y + c then 1 else 0 := by
  have hd : (x + 4294967296 - y - c) % 4294967296 < 4294967296 := Nat.mod_lt _ (by decide)
  rw [top31 (Nat.or_lt_two_pow (n := 32) (Nat.and_lt_two_pow (n := 32) _ hy) (Nat.and_lt_two_pow (n := 32) _ hd)), Nat.testBit_or, Nat.testBit_and, Nat.testBit_and, Nat.testBit_xor, Nat.testBit_xor, Nat.testBit_xor, bit31 hx, bit31 hy, bit31 hd, bit31 (n := 4294967295) (by decide)]
  by_cases h1 : 2147483648 ≤ x <;> by_cases h2 : 2147483648 ≤ y <;> simp [h1, h2] <;> (try split) <;> (try split) <;> omega

theorem c_Sub32 (x y c : Nat) (hx : x < 4294967296) (hy : y < 4294967296) (hc : c ≤ 1) :
    CallOK Tryd.prog 89 [.val (.int .u32 x), .val (.int .u32 y), .val (.int .u32 c)] [] (.tup [.val (.int .u32 ((x + 4294967296 - y - c) % 4294967296 : Nat)), .val (.int .u32 ((if x < y + c then 1 else 0 : Nat)))]) [] [] := by
  have hd : (x + 4294967296 - y - c) % 4294967296 < 4294967296 := Nat.mod_lt _ (by decide)
  have e1 : IntKind.u32.wrap (IntKind.u32.wrap ((x : Int) - y) - c) = (((x + 4294967296 - y - c) % 4294967296 : Nat) : Int) := by rw [wrap_u32', wrap_u32']; omega
  have hb := borrow x y c hx hy hc
  have e2 : ixor .u32 (if IntKind.u32.signed = true then -1 else IntKind.u32.max) (x : Int) = ((4294967295 ^^^ x : Nat) : Int) := ixor_u32 (x := 4294967295) (by decide) hx
  have hxy : x ^^^ y < 4294967296 := Nat.xor_lt_two_pow (n := 32) hx hy
  have e3 : ixor .u32 (x : Int) y = ((x ^^^ y : Nat) : Int) := ixor_u32 hx hy
  have e4 : ixor .u32 (if IntKind.u32.signed = true then -1 else IntKind.u32.max) ((x ^^^ y : Nat) : Int) = ((4294967295 ^^^ (x ^^^ y) : Nat) : Int) := ixor_u32 (x := 4294967295) (by decide) hxy
  have hnx : 4294967295 ^^^ x < 4294967296 := Nat.xor_lt_two_pow (n := 32) (by decide) hx
  have hnxy : 4294967295 ^^^ (x ^^^ y) < 4294967296 := Nat.xor_lt_two_pow (n := 32) (by decide) hxy
  have e5 : iand .u32 ((4294967295 ^^^ x : Nat) : Int) y = (((4294967295 ^^^ x) &&& y : Nat) : Int) := iand_u32 hnx hy
  have e6 : iand .u32 ((4294967295 ^^^ (x ^^^ y) : Nat) : Int) (((x + 4294967296 - y - c) % 4294967296 : Nat) : Int) = (((4294967295 ^^^ (x ^^^ y)) &&& ((x + 4294967296 - y - c) % 4294967296) : Nat) : Int) := iand_u32 hnxy hd
  have e7 := ior_u32 (Nat.and_lt_two_pow (n := 32) (4294967295 ^^^ x) hy) (Nat.and_lt_two_pow (n := 32) (4294967295 ^^^ (x ^^^ y)) hd)
  have e8 : ∀ n : Nat, ishr .u32 (n : Int) 31 = ((n / 2147483648 : Nat) : Int) := fun n => ishr_nat .u32 (s := 31) (by decide)
  refine callV (Z := []) tabOK mixedOK Tryd.func89 rfl (by kernel_rfl) rfl rfl (by kernel_rfl) rfl ?_
  intro W0 w0 ρ0 hE
  conv => whnf
  (repeat (first | (refine step_w1 rfl rfl ?_; conv => whnf) | (refine step_w2 rfl rfl ?_; conv => whnf) | (refine step_i (by kernel_rfl) ?_; conv => whnf) | (refine And.intro (by first | decide | omega | (simp only [tiB5, tiB22, tiB3, tiB2, tiB9, tiB55, tiB49, tiB28, tiB4, tiB66, tiB68]; omega)) ?_; conv => whnf) | (refine ⟨[], _, [], [], (by assumption), nil_fk, nil_new, nil_upd, ?_⟩; conv => whnf) | (refine ⟨[], _, [_], [], (by assumption), nil_fk, one_new rfl, nil_upd, ?_⟩; conv => whnf) | (refine ⟨[_], _, [], [], (by assumption), one_fk rfl, nil_new, nil_upd, ?_⟩; conv => whnf) | (refine ⟨[_, _], _, [], [], (by assumption), two_fk rfl rfl, nil_new, nil_upd, ?_⟩; conv => whnf) | (refine ⟨[_], _, [_], [], (by assumption), one_fk rfl, one_new rfl, nil_upd, ?_⟩; conv => whnf) | (refine ⟨[_], _, [], [_], (by assumption), one_fk rfl, nil_new, one_upd (List.mem_cons_self ..) rfl rfl rfl, ?_⟩; conv => whnf) | (refine ⟨[_, _], _, [], [_, _], (by assumption), two_fk rfl rfl, nil_new, two_upd (List.mem_cons_self ..) rfl rfl rfl (List.mem_cons_of_mem _ (List.mem_cons_self ..)) rfl rfl rfl, ?_⟩; conv => whnf) | (refine ⟨[_, _], _, [_, _], [], (by assumption), two_fk rfl rfl, two_new rfl rfl, nil_upd, ?_⟩; conv => whnf) | (refine ⟨_, [], [], [], op_pickT rfl (ev_ok rfl) (ev_ok rfl), nil_fk, nil_new, nil_upd, ?_⟩; conv => whnf) | (refine ⟨_, [], [], [], op_pickF rfl (ev_ok rfl) (ev_ok rfl), nil_fk, nil_new, nil_upd, ?_⟩; conv => whnf) | (rw [beq_self_eq_true]; conv => whnf) | (rw [bne_self_eq_false]; conv => whnf)))
  rw [e1, e2, e3, e4, e5, e6, e7, e8, hb]
  exact Recast.refl _

theorem c_Div32 (h l y : Nat) (hh : h < y) (hl : l < 4294967296) (hy : y < 4294967296) :
    CallOK Tryd.prog 99 [.val (.int .u32 h), .val (.int .u32 l), .val (.int .u32 y)] [] (.tup [.val (.int .u32 ((h * 4294967296 + l) / y : Nat)), .val (.int .u32 ((h * 4294967296 + l) % y : Nat))]) [] [] := by
  have t1 : (((y : Nat) : Int) != 0) = true := by simp; omega
  have t2 : decide ((y : Int) ≤ (h : Int)) = false := by simp; omega
  have e1 : ishl .u64 (IntKind.u64.wrap (h : Int)) 32 = ((h * 4294967296 : Nat) : Int) := by
    rw [wu64 (by omega)]
    show IntKind.u64.wrap ((h : Int) * 4294967296) = _
    rw [show (h : Int) * 4294967296 = ((h * 4294967296 : Nat) : Int) from by omega, wu64 (by omega)]
  have e2 : ior .u64 ((h * 4294967296 : Nat) : Int) (l : Int) = ((h * 4294967296 + l : Nat) : Int) := by
    rw [ior_u64 (by omega) (by omega), Nat.mul_comm, ← Nat.two_pow_add_eq_or_of_lt (i := 32) (b := l) (by omega) h]
  have hq : (h * 4294967296 + l) / y < 4294967296 := Nat.div_lt_of_lt_mul (by
    have := Nat.mul_le_mul_right 4294967296 (show h + 1 ≤ y by omega)
    rw [Nat.mul_comm y]; omega)
  have hr : (h * 4294967296 + l) % y < y := Nat.mod_lt _ (by omega)
  have e3 : ((h * 4294967296 + l : Nat) : Int).tdiv (y : Int) = (((h * 4294967296 + l) / y : Nat) : Int) := rfl
  have e4 : ((h * 4294967296 + l : Nat) : Int).tmod (y : Int) = (((h * 4294967296 + l) % y : Nat) : Int) := rfl
  refine callV (Z := []) tabOK mixedOK Tryd.func99 rfl (by kernel_rfl) rfl rfl (by kernel_rfl) rfl ?_
  intro W0 w0 ρ0 hE
  conv => whnf
  (repeat (first | (refine step_w1 rfl rfl ?_; conv => whnf) | (refine step_w2 rfl rfl ?_; conv => whnf) | (refine step_i (by kernel_rfl) ?_; conv => whnf) | (refine And.intro (by first | decide | omega | (simp only [tiB5, tiB22, tiB3, tiB2, tiB9, tiB55, tiB49, tiB28, tiB4, tiB66, tiB68]; omega)) ?_; conv => whnf) | (refine ⟨[], _, [], [], (by assumption), nil_fk, nil_new, nil_upd, ?_⟩; conv => whnf) | (refine ⟨[], _, [_], [], (by assumption), nil_fk, one_new rfl, nil_upd, ?_⟩; conv => whnf) | (refine ⟨[_], _, [], [], (by assumption), one_fk rfl, nil_new, nil_upd, ?_⟩; conv => whnf) | (refine ⟨[_, _], _, [], [], (by assumption), two_fk rfl rfl, nil_new, nil_upd, ?_⟩; conv => whnf) | (refine ⟨[_], _, [_], [], (by assumption), one_fk rfl, one_new rfl, nil_upd, ?_⟩; conv => whnf) | (refine ⟨[_], _, [], [_], (by assumption), one_fk rfl, nil_new, one_upd (List.mem_cons_self ..) rfl rfl rfl, ?_⟩; conv => whnf) | (refine ⟨[_, _], _, [], [_, _], (by assumption), two_fk rfl rfl, nil_new, two_upd (List.mem_cons_self ..) rfl rfl rfl (List.mem_cons_of_mem _ (List.mem_cons_self ..)) rfl rfl rfl, ?_⟩; conv => whnf) | (refine ⟨[_, _], _, [_, _], [], (by assumption), two_fk rfl rfl, two_new rfl rfl, nil_upd, ?_⟩; conv => whnf) | (refine ⟨_, [], [], [], op_pickT rfl (ev_ok rfl) (ev_ok rfl), nil_fk, nil_new, nil_upd, ?_⟩; conv => whnf) | (refine ⟨_, [], [], [], op_pickF rfl (ev_ok rfl) (ev_ok rfl), nil_fk, nil_new, nil_upd, ?_⟩; conv => whnf) | (rw [beq_self_eq_true]; conv => whnf) | (rw [bne_self_eq_false]; conv => whnf) | (rw [t1]; conv => whnf) | (rw [t2]; conv => whnf) | (rw [e1]; conv => whnf) | (rw [wu64 (n := l) (by omega)]; conv => whnf) | (rw [wu64 (n := y) (by omega)]; conv => whnf) | (rw [e2]; conv => whnf) | (rw [e3]; conv => whnf) | (rw [e4]; conv => whnf) | (rw [wu64 (n := (h * 4294967296 + l) / y) (by omega)]; conv => whnf) | (rw [wu64 (n := (h * 4294967296 + l) % y) (by omega)]; conv => whnf) | (rw [wu32 hq]; conv => whnf) | (rw [wu32 (n := (h * 4294967296 + l) % y) (by omega)]; conv => whnf))); exact Recast.refl _

theorem sz_of {n k : Nat} (h0 : 2 ^ k ≤ n) (h1 : n < 2 ^ (k + 1)) : sz n = k + 1 := by
  have := sz_le.2 h1
  have h2 : ¬ sz n ≤ k := fun h => by have := sz_le.1 h; omega
  omega
theorem sz_shift {n k : Nat} (h : 0 < n / 2 ^ k) : sz n = sz (n / 2 ^ k) + k := by
  generalize hm : n / 2 ^ k = m at *
  have hm0 : m ≠ 0 := by omega
  obtain ⟨j, hj⟩ : ∃ j, sz m = j + 1 := ⟨sz m - 1, by have := sz_pos hm0; omega⟩
  have h1 : m < 2 ^ (j + 1) := sz_le.1 (by omega)
  have h2 : 2 ^ j ≤ m := by
    refine Nat.le_of_not_lt fun h => ?_
    have := sz_le.2 h
    omega
  have hd := Nat.div_add_mod n (2 ^ k)
  have hl := Nat.mod_lt n (Nat.two_pow_pos k)
  rw [hm] at hd
  rw [hj, sz_of (n := n) (k := j + k)]
  · omega
  · rw [Nat.pow_add]
    have := Nat.mul_le_mul_left (2 ^ k) h2
    rw [Nat.mul_comm (2 ^ j)]; omega
  · rw [show j + k + 1 = k + (j + 1) from by omega, Nat.pow_add]
    have := Nat.mul_le_mul_left (2 ^ k) (show m + 1 ≤ 2 ^ (j + 1) from h1)
    rw [Nat.mul_add, Nat.mul_one] at this
    omega

def chkTab (s : ByteArray) : Bool := decide (s.size = 256) && (List.range 256).all (fun j => s.data.getD j 0 == UInt8.ofNat (sz j))
theorem tab_bound {s : ByteArray} {j : Nat} (hj : j < 256) (hs : chkTab s = true) : (0 ≤ (j : Int) ∧ (j : Int) < (s.size : Int)) := by
  simp only [chkTab, Bool.and_eq_true, decide_eq_true_eq] at hs
  omega
theorem sz256 : ∀ j, j < 256 → sz j < 256 := fun j hj => Nat.lt_of_le_of_lt (sz_le.2 (show j < 2 ^ 8 from hj)) (by decide)
theorem tab_val {s : ByteArray} {j : Nat} (hj : j < 256) (hs : chkTab s = true) : (s.data.getD (j : Int).toNat 0).toNat = sz j := by
  simp only [chkTab, Bool.and_eq_true, decide_eq_true_eq, List.all_eq_true, List.mem_range, beq_iff_eq] at hs
  rw [Int.toNat_natCast, hs.2 j hj]
  have := sz256 j hj
  simp only [UInt8.toNat_ofNat']
  omega
theorem wu8 {n : Nat} (h : n < 256) : IntKind.u8.wrap (n : Int) = n := by simp [IntKind.wrap, IntKind.bits, IntKind.signed]; omega
theorem wi64 {n : Nat} (h : n < 9223372036854775808) : IntKind.i64.wrap (n : Int) = n := wrap_i64 (by omega) (by omega)

theorem c_Len32 (x : Nat) (hx : x < 4294967296) :
    CallOK Tryd.prog 105 [.val (.int .u32 x)] [] (.val (.int .i64 (sz x))) [] [] := by
  have s16 : ishr .u32 (x : Int) 16 = ((x / 65536 : Nat) : Int) := ishr_nat .u32 (s := 16) (by decide)
  have s8 : ∀ y : Nat, ishr .u32 (y : Int) 8 = ((y / 256 : Nat) : Int) := fun y => ishr_nat .u32 (s := 8) (by decide)
  have fin : ∀ (j : Nat) (k : Int), j < 256 → (sz x : Int) = sz j + k → 0 ≤ k → k ≤ 24 → IntKind.i64.wrap (k + IntKind.i64.wrap ((sz j : Nat) : Int)) = (sz x : Nat) := fun j k hj h hk hk' => by
    have := sz256 j hj
    rw [wi64 (n := sz j) (by omega), wrap_i64 (by omega) (by omega)]; omega
  refine callV (Z := []) tabOK mixedOK Tryd.func105 rfl (by kernel_rfl) rfl rfl (by kernel_rfl) rfl ?_
  intro W0 w0 ρ0 hE
  conv => whnf
  by_cases h1 : 65536 ≤ x
  · have t1 : decide ((x : Int) ≥ 65536) = true := by simp; omega
    by_cases h2 : 256 ≤ x / 65536
    · have t2 : decide (((x / 65536 : Nat) : Int) ≥ 256) = true := by simp; omega
      (repeat (first | (refine step_w1 rfl rfl ?_; conv => whnf) | (refine step_w2 rfl rfl ?_; conv => whnf) | (refine step_i (by kernel_rfl) ?_; conv => whnf) | (refine And.intro (by first | decide | omega | (simp only [tiB5, tiB22, tiB3, tiB2, tiB9, tiB55, tiB49, tiB28, tiB4, tiB66, tiB68]; omega)) ?_; conv => whnf) | (refine ⟨[], _, [], [], (by assumption), nil_fk, nil_new, nil_upd, ?_⟩; conv => whnf) | (refine ⟨[], _, [_], [], (by assumption), nil_fk, one_new rfl, nil_upd, ?_⟩; conv => whnf) | (refine ⟨[_], _, [], [], (by assumption), one_fk rfl, nil_new, nil_upd, ?_⟩; conv => whnf) | (refine ⟨[_, _], _, [], [], (by assumption), two_fk rfl rfl, nil_new, nil_upd, ?_⟩; conv => whnf) | (refine ⟨[_], _, [_], [], (by assumption), one_fk rfl, one_new rfl, nil_upd, ?_⟩; conv => whnf) | (refine ⟨[_], _, [], [_], (by assumption), one_fk rfl, nil_new, one_upd (List.mem_cons_self ..) rfl rfl rfl, ?_⟩; conv => whnf) | (refine ⟨[_, _], _, [], [_, _], (by assumption), two_fk rfl rfl, nil_new, two_upd (List.mem_cons_self ..) rfl rfl rfl (List.mem_cons_of_mem _ (List.mem_cons_self ..)) rfl rfl rfl, ?_⟩; conv => whnf) | (refine ⟨[_, _], _, [_, _], [], (by assumption), two_fk rfl rfl, two_new rfl rfl, nil_upd, ?_⟩; conv => whnf) | (refine ⟨_, [], [], [], op_pickT rfl (ev_ok rfl) (ev_ok rfl), nil_fk, nil_new, nil_upd, ?_⟩; conv => whnf) | (refine ⟨_, [], [], [], op_pickF rfl (ev_ok rfl) (ev_ok rfl), nil_fk, nil_new, nil_upd, ?_⟩; conv => whnf) | (rw [beq_self_eq_true]; conv => whnf) | (rw [bne_self_eq_false]; conv => whnf) | (rw [t1]; conv => whnf) | (rw [s16]; conv => whnf) | (rw [t2]; conv => whnf) | (rw [s8]; conv => whnf) | (rw [wu8 (n := x / 65536 / 256) (by omega)]; conv => whnf)))
      refine ⟨tab_bound (by omega) (by kernel_rfl), ?_⟩
      conv => whnf
      (repeat (first | (refine step_w1 rfl rfl ?_; conv => whnf) | (refine step_w2 rfl rfl ?_; conv => whnf) | (refine step_i (by kernel_rfl) ?_; conv => whnf) | (refine And.intro (by first | decide | omega | (simp only [tiB5, tiB22, tiB3, tiB2, tiB9, tiB55, tiB49, tiB28, tiB4, tiB66, tiB68]; omega)) ?_; conv => whnf) | (refine ⟨[], _, [], [], (by assumption), nil_fk, nil_new, nil_upd, ?_⟩; conv => whnf) | (refine ⟨[], _, [_], [], (by assumption), nil_fk, one_new rfl, nil_upd, ?_⟩; conv => whnf) | (refine ⟨[_], _, [], [], (by assumption), one_fk rfl, nil_new, nil_upd, ?_⟩; conv => whnf) | (refine ⟨[_, _], _, [], [], (by assumption), two_fk rfl rfl, nil_new, nil_upd, ?_⟩; conv => whnf) | (refine ⟨[_], _, [_], [], (by assumption), one_fk rfl, one_new rfl, nil_upd, ?_⟩; conv => whnf) | (refine ⟨[_], _, [], [_], (by assumption), one_fk rfl, nil_new, one_upd (List.mem_cons_self ..) rfl rfl rfl, ?_⟩; conv => whnf) | (refine ⟨[_, _], _, [], [_, _], (by assumption), two_fk rfl rfl, nil_new, two_upd (List.mem_cons_self ..) rfl rfl rfl (List.mem_cons_of_mem _ (List.mem_cons_self ..)) rfl rfl rfl, ?_⟩; conv => whnf) | (refine ⟨[_, _], _, [_, _], [], (by assumption), two_fk rfl rfl, two_new rfl rfl, nil_upd, ?_⟩; conv => whnf) | (refine ⟨_, [], [], [], op_pickT rfl (ev_ok rfl) (ev_ok rfl), nil_fk, nil_new, nil_upd, ?_⟩; conv => whnf) | (refine ⟨_, [], [], [], op_pickF rfl (ev_ok rfl) (ev_ok rfl), nil_fk, nil_new, nil_upd, ?_⟩; conv => whnf) | (rw [beq_self_eq_true]; conv => whnf) | (rw [bne_self_eq_false]; conv => whnf)))
      rw [tab_val (j := x / 65536 / 256) (by omega), show IntKind.i64.wrap (IntKind.i64.wrap (16 + 8) + IntKind.i64.wrap ((sz (x / 65536 / 256) : Nat) : Int)) = IntKind.i64.wrap (24 + IntKind.i64.wrap ((sz (x / 65536 / 256) : Nat) : Int)) from rfl, fin (x / 65536 / 256) 24 (by omega) ?_ (by omega) (by omega)]
      · exact Recast.refl _
      · rw [sz_shift (n := x) (k := 24) (by omega), Nat.div_div_eq_div_mul]; rfl
      · kernel_rfl
    · have t2 : decide (((x / 65536 : Nat) : Int) ≥ 256) = false := by simp; omega
      (repeat (first | (refine step_w1 rfl rfl ?_; conv => whnf) | (refine step_w2 rfl rfl ?_; conv => whnf) | (refine step_i (by kernel_rfl) ?_; conv => whnf) | (refine And.intro (by first | decide | omega | (simp only [tiB5, tiB22, tiB3, tiB2, tiB9, tiB55, tiB49, tiB28, tiB4, tiB66, tiB68]; omega)) ?_; conv => whnf) | (refine ⟨[], _, [], [], (by assumption), nil_fk, nil_new, nil_upd, ?_⟩; conv => whnf) | (refine ⟨[], _, [_], [], (by assumption), nil_fk, one_new rfl, nil_upd, ?_⟩; conv => whnf) | (refine ⟨[_], _, [], [], (by assumption), one_fk rfl, nil_new, nil_upd, ?_⟩; conv => whnf) | (refine ⟨[_, _], _, [], [], (by assumption), two_fk rfl rfl, nil_new, nil_upd, ?_⟩; conv => whnf) | (refine ⟨[_], _, [_], [], (by assumption), one_fk rfl, one_new rfl, nil_upd, ?_⟩; conv => whnf) | (refine ⟨[_], _, [], [_], (by assumption), one_fk rfl, nil_new, one_upd (List.mem_cons_self ..) rfl rfl rfl, ?_⟩; conv => whnf) | (refine ⟨[_, _], _, [], [_, _], (by assumption), two_fk rfl rfl, nil_new, two_upd (List.mem_cons_self ..) rfl rfl rfl (List.mem_cons_of_mem _ (List.mem_cons_self ..)) rfl rfl rfl, ?_⟩; conv => whnf) | (refine ⟨[_, _], _, [_, _], [], (by assumption), two_fk rfl rfl, two_new rfl rfl, nil_upd, ?_⟩; conv => whnf) | (refine ⟨_, [], [], [], op_pickT rfl (ev_ok rfl) (ev_ok rfl), nil_fk, nil_new, nil_upd, ?_⟩; conv => whnf) | (refine ⟨_, [], [], [], op_pickF rfl (ev_ok rfl) (ev_ok rfl), nil_fk, nil_new, nil_upd, ?_⟩; conv => whnf) | (rw [beq_self_eq_true]; conv => whnf) | (rw [bne_self_eq_false]; conv => whnf) | (rw [t1]; conv => whnf) | (rw [s16]; conv => whnf) | (rw [t2]; conv => whnf) | (rw [s8]; conv => whnf) | (rw [wu8 (n := x / 65536) (by omega)]; conv => whnf)))
      refine ⟨tab_bound (by omega) (by kernel_rfl), ?_⟩
      conv => whnf
      (repeat (first | (refine step_w1 rfl rfl ?_; conv => whnf) | (refine step_w2 rfl rfl ?_; conv => whnf) | (refine step_i (by kernel_rfl) ?_; conv => whnf) | (refine And.intro (by first | decide | omega | (simp only [tiB5, tiB22, tiB3, tiB2, tiB9, tiB55, tiB49, tiB28, tiB4, tiB66, tiB68]; omega)) ?_; conv => whnf) | (refine ⟨[], _, [], [], (by assumption), nil_fk, nil_new, nil_upd, ?_⟩; conv => whnf) | (refine ⟨[], _, [_], [], (by assumption), nil_fk, one_new rfl, nil_upd, ?_⟩; conv => whnf) | (refine ⟨[_], _, [], [], (by assumption), one_fk rfl, nil_new, nil_upd, ?_⟩; conv => whnf) | (refine ⟨[_, _], _, [], [], (by assumption), two_fk rfl rfl, nil_new, nil_upd, ?_⟩; conv => whnf) | (refine ⟨[_], _, [_], [], (by assumption), one_fk rfl, one_new rfl, nil_upd, ?_⟩; conv => whnf) | (refine ⟨[_], _, [], [_], (by assumption), one_fk rfl, nil_new, one_upd (List.mem_cons_self ..) rfl rfl rfl, ?_⟩; conv => whnf) | (refine ⟨[_, _], _, [], [_, _], (by assumption), two_fk rfl rfl, nil_new, two_upd (List.mem_cons_self ..) rfl rfl rfl (List.mem_cons_of_mem _ (List.mem_cons_self ..)) rfl rfl rfl, ?_⟩; conv => whnf) | (refine ⟨[_, _], _, [_, _], [], (by assumption), two_fk rfl rfl, two_new rfl rfl, nil_upd, ?_⟩; conv => whnf) | (refine ⟨_, [], [], [], op_pickT rfl (ev_ok rfl) (ev_ok rfl), nil_fk, nil_new, nil_upd, ?_⟩; conv => whnf) | (refine ⟨_, [], [], [], op_pickF rfl (ev_ok rfl) (ev_ok rfl), nil_fk, nil_new, nil_upd, ?_⟩; conv => whnf) | (rw [beq_self_eq_true]; conv => whnf) | (rw [bne_self_eq_false]; conv => whnf)))
      rw [tab_val (j := x / 65536) (by omega), fin (x / 65536) 16 (by omega) ?_ (by omega) (by omega)]
      · exact Recast.refl _
      · rw [sz_shift (n := x) (k := 16) (by omega)]; rfl
      · kernel_rfl
  · have t1 : decide ((x : Int) ≥ 65536) = false := by simp; omega
    by_cases h2 : 256 ≤ x
    · have t2 : decide ((x : Int) ≥ 256) = true := by simp; omega
      (repeat (first | (refine step_w1 rfl rfl ?_; conv => whnf) | (refine step_w2 rfl rfl ?_; conv => whnf) | (refine step_i (by kernel_rfl) ?_; conv => whnf) | (refine And.intro (by first | decide | omega | (simp only [tiB5, tiB22, tiB3, tiB2, tiB9, tiB55, tiB49, tiB28, tiB4, tiB66, tiB68]; omega)) ?_; conv => whnf) | (refine ⟨[], _, [], [], (by assumption), nil_fk, nil_new, nil_upd, ?_⟩; conv => whnf) | (refine ⟨[], _, [_], [], (by assumption), nil_fk, one_new rfl, nil_upd, ?_⟩; conv => whnf) | (refine ⟨[_], _, [], [], (by assumption), one_fk rfl, nil_new, nil_upd, ?_⟩; conv => whnf) | (refine ⟨[_, _], _, [], [], (by assumption), two_fk rfl rfl, nil_new, nil_upd, ?_⟩; conv => whnf) | (refine ⟨[_], _, [_], [], (by assumption), one_fk rfl, one_new rfl, nil_upd, ?_⟩; conv => whnf) | (refine ⟨[_], _, [], [_], (by assumption), one_fk rfl, nil_new, one_upd (List.mem_cons_self ..) rfl rfl rfl, ?_⟩; conv => whnf) | (refine ⟨[_, _], _, [], [_, _], (by assumption), two_fk rfl rfl, nil_new, two_upd (List.mem_cons_self ..) rfl rfl rfl (List.mem_cons_of_mem _ (List.mem_cons_self ..)) rfl rfl rfl, ?_⟩; conv => whnf) | (refine ⟨[_, _], _, [_, _], [], (by assumption), two_fk rfl rfl, two_new rfl rfl, nil_upd, ?_⟩; conv => whnf) | (refine ⟨_, [], [], [], op_pickT rfl (ev_ok rfl) (ev_ok rfl), nil_fk, nil_new, nil_upd, ?_⟩; conv => whnf) | (refine ⟨_, [], [], [], op_pickF rfl (ev_ok rfl) (ev_ok rfl), nil_fk, nil_new, nil_upd, ?_⟩; conv => whnf) | (rw [beq_self_eq_true]; conv => whnf) | (rw [bne_self_eq_false]; conv => whnf) | (rw [t1]; conv => whnf) | (rw [t2]; conv => whnf) | (rw [s8]; conv => whnf) | (rw [wu8 (n := x / 256) (by omega)]; conv => whnf)))
      refine ⟨tab_bound (by omega) (by kernel_rfl), ?_⟩
      conv => whnf
      (repeat (first | (refine step_w1 rfl rfl ?_; conv => whnf) | (refine step_w2 rfl rfl ?_; conv => whnf) | (refine step_i (by kernel_rfl) ?_; conv => whnf) | (refine And.intro (by first | decide | omega | (simp only [tiB5, tiB22, tiB3, tiB2, tiB9, tiB55, tiB49, tiB28, tiB4, tiB66, tiB68]; omega)) ?_; conv => whnf) | (refine ⟨[], _, [], [], (by assumption), nil_fk, nil_new, nil_upd, ?_⟩; conv => whnf) | (refine ⟨[], _, [_], [], (by assumption), nil_fk, one_new rfl, nil_upd, ?_⟩; conv => whnf) | (refine ⟨[_], _, [], [], (by assumption), one_fk rfl, nil_new, nil_upd, ?_⟩; conv => whnf) | (refine ⟨[_, _], _, [], [], (by assumption), two_fk rfl rfl, nil_new, nil_upd, ?_⟩; conv => whnf) | (refine ⟨[_], _, [_], [], (by assumption), one_fk rfl, one_new rfl, nil_upd, ?_⟩; conv => whnf) | (refine ⟨[_], _, [], [_], (by assumption), one_fk rfl, nil_new, one_upd (List.mem_cons_self ..) rfl rfl rfl, ?_⟩; conv => whnf) | (refine ⟨[_, _], _, [], [_, _], (by assumption), two_fk rfl rfl, nil_new, two_upd (List.mem_cons_self ..) rfl rfl rfl (List.mem_cons_of_mem _ (List.mem_cons_self ..)) rfl rfl rfl, ?_⟩; conv => whnf) | (refine ⟨[_, _], _, [_, _], [], (by assumption), two_fk rfl rfl, two_new rfl rfl, nil_upd, ?_⟩; conv => whnf) | (refine ⟨_, [], [], [], op_pickT rfl (ev_ok rfl) (ev_ok rfl), nil_fk, nil_new, nil_upd, ?_⟩; conv => whnf) | (refine ⟨_, [], [], [], op_pickF rfl (ev_ok rfl) (ev_ok rfl), nil_fk, nil_new, nil_upd, ?_⟩; conv => whnf) | (rw [beq_self_eq_true]; conv => whnf) | (rw [bne_self_eq_false]; conv => whnf)))
      rw [tab_val (j := x / 256) (by omega), show IntKind.i64.wrap (0 + 8) = 8 from rfl, fin (x / 256) 8 (by omega) ?_ (by omega) (by omega)]
      · exact Recast.refl _
      · rw [sz_shift (n := x) (k := 8) (by omega)]; rfl
      · kernel_rfl
    · have t2 : decide ((x : Int) ≥ 256) = false := by simp; omega
      (repeat (first | (refine step_w1 rfl rfl ?_; conv => whnf) | (refine step_w2 rfl rfl ?_; conv => whnf) | (refine step_i (by kernel_rfl) ?_; conv => whnf) | (refine And.intro (by first | decide | omega | (simp only [tiB5, tiB22, tiB3, tiB2, tiB9, tiB55, tiB49, tiB28, tiB4, tiB66, tiB68]; omega)) ?_; conv => whnf) | (refine ⟨[], _, [], [], (by assumption), nil_fk, nil_new, nil_upd, ?_⟩; conv => whnf) | (refine ⟨[], _, [_], [], (by assumption), nil_fk, one_new rfl, nil_upd, ?_⟩; conv => whnf) | (refine ⟨[_], _, [], [], (by assumption), one_fk rfl, nil_new, nil_upd, ?_⟩; conv => whnf) | (refine ⟨[_, _], _, [], [], (by assumption), two_fk rfl rfl, nil_new, nil_upd, ?_⟩; conv => whnf) | (refine ⟨[_], _, [_], [], (by assumption), one_fk rfl, one_new rfl, nil_upd, ?_⟩; conv => whnf) | (refine ⟨[_], _, [], [_], (by assumption), one_fk rfl, nil_new, one_upd (List.mem_cons_self ..) rfl rfl rfl, ?_⟩; conv => whnf) | (refine ⟨[_, _], _, [], [_, _], (by assumption), two_fk rfl rfl, nil_new, two_upd (List.mem_cons_self ..) rfl rfl rfl (List.mem_cons_of_mem _ (List.mem_cons_self ..)) rfl rfl rfl, ?_⟩; conv => whnf) | (refine ⟨[_, _], _, [_, _], [], (by assumption), two_fk rfl rfl, two_new rfl rfl, nil_upd, ?_⟩; conv => whnf) | (refine ⟨_, [], [], [], op_pickT rfl (ev_ok rfl) (ev_ok rfl), nil_fk, nil_new, nil_upd, ?_⟩; conv => whnf) | (refine ⟨_, [], [], [], op_pickF rfl (ev_ok rfl) (ev_ok rfl), nil_fk, nil_new, nil_upd, ?_⟩; conv => whnf) | (rw [beq_self_eq_true]; conv => whnf) | (rw [bne_self_eq_false]; conv => whnf) | (rw [t1]; conv => whnf) | (rw [t2]; conv => whnf) | (rw [s8]; conv => whnf) | (rw [wu8 (n := x) (by omega)]; conv => whnf)))
      refine ⟨tab_bound (by omega) (by kernel_rfl), ?_⟩
      conv => whnf
      (repeat (first | (refine step_w1 rfl rfl ?_; conv => whnf) | (refine step_w2 rfl rfl ?_; conv => whnf) | (refine step_i (by kernel_rfl) ?_; conv => whnf) | (refine And.intro (by first | decide | omega | (simp only [tiB5, tiB22, tiB3, tiB2, tiB9, tiB55, tiB49, tiB28, tiB4, tiB66, tiB68]; omega)) ?_; conv => whnf) | (refine ⟨[], _, [], [], (by assumption), nil_fk, nil_new, nil_upd, ?_⟩; conv => whnf) | (refine ⟨[], _, [_], [], (by assumption), nil_fk, one_new rfl, nil_upd, ?_⟩; conv => whnf) | (refine ⟨[_], _, [], [], (by assumption), one_fk rfl, nil_new, nil_upd, ?_⟩; conv => whnf) | (refine ⟨[_, _], _, [], [], (by assumption), two_fk rfl rfl, nil_new, nil_upd, ?_⟩; conv => whnf) | (refine ⟨[_], _, [_], [], (by assumption), one_fk rfl, one_new rfl, nil_upd, ?_⟩; conv => whnf) | (refine ⟨[_], _, [], [_], (by assumption), one_fk rfl, nil_new, one_upd (List.mem_cons_self ..) rfl rfl rfl, ?_⟩; conv => whnf) | (refine ⟨[_, _], _, [], [_, _], (by assumption), two_fk rfl rfl, nil_new, two_upd (List.mem_cons_self ..) rfl rfl rfl (List.mem_cons_of_mem _ (List.mem_cons_self ..)) rfl rfl rfl, ?_⟩; conv => whnf) | (refine ⟨[_, _], _, [_, _], [], (by assumption), two_fk rfl rfl, two_new rfl rfl, nil_upd, ?_⟩; conv => whnf) | (refine ⟨_, [], [], [], op_pickT rfl (ev_ok rfl) (ev_ok rfl), nil_fk, nil_new, nil_upd, ?_⟩; conv => whnf) | (refine ⟨_, [], [], [], op_pickF rfl (ev_ok rfl) (ev_ok rfl), nil_fk, nil_new, nil_upd, ?_⟩; conv => whnf) | (rw [beq_self_eq_true]; conv => whnf) | (rw [bne_self_eq_false]; conv => whnf)))
      rw [tab_val (j := x) (by omega), fin x 0 (by omega) (by omega) (by omega) (by omega)]
      · exact Recast.refl _
      · kernel_rfl

theorem c_LZ32 (x : Nat) (hx : x < 4294967296) :
    CallOK Tryd.prog 100 [.val (.int .u32 x)] [] (.val (.int .i64 ((32 - sz x : Nat)))) [] [] := by
  have k1 := c_Len32 x hx
  have := sz_le.2 (show x < 2 ^ 32 from hx)
  have e : IntKind.i64.wrap (32 - ((sz x : Nat) : Int)) = ((32 - sz x : Nat) : Int) := by rw [wrap_i64 (by omega) (by omega)]; omega
  refine callV (Z := []) tabOK mixedOK Tryd.func100 rfl (by kernel_rfl) rfl rfl (by kernel_rfl) rfl ?_
  intro W0 w0 ρ0 hE
  conv => whnf
  (repeat (first | (refine step_w1 rfl rfl ?_; conv => whnf) | (refine step_w2 rfl rfl ?_; conv => whnf) | (refine step_i (by kernel_rfl) ?_; conv => whnf) | (refine And.intro (by first | decide | omega | (simp only [tiB5, tiB22, tiB3, tiB2, tiB9, tiB55, tiB49, tiB28, tiB4, tiB66, tiB68]; omega)) ?_; conv => whnf) | (refine ⟨[], _, [], [], (by assumption), nil_fk, nil_new, nil_upd, ?_⟩; conv => whnf) | (refine ⟨[], _, [_], [], (by assumption), nil_fk, one_new rfl, nil_upd, ?_⟩; conv => whnf) | (refine ⟨[_], _, [], [], (by assumption), one_fk rfl, nil_new, nil_upd, ?_⟩; conv => whnf) | (refine ⟨[_, _], _, [], [], (by assumption), two_fk rfl rfl, nil_new, nil_upd, ?_⟩; conv => whnf) | (refine ⟨[_], _, [_], [], (by assumption), one_fk rfl, one_new rfl, nil_upd, ?_⟩; conv => whnf) | (refine ⟨[_], _, [], [_], (by assumption), one_fk rfl, nil_new, one_upd (List.mem_cons_self ..) rfl rfl rfl, ?_⟩; conv => whnf) | (refine ⟨[_, _], _, [], [_, _], (by assumption), two_fk rfl rfl, nil_new, two_upd (List.mem_cons_self ..) rfl rfl rfl (List.mem_cons_of_mem _ (List.mem_cons_self ..)) rfl rfl rfl, ?_⟩; conv => whnf) | (refine ⟨[_, _], _, [_, _], [], (by assumption), two_fk rfl rfl, two_new rfl rfl, nil_upd, ?_⟩; conv => whnf) | (refine ⟨_, [], [], [], op_pickT rfl (ev_ok rfl) (ev_ok rfl), nil_fk, nil_new, nil_upd, ?_⟩; conv => whnf) | (refine ⟨_, [], [], [], op_pickF rfl (ev_ok rfl) (ev_ok rfl), nil_fk, nil_new, nil_upd, ?_⟩; conv => whnf) | (rw [beq_self_eq_true]; conv => whnf) | (rw [bne_self_eq_false]; conv => whnf) | (rw [e]; conv => whnf)))
  exact Recast.refl _
end Go.Proofs.YtghdcjhlhcoijaaDoor

/- Contracts: nats.words. -/
namespace Go.Proofs.YtghdcjhlhcoijaaDoor
open Go.Sx
set_option linter.unusedSimpArgs false
set_option linter.unusedVariables false
set_option maxRecDepth 100000
set_option maxHeartbeats 4000000

/-- What lies behind the words that are handed back. -/
def wArr (n : Nat) : List Int := if n < 18446744073709551616 then [((n % 4294967296 : Nat) : Int), ((n / 4294967296 : Nat) : Int)] else wInts n

theorem wArr_len (n : Nat) : (wInts n).length ≤ (wArr n).length := by
  unfold wArr
  split
  · rename_i h
    exact len_le_of (k := 2) (by simpa using h)
  · exact Nat.le_refl _

theorem wArr_small {n : Nat} (h : n < 18446744073709551616) : wArr n = [((n % 4294967296 : Nat) : Int), ((n / 4294967296 : Nat) : Int)] := by rw [wArr, if_pos h]

theorem wArr_w32 (n : Nat) : W32 (wArr n) := by
  unfold wArr
  split
  · refine W32_of fun x hx => ?_
    simp only [List.mem_cons, List.not_mem_nil, or_false] at hx
    rcases hx with rfl | rfl <;> omega
  · exact wInts_w32 n

theorem cut_small {n : Nat} (h : n < 18446744073709551616) : cutN [((n % 4294967296 : Nat) : Int), ((n / 4294967296 : Nat) : Int)] 2 = (wInts n).length := by
  have e1 : ∀ m : Nat, m < 4294967296 → m ≠ 0 → wInts m = [(m : Int)] := fun m hm h0 => by
    rw [wInts_succ h0, Nat.mod_eq_of_lt hm, Nat.div_eq_of_lt hm, wInts_zero]
  by_cases h1 : n / 4294967296 = 0
  · by_cases h2 : n = 0
    · subst h2; rfl
    · rw [e1 n (by omega) h2]
      have : n % 4294967296 ≠ 0 := by omega
      simp [cutN, h1]; omega
  · have hn : n ≠ 0 := by omega
    rw [wInts_succ hn, e1 _ (by omega) h1]
    simp [cutN]; omega

theorem wInts_small {n : Nat} (h : n < 18446744073709551616) (hn : n ≠ 0) : wInts n = if n / 4294967296 = 0 then [((n % 4294967296 : Nat) : Int)] else [((n % 4294967296 : Nat) : Int), ((n / 4294967296 : Nat) : Int)] := by
  rw [wInts_succ hn]
  split
  · rename_i h1; rw [h1, wInts_zero]
  · rename_i h1
    rw [wInts_succ h1, Nat.div_eq_of_lt (a := n / 4294967296) (by omega), wInts_zero, Nat.mod_eq_of_lt (a := n / 4294967296) (by omega)]

theorem wArr_get {n i : Nat} (hi : i < (wInts n).length) : (wArr n).getD i 0 = (wInts n).getD i 0 := by
  unfold wArr
  split
  · rename_i h
    have hn : n ≠ 0 := fun h0 => by subst h0; simp [wInts_zero] at hi
    rw [wInts_small h hn] at hi ⊢
    split at hi
    · rename_i h1
      obtain rfl : i = 0 := by simpa using hi
      rw [if_pos h1]; rfl
    · rename_i h1
      rw [if_neg h1]
  · rfl

theorem wArr_val (n : Nat) : valI (wArr n) (wInts n).length = n := by
  rw [valI_congr (ys := wInts n) (fun i hi => wArr_get hi), wInts_val]

theorem c_words_s (n : Nat) (K : Nat) (h : n < 18446744073709551616) :
    CallOK Tryd.prog 74 [.nat n] [] (.slc K 1 0 (wInts n).length) [(K, ⟨22, true, .ints .u32 (wArr n)⟩)] [] := by
  rw [wArr_small h]
  refine callK (Z := []) tabOK mixedOK Tryd.func74 rfl (by kernel_rfl) (args := [.nat n]) (fk := []) (c := .slc 16 1 0 (wInts n).length) (new := [(16, ⟨22, true, .ints .u32 [((n % 4294967296 : Nat) : Int), ((n / 4294967296 : Nat) : Int)]⟩)]) (upd := []) ?_ rfl (fun _ => K) ?_ ?_
  · exact ⟨rfl, rfl, rfl, rfl, rfl, (fun _ _ h => by cases h), (fun k b h hw => by cases h), rfl, rfl, rfl, rfl⟩
  · exact ⟨(fun q q' b b' h h' hne => by cases h), (fun m m' h1 h2 hne => by simp [keysOf] at h1 h2; omega), (fun _ _ h1 h2 => by simp [keysOf] at h2)⟩
  intro W0 w0 ρ0 hE
  conv => whnf
  rw [big_eq, decide_eq_true h]
  have e1 : IntKind.u32.wrap (n : Int) = ((n % 4294967296 : Nat) : Int) := wu32m n
  have e2 : IntKind.u32.wrap (ishr .u64 (n : Int) 32) = ((n / 4294967296 : Nat) : Int) := by rw [ishr_hi, wu32 (by omega)]
  (repeat (first | (refine step_w1 rfl rfl ?_; conv => whnf) | (refine step_w2 rfl rfl ?_; conv => whnf) | (refine step_i (by kernel_rfl) ?_; conv => whnf) | (refine And.intro (by first | decide | omega | (simp only [tiB5, tiB22, tiB3, tiB2, tiB9, tiB55, tiB49, tiB28, tiB4, tiB66, tiB68]; omega)) ?_; conv => whnf) | (refine ⟨[], _, [], [], (by assumption), nil_fk, nil_new, nil_upd, ?_⟩; conv => whnf) | (refine ⟨[], _, [_], [], (by assumption), nil_fk, one_new rfl, nil_upd, ?_⟩; conv => whnf) | (refine ⟨[_], _, [], [], (by assumption), one_fk rfl, nil_new, nil_upd, ?_⟩; conv => whnf) | (refine ⟨[_, _], _, [], [], (by assumption), two_fk rfl rfl, nil_new, nil_upd, ?_⟩; conv => whnf) | (refine ⟨[_], _, [_], [], (by assumption), one_fk rfl, one_new rfl, nil_upd, ?_⟩; conv => whnf) | (refine ⟨[_], _, [], [_], (by assumption), one_fk rfl, nil_new, one_upd (List.mem_cons_self ..) rfl rfl rfl, ?_⟩; conv => whnf) | (refine ⟨[_, _], _, [], [_, _], (by assumption), two_fk rfl rfl, nil_new, two_upd (List.mem_cons_self ..) rfl rfl rfl (List.mem_cons_of_mem _ (List.mem_cons_self ..)) rfl rfl rfl, ?_⟩; conv => whnf) | (refine ⟨[_, _], _, [_, _], [], (by assumption), two_fk rfl rfl, two_new rfl rfl, nil_upd, ?_⟩; conv => whnf) | (refine ⟨_, [], [], [], op_pickT rfl (ev_ok rfl) (ev_ok rfl), nil_fk, nil_new, nil_upd, ?_⟩; conv => whnf) | (refine ⟨_, [], [], [], op_pickF rfl (ev_ok rfl) (ev_ok rfl), nil_fk, nil_new, nil_upd, ?_⟩; conv => whnf) | (rw [beq_self_eq_true]; conv => whnf) | (rw [bne_self_eq_false]; conv => whnf) | (rw [low_small h]; conv => whnf) | (rw [e1]; conv => whnf) | (rw [e2]; conv => whnf)))
  refine ⟨_, _, [], [], c_cut [((n % 4294967296 : Nat) : Int), ((n / 4294967296 : Nat) : Int)] 2 (Nat.le_refl 2) (by simp) 16 true, one_fk rfl, nil_new, nil_upd, ?_⟩
  rw [cut_small h]
  conv => whnf
  (repeat (first | (refine step_w1 rfl rfl ?_; conv => whnf) | (refine step_w2 rfl rfl ?_; conv => whnf) | (refine step_i (by kernel_rfl) ?_; conv => whnf) | (refine And.intro (by first | decide | omega | (simp only [tiB5, tiB22, tiB3, tiB2, tiB9, tiB55, tiB49, tiB28, tiB4, tiB66, tiB68]; omega)) ?_; conv => whnf) | (refine ⟨[], _, [], [], (by assumption), nil_fk, nil_new, nil_upd, ?_⟩; conv => whnf) | (refine ⟨[], _, [_], [], (by assumption), nil_fk, one_new rfl, nil_upd, ?_⟩; conv => whnf) | (refine ⟨[_], _, [], [], (by assumption), one_fk rfl, nil_new, nil_upd, ?_⟩; conv => whnf) | (refine ⟨[_, _], _, [], [], (by assumption), two_fk rfl rfl, nil_new, nil_upd, ?_⟩; conv => whnf) | (refine ⟨[_], _, [_], [], (by assumption), one_fk rfl, one_new rfl, nil_upd, ?_⟩; conv => whnf) | (refine ⟨[_], _, [], [_], (by assumption), one_fk rfl, nil_new, one_upd (List.mem_cons_self ..) rfl rfl rfl, ?_⟩; conv => whnf) | (refine ⟨[_, _], _, [], [_, _], (by assumption), two_fk rfl rfl, nil_new, two_upd (List.mem_cons_self ..) rfl rfl rfl (List.mem_cons_of_mem _ (List.mem_cons_self ..)) rfl rfl rfl, ?_⟩; conv => whnf) | (refine ⟨[_, _], _, [_, _], [], (by assumption), two_fk rfl rfl, two_new rfl rfl, nil_upd, ?_⟩; conv => whnf) | (refine ⟨_, [], [], [], op_pickT rfl (ev_ok rfl) (ev_ok rfl), nil_fk, nil_new, nil_upd, ?_⟩; conv => whnf) | (refine ⟨_, [], [], [], op_pickF rfl (ev_ok rfl) (ev_ok rfl), nil_fk, nil_new, nil_upd, ?_⟩; conv => whnf) | (rw [beq_self_eq_true]; conv => whnf) | (rw [bne_self_eq_false]; conv => whnf)))
  exact ⟨Recast.refl _, one_get rfl, (fun _ _ h => by cases h)⟩

theorem flat4 (l : List Nat) (i k : Nat) (hk : k < 4) : (l.flatMap wordBytes).getD (4 * i + k) 0 = if i < l.length then (wordBytes (l.getD i 0)).getD k 0 else 0 := by
  induction l generalizing i with
  | nil => simp
  | cons x l ih =>
    have h4 : (wordBytes x).length = 4 := rfl
    rw [List.flatMap_cons]
    cases i with
    | zero =>
      rw [List.getD_eq_getElem?_getD, List.getElem?_append_left (by omega), Nat.mul_zero, Nat.zero_add, if_pos (by simp), List.getD_cons_zero, List.getD_eq_getElem?_getD]
    | succ i =>
      have := ih i
      rw [List.getD_eq_getElem?_getD] at this
      rw [List.getD_eq_getElem?_getD, List.getElem?_append_right (by omega), h4, show 4 * (i + 1) + k - 4 = 4 * i + k from by omega, this, List.getD_cons_succ]
      simp

/-- The bytes of a great number. -/
theorem big_byte {n i k : Nat} (h : ¬ n < 18446744073709551616) (hi : i < (wInts n).length) (hk : k < 4) :
    (((big n).data.getD (4 * i + k) 0).toNat : Int) = (wInts n).getD i 0 / 256 ^ k % 256 := by
  have hbig : big n = ⟨((words n).flatMap wordBytes).toArray⟩ := by simp [big, h]
  have e1 : (wInts n).getD i 0 = (((words n).getD i 0 : Nat) : Int) := by
    simp only [wInts, List.getD_eq_getElem?_getD, List.getElem?_map]
    cases (words n)[i]? <;> rfl
  have hi' : i < (words n).length := by rw [← wInts_length]; exact hi
  rw [hbig, e1]
  show ((((words n).flatMap wordBytes).toArray.getD (4 * i + k) 0).toNat : Int) = _
  have e2 : ((words n).flatMap wordBytes).toArray.getD (4 * i + k) 0 = ((words n).flatMap wordBytes).getD (4 * i + k) 0 := by
    rw [Array.getD_eq_getD_getElem?, List.getD_eq_getElem?_getD]; simp
  rw [e2, flat4 _ _ _ hk, if_pos hi']
  have hc : k = 0 ∨ k = 1 ∨ k = 2 ∨ k = 3 := by omega
  rcases hc with rfl | rfl | rfl | rfl <;> simp [wordBytes, UInt8.toNat_ofNat'] <;> omega
theorem big_size {n : Nat} (h : ¬ n < 18446744073709551616) : (big n).size = 4 * (wInts n).length := by
  have hbig : big n = ⟨((words n).flatMap wordBytes).toArray⟩ := by simp [big, h]
  rw [hbig, wInts_length]
  show ((words n).flatMap wordBytes).toArray.size = _
  rw [List.size_toArray]
  generalize words n = l
  induction l with
  | nil => rfl
  | cons x l ih => rw [List.flatMap_cons, List.length_append, ih, List.length_cons, show (wordBytes x).length = 4 from rfl]; omega

theorem or_step {x : Int} {k : Nat} (hx : 0 ≤ x ∧ x < 4294967296) (hk : k < 4) :
    ior .u32 (x % 256 ^ k) (ishl .u32 (IntKind.u32.wrap (x / 256 ^ k % 256)) ((8 * k : Nat) : Int)) = x % 256 ^ (k + 1) := by
  obtain ⟨n, rfl⟩ := Int.eq_ofNat_of_zero_le hx.1
  have key : ∀ (p : Nat) (s : Nat), s ≤ 24 → p = 2 ^ s → ior .u32 ((n % p : Nat) : Int) (ishl .u32 (((n / p % 256 : Nat)) : Int) (s : Int)) = ((n % (p * 256) : Nat) : Int) := by
    intro p s hs hp
    have hpos : 0 < p := by rw [hp]; exact Nat.two_pow_pos s
    have hple : p ≤ 16777216 := by rw [hp]; exact Nat.le_trans (Nat.pow_le_pow_right (by decide) hs) (by decide)
    have h1 : n % p < p := Nat.mod_lt _ hpos
    have h2 : n / p % 256 < 256 := Nat.mod_lt _ (by decide)
    have e : ishl .u32 (((n / p % 256 : Nat)) : Int) (s : Int) = ((p * (n / p % 256) : Nat) : Int) := by
      have hmin : min (s : Int).toNat IntKind.u32.bits = s := by simp [IntKind.bits]; omega
      rw [ishl, hmin]
      have : ((n / p % 256 : Nat) : Int) * 2 ^ s = ((p * (n / p % 256) : Nat) : Int) := by
        rw [Int.natCast_mul, hp, Int.natCast_pow, Int.mul_comm]; rfl
      rw [this]
      refine wu32 ?_
      have := Nat.mul_le_mul hple (show n / p % 256 ≤ 255 by omega)
      omega
    have hlt : p * (n / p % 256) < 4294967296 := by
      have := Nat.mul_le_mul hple (show n / p % 256 ≤ 255 by omega)
      omega
    rw [e, ior_u32 (by omega) hlt, Nat.or_comm, hp, ← Nat.two_pow_add_eq_or_of_lt (by rw [← hp]; exact h1), ← hp, Nat.mod_mul, Nat.add_comm]
  have hp : (256 : Int) ^ k = ((256 ^ k : Nat) : Int) := by rw [Int.natCast_pow]; rfl
  have hp' : (256 : Int) ^ (k + 1) = ((256 ^ k * 256 : Nat) : Int) := by rw [← Nat.pow_succ, Int.natCast_pow]; rfl
  have := key (256 ^ k) (8 * k) (by omega) (by rw [Nat.pow_mul])
  rw [hp, hp']
  simp only [← Int.natCast_emod, ← Int.natCast_ediv]
  rw [show (((n / 256 ^ k : Nat) : Int) % 256) = ((n / 256 ^ k % 256 : Nat) : Int) from by rw [Int.natCast_emod]; rfl, wu32 (by omega)]
  exact this

theorem c_words_b (n : Nat) (K : Nat) (h : ¬ n < 18446744073709551616) (hl : (wInts n).length < 1099511627776) :
    CallOK Tryd.prog 74 [.nat n] [] (.slc K 1 0 (wInts n).length) [(K, ⟨22, true, .ints .u32 (wArr n)⟩)] [] := by
  rw [show wArr n = wInts n from if_neg h]
  refine callK (Z := []) tabOK mixedOK Tryd.func74 rfl (by kernel_rfl) (args := [.nat n]) (fk := []) (c := .slc 22 1 0 (wInts n).length) (new := [(22, ⟨22, true, .ints .u32 (wInts n)⟩)]) (upd := []) ?_ rfl (fun _ => K) ?_ ?_
  · exact ⟨rfl, rfl, rfl, rfl, rfl, (fun _ _ h => by cases h), (fun k b h hw => by cases h), rfl, rfl, rfl, rfl⟩
  · exact ⟨(fun q q' b b' h h' hne => by cases h), (fun m m' h1 h2 hne => by simp [keysOf] at h1 h2; omega), (fun _ _ h1 h2 => by simp [keysOf] at h2)⟩
  intro W0 w0 ρ0 hE
  conv => whnf
  rw [big_eq, decide_eq_false h]
  have hs := big_size h
  have eL : IntKind.i64.wrap (((big n).size : Int).tdiv 4) = ((wInts n).length : Int) := by
    rw [hs, show ((4 * (wInts n).length : Nat) : Int) = 4 * ((wInts n).length : Int) from by omega, Int.mul_tdiv_cancel_left _ (by decide), wi64 (by omega)]
  have hb := fun i k hi hk => big_byte (n := n) (i := i) (k := k) h hi hk
  have hw32 := wInts_w32 n
  generalize hw : wInts n = ws at *
  (repeat (first | (refine step_w1 rfl rfl ?_; conv => whnf) | (refine step_w2 rfl rfl ?_; conv => whnf) | (refine step_i (by kernel_rfl) ?_; conv => whnf) | (refine And.intro (by first | decide | omega | (simp only [tiB5, tiB22, tiB3, tiB2, tiB9, tiB55, tiB49, tiB28, tiB4, tiB66, tiB68]; omega)) ?_; conv => whnf) | (refine ⟨[], _, [], [], (by assumption), nil_fk, nil_new, nil_upd, ?_⟩; conv => whnf) | (refine ⟨[], _, [_], [], (by assumption), nil_fk, one_new rfl, nil_upd, ?_⟩; conv => whnf) | (refine ⟨[_], _, [], [], (by assumption), one_fk rfl, nil_new, nil_upd, ?_⟩; conv => whnf) | (refine ⟨[_, _], _, [], [], (by assumption), two_fk rfl rfl, nil_new, nil_upd, ?_⟩; conv => whnf) | (refine ⟨[_], _, [_], [], (by assumption), one_fk rfl, one_new rfl, nil_upd, ?_⟩; conv => whnf) | (refine ⟨[_], _, [], [_], (by assumption), one_fk rfl, nil_new, one_upd (List.mem_cons_self ..) rfl rfl rfl, ?_⟩; conv => whnf) | (refine ⟨[_, _], _, [], [_, _], (by assumption), two_fk rfl rfl, nil_new, two_upd (List.mem_cons_self ..) rfl rfl rfl (List.mem_cons_of_mem _ (List.mem_cons_self ..)) rfl rfl rfl, ?_⟩; conv => whnf) | (refine ⟨[_, _], _, [_, _], [], (by assumption), two_fk rfl rfl, two_new rfl rfl, nil_upd, ?_⟩; conv => whnf) | (refine ⟨_, [], [], [], op_pickT rfl (ev_ok rfl) (ev_ok rfl), nil_fk, nil_new, nil_upd, ?_⟩; conv => whnf) | (refine ⟨_, [], [], [], op_pickF rfl (ev_ok rfl) (ev_ok rfl), nil_fk, nil_new, nil_upd, ?_⟩; conv => whnf) | (rw [beq_self_eq_true]; conv => whnf) | (rw [bne_self_eq_false]; conv => whnf) | (rw [eL]; conv => whnf)))
  refine SW_loopN hE (fun k => k) [1, 3, 24, 25] [1, 22] (fun m fr hp => ∃ i, m = ws.length - i ∧ i ≤ ws.length ∧ fr = [(1, .ptr 1 0 0 0), (3, .slc 22 1 0 ws.length), (24, .val (.int .i64 ws.length)), (25, .val (.int .i64 (i : Nat)))] ∧ hp = [(1, ⟨45, true, .one [.nat n]⟩), (22, ⟨22, true, .ints .u32 (ws.take i ++ List.replicate (ws.length - i) 0)⟩)]) ws.length ?_ ?_ ?_
  · kernel_rfl
  · exact ⟨0, rfl, by omega, rfl, rfl⟩
  rintro m _ _ ⟨i, rfl, hi, rfl, rfl⟩
  conv => whnf
  refine ⟨fun h => ?_, fun h => ?_⟩
  · have hi' : i < ws.length := by have := of_decide_eq_true h; omega
    conv => whnf
    (repeat (first | (refine step_w1 rfl rfl ?_; conv => whnf) | (refine step_w2 rfl rfl ?_; conv => whnf) | (refine step_i (by kernel_rfl) ?_; conv => whnf) | (refine And.intro (by first | decide | omega | (simp only [tiB5, tiB22, tiB3, tiB2, tiB9, tiB55, tiB49, tiB28, tiB4, tiB66, tiB68]; omega)) ?_; conv => whnf) | (refine ⟨[], _, [], [], (by assumption), nil_fk, nil_new, nil_upd, ?_⟩; conv => whnf) | (refine ⟨[], _, [_], [], (by assumption), nil_fk, one_new rfl, nil_upd, ?_⟩; conv => whnf) | (refine ⟨[_], _, [], [], (by assumption), one_fk rfl, nil_new, nil_upd, ?_⟩; conv => whnf) | (refine ⟨[_, _], _, [], [], (by assumption), two_fk rfl rfl, nil_new, nil_upd, ?_⟩; conv => whnf) | (refine ⟨[_], _, [_], [], (by assumption), one_fk rfl, one_new rfl, nil_upd, ?_⟩; conv => whnf) | (refine ⟨[_], _, [], [_], (by assumption), one_fk rfl, nil_new, one_upd (List.mem_cons_self ..) rfl rfl rfl, ?_⟩; conv => whnf) | (refine ⟨[_, _], _, [], [_, _], (by assumption), two_fk rfl rfl, nil_new, two_upd (List.mem_cons_self ..) rfl rfl rfl (List.mem_cons_of_mem _ (List.mem_cons_self ..)) rfl rfl rfl, ?_⟩; conv => whnf) | (refine ⟨[_, _], _, [_, _], [], (by assumption), two_fk rfl rfl, two_new rfl rfl, nil_upd, ?_⟩; conv => whnf) | (refine ⟨_, [], [], [], op_pickT rfl (ev_ok rfl) (ev_ok rfl), nil_fk, nil_new, nil_upd, ?_⟩; conv => whnf) | (refine ⟨_, [], [], [], op_pickF rfl (ev_ok rfl) (ev_ok rfl), nil_fk, nil_new, nil_upd, ?_⟩; conv => whnf) | (rw [beq_self_eq_true]; conv => whnf) | (rw [bne_self_eq_false]; conv => whnf)))
    have hin : ws.take i ++ List.replicate (ws.length - i) (0 : Int) = ws.take i ++ (ws.getD i 0 % 256 ^ 0) :: List.replicate (ws.length - (i + 1)) 0 := by
      rw [show ws.length - i = (ws.length - (i + 1)) + 1 from by omega, List.replicate_succ]
      congr 2
      rw [Int.pow_zero]; omega
    rw [hin]
    have hlt : (ws.take i).length = i := by rw [List.length_take]; omega
    have hget : ∀ (a : Int) r, (ws.take i ++ a :: r).getD i 0 = a := fun a r => by
      rw [getD_append, hlt, if_neg (by omega), Nat.sub_self]; rfl
    have hset : ∀ (a v : Int) r, (ws.take i ++ a :: r).set i v = ws.take i ++ v :: r := fun a v r => by
      rw [List.set_append_right _ _ (by omega), hlt, Nat.sub_self]; rfl
    have hx := hw32 i
    refine SW_loopN hE (fun k => k) [1, 3, 4, 24, 25, 28] [1, 22] (fun m fr hp => ∃ k, m = 4 - k ∧ k ≤ 4 ∧ fr = [(1, .ptr 1 0 0 0), (3, .slc 22 1 0 ws.length), (4, .val (.int .i64 (i : Nat))), (24, .val (.int .i64 ws.length)), (25, .val (.int .i64 (i : Nat))), (28, .val (.int .i64 (k : Nat)))] ∧ hp = [(1, ⟨45, true, .one [.nat n]⟩), (22, ⟨22, true, .ints .u32 (ws.take i ++ (ws.getD i 0 % 256 ^ k) :: List.replicate (ws.length - (i + 1)) 0)⟩)]) 4 ?_ ?_ ?_
    · kernel_rfl
    · exact ⟨0, rfl, by omega, rfl, rfl⟩
    rintro m _ _ ⟨k, rfl, hk, rfl, rfl⟩
    conv => whnf
    refine ⟨fun h => ?_, fun h => ?_⟩
    · have hk' : k < 4 := by have := of_decide_eq_true h; omega
      conv => whnf
      have f1 : IntKind.i64.wrap (4 * (i : Int)) = ((4 * i : Nat) : Int) := by rw [wrap_i64 (by omega) (by omega)]; omega
      have f2 : IntKind.i64.wrap (((4 * i : Nat) : Int) + (k : Int)) = ((4 * i + k : Nat) : Int) := by rw [wrap_i64 (by omega) (by omega)]; omega
      have f3 : IntKind.i64.wrap (8 * (k : Int)) = ((8 * k : Nat) : Int) := by rw [wrap_i64 (by omega) (by omega)]; omega
      have f4 : IntKind.i64.wrap ((k : Int) + 1) = ((k + 1 : Nat) : Int) := by rw [wrap_i64 (by omega) (by omega)]; omega
      have hll : (ws.take i ++ (ws.getD i 0 % 256 ^ k) :: List.replicate (ws.length - (i + 1)) 0).length = ws.length := by
        simp only [List.length_append, List.length_cons, List.length_replicate, hlt]; omega
      have hoff : 0 + (i : Int).toNat < (ws.take i ++ (ws.getD i 0 % 256 ^ k) :: List.replicate (ws.length - (i + 1)) 0).length := by rw [hll]; omega
      have f5 : (((big n).data.getD ((4 * i + k : Nat) : Int).toNat 0).toNat : Int) = ws.getD i 0 / 256 ^ k % 256 := hb i k hi' hk'
      have f6 := or_step hx hk'
      (repeat (first | (refine step_w1 rfl rfl ?_; conv => whnf) | (refine step_w2 rfl rfl ?_; conv => whnf) | (refine step_i (by kernel_rfl) ?_; conv => whnf) | (refine And.intro (by first | decide | omega | (simp only [tiB5, tiB22, tiB3, tiB2, tiB9, tiB55, tiB49, tiB28, tiB4, tiB66, tiB68]; omega)) ?_; conv => whnf) | (refine ⟨[], _, [], [], (by assumption), nil_fk, nil_new, nil_upd, ?_⟩; conv => whnf) | (refine ⟨[], _, [_], [], (by assumption), nil_fk, one_new rfl, nil_upd, ?_⟩; conv => whnf) | (refine ⟨[_], _, [], [], (by assumption), one_fk rfl, nil_new, nil_upd, ?_⟩; conv => whnf) | (refine ⟨[_, _], _, [], [], (by assumption), two_fk rfl rfl, nil_new, nil_upd, ?_⟩; conv => whnf) | (refine ⟨[_], _, [_], [], (by assumption), one_fk rfl, one_new rfl, nil_upd, ?_⟩; conv => whnf) | (refine ⟨[_], _, [], [_], (by assumption), one_fk rfl, nil_new, one_upd (List.mem_cons_self ..) rfl rfl rfl, ?_⟩; conv => whnf) | (refine ⟨[_, _], _, [], [_, _], (by assumption), two_fk rfl rfl, nil_new, two_upd (List.mem_cons_self ..) rfl rfl rfl (List.mem_cons_of_mem _ (List.mem_cons_self ..)) rfl rfl rfl, ?_⟩; conv => whnf) | (refine ⟨[_, _], _, [_, _], [], (by assumption), two_fk rfl rfl, two_new rfl rfl, nil_upd, ?_⟩; conv => whnf) | (refine ⟨_, [], [], [], op_pickT rfl (ev_ok rfl) (ev_ok rfl), nil_fk, nil_new, nil_upd, ?_⟩; conv => whnf) | (refine ⟨_, [], [], [], op_pickF rfl (ev_ok rfl) (ev_ok rfl), nil_fk, nil_new, nil_upd, ?_⟩; conv => whnf) | (rw [beq_self_eq_true]; conv => whnf) | (rw [bne_self_eq_false]; conv => whnf) | (rw [show 0 + (i : Int).toNat = i from by omega]; conv => whnf) | (rw [hget]; conv => whnf) | (rw [f1]; conv => whnf) | (rw [f2]; conv => whnf) | (rw [f3]; conv => whnf)))
      rw [hset, f5, f6, f4]
      exact ⟨4 - (k + 1), fun k => k, [1, 3, 4, 24, 25, 28], [1, 22], by omega, by kernel_rfl, k + 1, rfl, by omega, rfl, rfl⟩
    · have hk' : k = 4 := by have := of_decide_eq_false h; omega
      subst hk'
      have f4 : IntKind.i64.wrap ((i : Int) + 1) = ((i + 1 : Nat) : Int) := by rw [wrap_i64 (by omega) (by omega)]; omega
      have hfull : ws.take i ++ (ws.getD i 0 % 256 ^ 4) :: List.replicate (ws.length - (i + 1)) 0 = ws.take (i + 1) ++ List.replicate (ws.length - (i + 1)) 0 := by
        rw [show (256 : Int) ^ 4 = 4294967296 from rfl, Int.emod_eq_of_lt hx.1 hx.2, List.take_add_one, List.append_assoc]
        have : ws[i]? = some (ws.getD i 0) := by rw [List.getD_eq_getElem?_getD, List.getElem?_eq_getElem hi']; rfl
        rw [this]; rfl
      rw [hfull]
      conv => whnf
      (repeat (first | (refine step_w1 rfl rfl ?_; conv => whnf) | (refine step_w2 rfl rfl ?_; conv => whnf) | (refine step_i (by kernel_rfl) ?_; conv => whnf) | (refine And.intro (by first | decide | omega | (simp only [tiB5, tiB22, tiB3, tiB2, tiB9, tiB55, tiB49, tiB28, tiB4, tiB66, tiB68]; omega)) ?_; conv => whnf) | (refine ⟨[], _, [], [], (by assumption), nil_fk, nil_new, nil_upd, ?_⟩; conv => whnf) | (refine ⟨[], _, [_], [], (by assumption), nil_fk, one_new rfl, nil_upd, ?_⟩; conv => whnf) | (refine ⟨[_], _, [], [], (by assumption), one_fk rfl, nil_new, nil_upd, ?_⟩; conv => whnf) | (refine ⟨[_, _], _, [], [], (by assumption), two_fk rfl rfl, nil_new, nil_upd, ?_⟩; conv => whnf) | (refine ⟨[_], _, [_], [], (by assumption), one_fk rfl, one_new rfl, nil_upd, ?_⟩; conv => whnf) | (refine ⟨[_], _, [], [_], (by assumption), one_fk rfl, nil_new, one_upd (List.mem_cons_self ..) rfl rfl rfl, ?_⟩; conv => whnf) | (refine ⟨[_, _], _, [], [_, _], (by assumption), two_fk rfl rfl, nil_new, two_upd (List.mem_cons_self ..) rfl rfl rfl (List.mem_cons_of_mem _ (List.mem_cons_self ..)) rfl rfl rfl, ?_⟩; conv => whnf) | (refine ⟨[_, _], _, [_, _], [], (by assumption), two_fk rfl rfl, two_new rfl rfl, nil_upd, ?_⟩; conv => whnf) | (refine ⟨_, [], [], [], op_pickT rfl (ev_ok rfl) (ev_ok rfl), nil_fk, nil_new, nil_upd, ?_⟩; conv => whnf) | (refine ⟨_, [], [], [], op_pickF rfl (ev_ok rfl) (ev_ok rfl), nil_fk, nil_new, nil_upd, ?_⟩; conv => whnf) | (rw [beq_self_eq_true]; conv => whnf) | (rw [bne_self_eq_false]; conv => whnf) | (rw [f4]; conv => whnf)))
      exact ⟨ws.length - (i + 1), fun k => k, [1, 3, 24, 25], [1, 22], by omega, by kernel_rfl, i + 1, rfl, by omega, rfl, rfl⟩
  · have hi' : i = ws.length := by have := of_decide_eq_false h; omega
    subst hi'
    conv => whnf
    rw [List.take_length, Nat.sub_self, List.replicate_zero, List.append_nil]
    exact ⟨Recast.refl _, one_get rfl, (fun _ _ h => by cases h)⟩

theorem c_words (n : Nat) (K : Nat) (hl : (wInts n).length < 1099511627776) :
    CallOK Tryd.prog 74 [.nat n] [] (.slc K 1 0 (wInts n).length) [(K, ⟨22, true, .ints .u32 (wArr n)⟩)] [] := by
  by_cases h : n < 18446744073709551616
  · exact c_words_s n K h
  · exact c_words_b n K h hl
end Go.Proofs.YtghdcjhlhcoijaaDoor

/- Contracts: nats.cmp, Cmp. -/
namespace Go.Proofs.YtghdcjhlhcoijaaDoor
open Go.Sx
set_option linter.unusedSimpArgs false
set_option linter.unusedVariables false
set_option maxRecDepth 100000
set_option maxHeartbeats 4000000

theorem c_sign (z : Int) : CallOK Tryd.prog 104 [.val (.int .i64 z)] [] (.val (.int .i64 z.sign)) [] [] := by
  refine callV (Z := []) tabOK mixedOK Tryd.func104 rfl (by kernel_rfl) rfl rfl (by kernel_rfl) rfl ?_
  intro W0 w0 ρ0 hE
  conv => whnf
  (repeat (first | (refine step_w1 rfl rfl ?_; conv => whnf) | (refine step_w2 rfl rfl ?_; conv => whnf) | (refine step_i (by kernel_rfl) ?_; conv => whnf) | (refine And.intro (by first | decide | omega | (simp only [tiB5, tiB22, tiB3, tiB2, tiB9, tiB55, tiB49, tiB28, tiB4, tiB66, tiB68]; omega)) ?_; conv => whnf) | (refine ⟨[], _, [], [], (by assumption), nil_fk, nil_new, nil_upd, ?_⟩; conv => whnf) | (refine ⟨[], _, [_], [], (by assumption), nil_fk, one_new rfl, nil_upd, ?_⟩; conv => whnf) | (refine ⟨[_], _, [], [], (by assumption), one_fk rfl, nil_new, nil_upd, ?_⟩; conv => whnf) | (refine ⟨[_, _], _, [], [], (by assumption), two_fk rfl rfl, nil_new, nil_upd, ?_⟩; conv => whnf) | (refine ⟨[_], _, [_], [], (by assumption), one_fk rfl, one_new rfl, nil_upd, ?_⟩; conv => whnf) | (refine ⟨[_], _, [], [_], (by assumption), one_fk rfl, nil_new, one_upd (List.mem_cons_self ..) rfl rfl rfl, ?_⟩; conv => whnf) | (refine ⟨[_, _], _, [], [_, _], (by assumption), two_fk rfl rfl, nil_new, two_upd (List.mem_cons_self ..) rfl rfl rfl (List.mem_cons_of_mem _ (List.mem_cons_self ..)) rfl rfl rfl, ?_⟩; conv => whnf) | (refine ⟨[_, _], _, [_, _], [], (by assumption), two_fk rfl rfl, two_new rfl rfl, nil_upd, ?_⟩; conv => whnf) | (refine ⟨_, [], [], [], op_pickT rfl (ev_ok rfl) (ev_ok rfl), nil_fk, nil_new, nil_upd, ?_⟩; conv => whnf) | (refine ⟨_, [], [], [], op_pickF rfl (ev_ok rfl) (ev_ok rfl), nil_fk, nil_new, nil_upd, ?_⟩; conv => whnf) | (rw [beq_self_eq_true]; conv => whnf) | (rw [bne_self_eq_false]; conv => whnf)))
  have e : (if (if z < 1 then z else 1) > -1 then (if z < 1 then z else 1) else -1) = z.sign := by
    rcases Int.lt_trichotomy z 0 with h | h | h
    · rw [Int.sign_eq_neg_one_of_neg h]; split <;> (try split at *) <;> omega
    · subst h; rfl
    · rw [Int.sign_eq_one_of_pos h]; split <;> (try split at *) <;> omega
  rw [e]
  exact Recast.refl _

theorem valI_diff {xs ys : List Int} {j : Nat} : ∀ {n : Nat}, j ≤ n → (∀ i, j ≤ i → i < n → xs.getD i 0 = ys.getD i 0) → valI xs n - valI ys n = valI xs j - valI ys j
  | 0, h, _ => by obtain rfl : j = 0 := by omega
                  rfl
  | n + 1, h, he => by
    by_cases hj : j = n + 1
    · rw [hj]
    · have := valI_diff (n := n) (by omega) (fun i h1 h2 => he i h1 (by omega))
      rw [valI, valI, he n (by omega) (by omega)]; omega

theorem valI_lt_of {xs ys : List Int} (hx : W32 xs) (hy : W32 ys) {j : Nat} (h : xs.getD j 0 < ys.getD j 0) : valI xs (j + 1) < valI ys (j + 1) := by
  have h1 := valI_lt hx j
  have h2 := valI_nonneg hy j
  have h3 : (xs.getD j 0 + 1) * 4294967296 ^ j ≤ ys.getD j 0 * 4294967296 ^ j := Int.mul_le_mul_of_nonneg_right (by omega) (Int.le_of_lt (powW_pos j))
  rw [Int.add_mul, Int.one_mul] at h3
  rw [valI, valI]; omega

theorem valI_lt_len {xs ys : List Int} (hx : W32 xs) (hy : W32 ys) {n m : Nat} (h : n < m) (ht : ys.getD (m - 1) 0 ≠ 0) : valI xs n < valI ys m := by
  obtain ⟨j, rfl⟩ : ∃ j, m = j + 1 := ⟨m - 1, by omega⟩
  have h1 := valI_lt hx n
  have h2 := valI_ge hy (k := j) (by simpa using ht)
  have h3 : (4294967296 : Int) ^ n ≤ 4294967296 ^ j := by
    have : (4294967296 : Nat) ^ n ≤ 4294967296 ^ j := Nat.pow_le_pow_right (by decide) (by omega)
    rw [← natPowW, ← natPowW]; exact Int.ofNat_le.2 this
  omega

/-- Words from the top on. -/
theorem c_cmp (xs ys : List Int) (n m : Nat) (hn : n ≤ xs.length) (hm : m ≤ ys.length) (hxl : xs.length < 4611686018427387904) (hyl : ys.length < 4611686018427387904) (hx : W32 xs) (hy : W32 ys)
    (hxt : n = 0 ∨ xs.getD (n - 1) 0 ≠ 0) (hyt : m = 0 ∨ ys.getD (m - 1) 0 ≠ 0) (K L : Nat) (wr wr' : Bool) :
    CallOK Tryd.prog 98 [.slc K 1 0 n, .slc L 1 0 m] [(K, ⟨22, wr, .ints .u32 xs⟩), (L, ⟨22, wr', .ints .u32 ys⟩)] (.val (.int .i64 (valI xs n - valI ys m).sign)) [] [] := by
  refine CallOK.anyWr ?_
  refine callK (Z := []) tabOK mixedOK Tryd.func98 rfl (by kernel_rfl) (args := [.slc 0 1 0 n, .slc 1 1 0 m]) (fk := [(0, ⟨22, false, .ints .u32 xs⟩), (1, ⟨22, false, .ints .u32 ys⟩)]) (c := .val (.int .i64 (valI xs n - valI ys m).sign)) (new := []) (upd := []) (ShapeOK.of rfl rfl rfl rfl rfl rfl rfl rfl rfl rfl rfl) rfl (renBy [(0, K), (1, L)]) (NamesOK.ro rfl) ?_
  intro W0 w0 ρ0 hE
  conv => whnf
  by_cases hnm : n = m
  · subst hnm
    have t1 : (((n : Nat) : Int) != (n : Nat)) = false := by simp
    have e0 : IntKind.i64.wrap ((n : Int) - 1) = (n : Int) - 1 := wrap_i64 (by omega) (by omega)
    (repeat (first | (refine step_w1 rfl rfl ?_; conv => whnf) | (refine step_w2 rfl rfl ?_; conv => whnf) | (refine step_i (by kernel_rfl) ?_; conv => whnf) | (refine And.intro (by first | decide | omega | (simp only [tiB5, tiB22, tiB3, tiB2, tiB9, tiB55, tiB49, tiB28, tiB4, tiB66, tiB68]; omega)) ?_; conv => whnf) | (refine ⟨[], _, [], [], (by assumption), nil_fk, nil_new, nil_upd, ?_⟩; conv => whnf) | (refine ⟨[], _, [_], [], (by assumption), nil_fk, one_new rfl, nil_upd, ?_⟩; conv => whnf) | (refine ⟨[_], _, [], [], (by assumption), one_fk rfl, nil_new, nil_upd, ?_⟩; conv => whnf) | (refine ⟨[_, _], _, [], [], (by assumption), two_fk rfl rfl, nil_new, nil_upd, ?_⟩; conv => whnf) | (refine ⟨[_], _, [_], [], (by assumption), one_fk rfl, one_new rfl, nil_upd, ?_⟩; conv => whnf) | (refine ⟨[_], _, [], [_], (by assumption), one_fk rfl, nil_new, one_upd (List.mem_cons_self ..) rfl rfl rfl, ?_⟩; conv => whnf) | (refine ⟨[_, _], _, [], [_, _], (by assumption), two_fk rfl rfl, nil_new, two_upd (List.mem_cons_self ..) rfl rfl rfl (List.mem_cons_of_mem _ (List.mem_cons_self ..)) rfl rfl rfl, ?_⟩; conv => whnf) | (refine ⟨[_, _], _, [_, _], [], (by assumption), two_fk rfl rfl, two_new rfl rfl, nil_upd, ?_⟩; conv => whnf) | (refine ⟨_, [], [], [], op_pickT rfl (ev_ok rfl) (ev_ok rfl), nil_fk, nil_new, nil_upd, ?_⟩; conv => whnf) | (refine ⟨_, [], [], [], op_pickF rfl (ev_ok rfl) (ev_ok rfl), nil_fk, nil_new, nil_upd, ?_⟩; conv => whnf) | (rw [beq_self_eq_true]; conv => whnf) | (rw [bne_self_eq_false]; conv => whnf) | (rw [t1]; conv => whnf) | (rw [e0]; conv => whnf)))
    refine SW_loopN hE (fun k => k) [0, 1, 5] [0, 1] (fun m fr hp => m ≤ n ∧ (∀ i, m ≤ i → i < n → xs.getD i 0 = ys.getD i 0) ∧ fr = [(0, .slc 0 1 0 n), (1, .slc 1 1 0 n), (5, .val (.int .i64 ((m : Int) - 1)))] ∧ hp = [(0, ⟨22, false, .ints .u32 xs⟩), (1, ⟨22, false, .ints .u32 ys⟩)]) n ?_ ?_ ?_
    · kernel_rfl
    · exact ⟨by omega, (fun i h1 h2 => by omega), rfl, rfl⟩
    rintro j _ _ ⟨hj, heq, rfl, rfl⟩
    rw [valI_diff (j := j) hj heq]
    by_cases h0 : j = 0
    · subst h0
      have t2 : decide (((0 : Nat) : Int) - 1 ≥ 0) = false := rfl
      conv => whnf
      (repeat (first | (refine step_w1 rfl rfl ?_; conv => whnf) | (refine step_w2 rfl rfl ?_; conv => whnf) | (refine step_i (by kernel_rfl) ?_; conv => whnf) | (refine And.intro (by first | decide | omega | (simp only [tiB5, tiB22, tiB3, tiB2, tiB9, tiB55, tiB49, tiB28, tiB4, tiB66, tiB68]; omega)) ?_; conv => whnf) | (refine ⟨[], _, [], [], (by assumption), nil_fk, nil_new, nil_upd, ?_⟩; conv => whnf) | (refine ⟨[], _, [_], [], (by assumption), nil_fk, one_new rfl, nil_upd, ?_⟩; conv => whnf) | (refine ⟨[_], _, [], [], (by assumption), one_fk rfl, nil_new, nil_upd, ?_⟩; conv => whnf) | (refine ⟨[_, _], _, [], [], (by assumption), two_fk rfl rfl, nil_new, nil_upd, ?_⟩; conv => whnf) | (refine ⟨[_], _, [_], [], (by assumption), one_fk rfl, one_new rfl, nil_upd, ?_⟩; conv => whnf) | (refine ⟨[_], _, [], [_], (by assumption), one_fk rfl, nil_new, one_upd (List.mem_cons_self ..) rfl rfl rfl, ?_⟩; conv => whnf) | (refine ⟨[_, _], _, [], [_, _], (by assumption), two_fk rfl rfl, nil_new, two_upd (List.mem_cons_self ..) rfl rfl rfl (List.mem_cons_of_mem _ (List.mem_cons_self ..)) rfl rfl rfl, ?_⟩; conv => whnf) | (refine ⟨[_, _], _, [_, _], [], (by assumption), two_fk rfl rfl, two_new rfl rfl, nil_upd, ?_⟩; conv => whnf) | (refine ⟨_, [], [], [], op_pickT rfl (ev_ok rfl) (ev_ok rfl), nil_fk, nil_new, nil_upd, ?_⟩; conv => whnf) | (refine ⟨_, [], [], [], op_pickF rfl (ev_ok rfl) (ev_ok rfl), nil_fk, nil_new, nil_upd, ?_⟩; conv => whnf) | (rw [beq_self_eq_true]; conv => whnf) | (rw [bne_self_eq_false]; conv => whnf) | (rw [t2]; conv => whnf)))
      exact ⟨Recast.refl _, (fun _ _ h => by cases h), (fun _ _ h => by cases h)⟩
    · obtain ⟨i, rfl⟩ : ∃ i, j = i + 1 := ⟨j - 1, by omega⟩
      have ei : (((i + 1 : Nat) : Int) - 1) = (i : Int) := by omega
      rw [ei]
      have t2 : decide ((i : Int) ≥ 0) = true := decide_eq_true (by omega)
      have e1 : 0 + (i : Int).toNat = i := by omega
      have e2 : IntKind.i64.wrap ((i : Int) - 1) = (i : Int) - 1 := wrap_i64 (by omega) (by omega)
      by_cases hne : xs.getD i 0 = ys.getD i 0
      · have t3 : (xs.getD i 0 != ys.getD i 0) = false := by rw [hne]; exact bne_self_eq_false _
        conv => whnf
        (repeat (first | (refine step_w1 rfl rfl ?_; conv => whnf) | (refine step_w2 rfl rfl ?_; conv => whnf) | (refine step_i (by kernel_rfl) ?_; conv => whnf) | (refine And.intro (by first | decide | omega | (simp only [tiB5, tiB22, tiB3, tiB2, tiB9, tiB55, tiB49, tiB28, tiB4, tiB66, tiB68]; omega)) ?_; conv => whnf) | (refine ⟨[], _, [], [], (by assumption), nil_fk, nil_new, nil_upd, ?_⟩; conv => whnf) | (refine ⟨[], _, [_], [], (by assumption), nil_fk, one_new rfl, nil_upd, ?_⟩; conv => whnf) | (refine ⟨[_], _, [], [], (by assumption), one_fk rfl, nil_new, nil_upd, ?_⟩; conv => whnf) | (refine ⟨[_, _], _, [], [], (by assumption), two_fk rfl rfl, nil_new, nil_upd, ?_⟩; conv => whnf) | (refine ⟨[_], _, [_], [], (by assumption), one_fk rfl, one_new rfl, nil_upd, ?_⟩; conv => whnf) | (refine ⟨[_], _, [], [_], (by assumption), one_fk rfl, nil_new, one_upd (List.mem_cons_self ..) rfl rfl rfl, ?_⟩; conv => whnf) | (refine ⟨[_, _], _, [], [_, _], (by assumption), two_fk rfl rfl, nil_new, two_upd (List.mem_cons_self ..) rfl rfl rfl (List.mem_cons_of_mem _ (List.mem_cons_self ..)) rfl rfl rfl, ?_⟩; conv => whnf) | (refine ⟨[_, _], _, [_, _], [], (by assumption), two_fk rfl rfl, two_new rfl rfl, nil_upd, ?_⟩; conv => whnf) | (refine ⟨_, [], [], [], op_pickT rfl (ev_ok rfl) (ev_ok rfl), nil_fk, nil_new, nil_upd, ?_⟩; conv => whnf) | (refine ⟨_, [], [], [], op_pickF rfl (ev_ok rfl) (ev_ok rfl), nil_fk, nil_new, nil_upd, ?_⟩; conv => whnf) | (rw [beq_self_eq_true]; conv => whnf) | (rw [bne_self_eq_false]; conv => whnf) | (rw [t2]; conv => whnf) | (rw [e1]; conv => whnf) | (rw [t3]; conv => whnf) | (rw [e2]; conv => whnf)))
        exact ⟨i, fun k => k, [0, 1, 5], [0, 1], by omega, by kernel_rfl, by omega, (fun q h1 h2 => by
          by_cases hq : q = i
          · rw [hq]; exact hne
          · exact heq q (by omega) h2), rfl, rfl⟩
      · have t3 : (xs.getD i 0 != ys.getD i 0) = true := bne_iff_ne.2 hne
        by_cases hlt : xs.getD i 0 < ys.getD i 0
        · have t4 : decide (xs.getD i 0 < ys.getD i 0) = true := decide_eq_true hlt
          have := valI_lt_of hx hy hlt
          rw [Int.sign_eq_neg_one_of_neg (by omega)]
          conv => whnf
          (repeat (first | (refine step_w1 rfl rfl ?_; conv => whnf) | (refine step_w2 rfl rfl ?_; conv => whnf) | (refine step_i (by kernel_rfl) ?_; conv => whnf) | (refine And.intro (by first | decide | omega | (simp only [tiB5, tiB22, tiB3, tiB2, tiB9, tiB55, tiB49, tiB28, tiB4, tiB66, tiB68]; omega)) ?_; conv => whnf) | (refine ⟨[], _, [], [], (by assumption), nil_fk, nil_new, nil_upd, ?_⟩; conv => whnf) | (refine ⟨[], _, [_], [], (by assumption), nil_fk, one_new rfl, nil_upd, ?_⟩; conv => whnf) | (refine ⟨[_], _, [], [], (by assumption), one_fk rfl, nil_new, nil_upd, ?_⟩; conv => whnf) | (refine ⟨[_, _], _, [], [], (by assumption), two_fk rfl rfl, nil_new, nil_upd, ?_⟩; conv => whnf) | (refine ⟨[_], _, [_], [], (by assumption), one_fk rfl, one_new rfl, nil_upd, ?_⟩; conv => whnf) | (refine ⟨[_], _, [], [_], (by assumption), one_fk rfl, nil_new, one_upd (List.mem_cons_self ..) rfl rfl rfl, ?_⟩; conv => whnf) | (refine ⟨[_, _], _, [], [_, _], (by assumption), two_fk rfl rfl, nil_new, two_upd (List.mem_cons_self ..) rfl rfl rfl (List.mem_cons_of_mem _ (List.mem_cons_self ..)) rfl rfl rfl, ?_⟩; conv => whnf) | (refine ⟨[_, _], _, [_, _], [], (by assumption), two_fk rfl rfl, two_new rfl rfl, nil_upd, ?_⟩; conv => whnf) | (refine ⟨_, [], [], [], op_pickT rfl (ev_ok rfl) (ev_ok rfl), nil_fk, nil_new, nil_upd, ?_⟩; conv => whnf) | (refine ⟨_, [], [], [], op_pickF rfl (ev_ok rfl) (ev_ok rfl), nil_fk, nil_new, nil_upd, ?_⟩; conv => whnf) | (rw [beq_self_eq_true]; conv => whnf) | (rw [bne_self_eq_false]; conv => whnf) | (rw [t2]; conv => whnf) | (rw [e1]; conv => whnf) | (rw [t3]; conv => whnf) | (rw [t4]; conv => whnf)))
          exact ⟨Recast.refl _, (fun _ _ h => by cases h), (fun _ _ h => by cases h)⟩
        · have t4 : decide (xs.getD i 0 < ys.getD i 0) = false := decide_eq_false hlt
          have := valI_lt_of hy hx (j := i) (by omega)
          rw [Int.sign_eq_one_of_pos (by omega)]
          conv => whnf
          (repeat (first | (refine step_w1 rfl rfl ?_; conv => whnf) | (refine step_w2 rfl rfl ?_; conv => whnf) | (refine step_i (by kernel_rfl) ?_; conv => whnf) | (refine And.intro (by first | decide | omega | (simp only [tiB5, tiB22, tiB3, tiB2, tiB9, tiB55, tiB49, tiB28, tiB4, tiB66, tiB68]; omega)) ?_; conv => whnf) | (refine ⟨[], _, [], [], (by assumption), nil_fk, nil_new, nil_upd, ?_⟩; conv => whnf) | (refine ⟨[], _, [_], [], (by assumption), nil_fk, one_new rfl, nil_upd, ?_⟩; conv => whnf) | (refine ⟨[_], _, [], [], (by assumption), one_fk rfl, nil_new, nil_upd, ?_⟩; conv => whnf) | (refine ⟨[_, _], _, [], [], (by assumption), two_fk rfl rfl, nil_new, nil_upd, ?_⟩; conv => whnf) | (refine ⟨[_], _, [_], [], (by assumption), one_fk rfl, one_new rfl, nil_upd, ?_⟩; conv => whnf) | (refine ⟨[_], _, [], [_], (by assumption), one_fk rfl, nil_new, one_upd (List.mem_cons_self ..) rfl rfl rfl, ?_⟩; conv => whnf) | (refine ⟨[_, _], _, [], [_, _], (by assumption), two_fk rfl rfl, nil_new, two_upd (List.mem_cons_self ..) rfl rfl rfl (List.mem_cons_of_mem _ (List.mem_cons_self ..)) rfl rfl rfl, ?_⟩; conv => whnf) | (refine ⟨[_, _], _, [_, _], [], (by assumption), two_fk rfl rfl, two_new rfl rfl, nil_upd, ?_⟩; conv => whnf) | (refine ⟨_, [], [], [], op_pickT rfl (ev_ok rfl) (ev_ok rfl), nil_fk, nil_new, nil_upd, ?_⟩; conv => whnf) | (refine ⟨_, [], [], [], op_pickF rfl (ev_ok rfl) (ev_ok rfl), nil_fk, nil_new, nil_upd, ?_⟩; conv => whnf) | (rw [beq_self_eq_true]; conv => whnf) | (rw [bne_self_eq_false]; conv => whnf) | (rw [t2]; conv => whnf) | (rw [e1]; conv => whnf) | (rw [t3]; conv => whnf) | (rw [t4]; conv => whnf)))
          exact ⟨Recast.refl _, (fun _ _ h => by cases h), (fun _ _ h => by cases h)⟩
  · have t1 : (((n : Nat) : Int) != (m : Nat)) = true := bne_iff_ne.2 (by omega)
    have e0 : IntKind.i64.wrap ((n : Int) - m) = (n : Int) - m := wrap_i64 (by omega) (by omega)
    have k1 := c_sign ((n : Int) - m)
    have e : ((n : Int) - m).sign = (valI xs n - valI ys m).sign := by
      by_cases h : n < m
      · have := valI_lt_len hx hy h (hyt.resolve_left (by omega))
        rw [Int.sign_eq_neg_one_of_neg (by omega), Int.sign_eq_neg_one_of_neg (by omega)]
      · have := valI_lt_len hy hx (show m < n by omega) (hxt.resolve_left (by omega))
        rw [Int.sign_eq_one_of_pos (by omega), Int.sign_eq_one_of_pos (by omega)]
    rw [e] at k1
    (repeat (first | (refine step_w1 rfl rfl ?_; conv => whnf) | (refine step_w2 rfl rfl ?_; conv => whnf) | (refine step_i (by kernel_rfl) ?_; conv => whnf) | (refine And.intro (by first | decide | omega | (simp only [tiB5, tiB22, tiB3, tiB2, tiB9, tiB55, tiB49, tiB28, tiB4, tiB66, tiB68]; omega)) ?_; conv => whnf) | (refine ⟨[], _, [], [], (by assumption), nil_fk, nil_new, nil_upd, ?_⟩; conv => whnf) | (refine ⟨[], _, [_], [], (by assumption), nil_fk, one_new rfl, nil_upd, ?_⟩; conv => whnf) | (refine ⟨[_], _, [], [], (by assumption), one_fk rfl, nil_new, nil_upd, ?_⟩; conv => whnf) | (refine ⟨[_, _], _, [], [], (by assumption), two_fk rfl rfl, nil_new, nil_upd, ?_⟩; conv => whnf) | (refine ⟨[_], _, [_], [], (by assumption), one_fk rfl, one_new rfl, nil_upd, ?_⟩; conv => whnf) | (refine ⟨[_], _, [], [_], (by assumption), one_fk rfl, nil_new, one_upd (List.mem_cons_self ..) rfl rfl rfl, ?_⟩; conv => whnf) | (refine ⟨[_, _], _, [], [_, _], (by assumption), two_fk rfl rfl, nil_new, two_upd (List.mem_cons_self ..) rfl rfl rfl (List.mem_cons_of_mem _ (List.mem_cons_self ..)) rfl rfl rfl, ?_⟩; conv => whnf) | (refine ⟨[_, _], _, [_, _], [], (by assumption), two_fk rfl rfl, two_new rfl rfl, nil_upd, ?_⟩; conv => whnf) | (refine ⟨_, [], [], [], op_pickT rfl (ev_ok rfl) (ev_ok rfl), nil_fk, nil_new, nil_upd, ?_⟩; conv => whnf) | (refine ⟨_, [], [], [], op_pickF rfl (ev_ok rfl) (ev_ok rfl), nil_fk, nil_new, nil_upd, ?_⟩; conv => whnf) | (rw [beq_self_eq_true]; conv => whnf) | (rw [bne_self_eq_false]; conv => whnf) | (rw [t1]; conv => whnf) | (rw [e0]; conv => whnf)))
    exact ⟨Recast.refl _, (fun _ _ h => by cases h), (fun _ _ h => by cases h)⟩

theorem wt_top (n : Nat) : (wInts n).length = 0 ∨ (wArr n).getD ((wInts n).length - 1) 0 ≠ 0 := by
  by_cases h : n = 0
  · subst h; exact .inl rfl
  · obtain ⟨h1, h2⟩ := wInts_top h
    exact .inr (by rw [wArr_get (by omega)]; exact h2)

theorem wlen_sz {n M : Nat} (h : sz n ≤ 32 * M) : (wInts n).length ≤ M := len_le_of (by
  have := sz_le.1 h
  rwa [Nat.pow_mul] at this)

theorem wArr_len2 (n : Nat) {M : Nat} (h : (wInts n).length ≤ M) (h2 : 2 ≤ M) : (wArr n).length ≤ M := by
  unfold wArr
  split
  · exact h2
  · exact h

theorem c_Cmp (a b : Nat) (ha : (wInts a).length < 1099511627776) (hb : (wInts b).length < 1099511627776) :
    CallOK Tryd.prog 86 [.nat a, .nat b] [] (.val (.int .i64 ((a : Int) - b).sign)) [] [] := by
  by_cases h : a < 18446744073709551616 ∧ b < 18446744073709551616
  · exact s_Cmp a b h.1 h.2
  · have ka := c_words a 1001 ha
    have kb := c_words b 1002 hb
    have kc := c_cmp (wArr a) (wArr b) (wInts a).length (wInts b).length (wArr_len a) (wArr_len b) (by have := wArr_len2 a (M := 1099511627776) (by omega) (by omega); omega) (by have := wArr_len2 b (M := 1099511627776) (by omega) (by omega); omega) (wArr_w32 a) (wArr_w32 b) (wt_top a) (wt_top b) 1001 1002 true true
    rw [wArr_val, wArr_val] at kc
    refine callV (Z := []) tabOK mixedOK Tryd.func86 rfl (by kernel_rfl) rfl rfl (by kernel_rfl) rfl ?_
    intro W0 w0 ρ0 hE
    conv => whnf
    by_cases h1 : a < 18446744073709551616
    · rw [big_eq, decide_eq_true h1]
      (repeat (first | (refine step_w1 rfl rfl ?_; conv => whnf) | (refine step_w2 rfl rfl ?_; conv => whnf) | (refine step_i (by kernel_rfl) ?_; conv => whnf) | (refine And.intro (by first | decide | omega | (simp only [tiB5, tiB22, tiB3, tiB2, tiB9, tiB55, tiB49, tiB28, tiB4, tiB66, tiB68]; omega)) ?_; conv => whnf) | (refine ⟨[], _, [], [], (by assumption), nil_fk, nil_new, nil_upd, ?_⟩; conv => whnf) | (refine ⟨[], _, [_], [], (by assumption), nil_fk, one_new rfl, nil_upd, ?_⟩; conv => whnf) | (refine ⟨[_], _, [], [], (by assumption), one_fk rfl, nil_new, nil_upd, ?_⟩; conv => whnf) | (refine ⟨[_, _], _, [], [], (by assumption), two_fk rfl rfl, nil_new, nil_upd, ?_⟩; conv => whnf) | (refine ⟨[_], _, [_], [], (by assumption), one_fk rfl, one_new rfl, nil_upd, ?_⟩; conv => whnf) | (refine ⟨[_], _, [], [_], (by assumption), one_fk rfl, nil_new, one_upd (List.mem_cons_self ..) rfl rfl rfl, ?_⟩; conv => whnf) | (refine ⟨[_, _], _, [], [_, _], (by assumption), two_fk rfl rfl, nil_new, two_upd (List.mem_cons_self ..) rfl rfl rfl (List.mem_cons_of_mem _ (List.mem_cons_self ..)) rfl rfl rfl, ?_⟩; conv => whnf) | (refine ⟨[_, _], _, [_, _], [], (by assumption), two_fk rfl rfl, two_new rfl rfl, nil_upd, ?_⟩; conv => whnf) | (refine ⟨_, [], [], [], op_pickT rfl (ev_ok rfl) (ev_ok rfl), nil_fk, nil_new, nil_upd, ?_⟩; conv => whnf) | (refine ⟨_, [], [], [], op_pickF rfl (ev_ok rfl) (ev_ok rfl), nil_fk, nil_new, nil_upd, ?_⟩; conv => whnf) | (rw [beq_self_eq_true]; conv => whnf) | (rw [bne_self_eq_false]; conv => whnf)))
      rw [big_eq, decide_eq_false (show ¬ b < 18446744073709551616 by omega)]
      (repeat (first | (refine step_w1 rfl rfl ?_; conv => whnf) | (refine step_w2 rfl rfl ?_; conv => whnf) | (refine step_i (by kernel_rfl) ?_; conv => whnf) | (refine And.intro (by first | decide | omega | (simp only [tiB5, tiB22, tiB3, tiB2, tiB9, tiB55, tiB49, tiB28, tiB4, tiB66, tiB68]; omega)) ?_; conv => whnf) | (refine ⟨[], _, [], [], (by assumption), nil_fk, nil_new, nil_upd, ?_⟩; conv => whnf) | (refine ⟨[], _, [_], [], (by assumption), nil_fk, one_new rfl, nil_upd, ?_⟩; conv => whnf) | (refine ⟨[_], _, [], [], (by assumption), one_fk rfl, nil_new, nil_upd, ?_⟩; conv => whnf) | (refine ⟨[_, _], _, [], [], (by assumption), two_fk rfl rfl, nil_new, nil_upd, ?_⟩; conv => whnf) | (refine ⟨[_], _, [_], [], (by assumption), one_fk rfl, one_new rfl, nil_upd, ?_⟩; conv => whnf) | (refine ⟨[_], _, [], [_], (by assumption), one_fk rfl, nil_new, one_upd (List.mem_cons_self ..) rfl rfl rfl, ?_⟩; conv => whnf) | (refine ⟨[_, _], _, [], [_, _], (by assumption), two_fk rfl rfl, nil_new, two_upd (List.mem_cons_self ..) rfl rfl rfl (List.mem_cons_of_mem _ (List.mem_cons_self ..)) rfl rfl rfl, ?_⟩; conv => whnf) | (refine ⟨[_, _], _, [_, _], [], (by assumption), two_fk rfl rfl, two_new rfl rfl, nil_upd, ?_⟩; conv => whnf) | (refine ⟨_, [], [], [], op_pickT rfl (ev_ok rfl) (ev_ok rfl), nil_fk, nil_new, nil_upd, ?_⟩; conv => whnf) | (refine ⟨_, [], [], [], op_pickF rfl (ev_ok rfl) (ev_ok rfl), nil_fk, nil_new, nil_upd, ?_⟩; conv => whnf) | (rw [beq_self_eq_true]; conv => whnf) | (rw [bne_self_eq_false]; conv => whnf))); exact Recast.refl _
    · rw [big_eq, decide_eq_false h1]
      (repeat (first | (refine step_w1 rfl rfl ?_; conv => whnf) | (refine step_w2 rfl rfl ?_; conv => whnf) | (refine step_i (by kernel_rfl) ?_; conv => whnf) | (refine And.intro (by first | decide | omega | (simp only [tiB5, tiB22, tiB3, tiB2, tiB9, tiB55, tiB49, tiB28, tiB4, tiB66, tiB68]; omega)) ?_; conv => whnf) | (refine ⟨[], _, [], [], (by assumption), nil_fk, nil_new, nil_upd, ?_⟩; conv => whnf) | (refine ⟨[], _, [_], [], (by assumption), nil_fk, one_new rfl, nil_upd, ?_⟩; conv => whnf) | (refine ⟨[_], _, [], [], (by assumption), one_fk rfl, nil_new, nil_upd, ?_⟩; conv => whnf) | (refine ⟨[_, _], _, [], [], (by assumption), two_fk rfl rfl, nil_new, nil_upd, ?_⟩; conv => whnf) | (refine ⟨[_], _, [_], [], (by assumption), one_fk rfl, one_new rfl, nil_upd, ?_⟩; conv => whnf) | (refine ⟨[_], _, [], [_], (by assumption), one_fk rfl, nil_new, one_upd (List.mem_cons_self ..) rfl rfl rfl, ?_⟩; conv => whnf) | (refine ⟨[_, _], _, [], [_, _], (by assumption), two_fk rfl rfl, nil_new, two_upd (List.mem_cons_self ..) rfl rfl rfl (List.mem_cons_of_mem _ (List.mem_cons_self ..)) rfl rfl rfl, ?_⟩; conv => whnf) | (refine ⟨[_, _], _, [_, _], [], (by assumption), two_fk rfl rfl, two_new rfl rfl, nil_upd, ?_⟩; conv => whnf) | (refine ⟨_, [], [], [], op_pickT rfl (ev_ok rfl) (ev_ok rfl), nil_fk, nil_new, nil_upd, ?_⟩; conv => whnf) | (refine ⟨_, [], [], [], op_pickF rfl (ev_ok rfl) (ev_ok rfl), nil_fk, nil_new, nil_upd, ?_⟩; conv => whnf) | (rw [beq_self_eq_true]; conv => whnf) | (rw [bne_self_eq_false]; conv => whnf))); exact Recast.refl _
end Go.Proofs.YtghdcjhlhcoijaaDoor
