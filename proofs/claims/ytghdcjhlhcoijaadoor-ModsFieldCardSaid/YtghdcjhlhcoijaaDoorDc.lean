/- The law's own helper, and the mods that take fractions. -/
import Derived.Test.YtghdcjhlhcoijaaDoorDb
import Derived.Test.YtghdcjhlhcoijaaDoorCf
namespace Go.Proofs.YtghdcjhlhcoijaaDoor
open Go.Sx
set_option maxRecDepth 100000
set_option maxHeartbeats 2000000
variable {M : Nat}

theorem c_of (ok : NatOK M) (n d : Int) (hM : fsz (n : Rat) + fsz (d : Rat) ≤ M) (h0 : -9223372036854775808 ≤ n) (h1 : n < 9223372036854775808) (h2 : -9223372036854775808 ≤ d) (h3 : d < 9223372036854775808) (hd : d ≠ 0) :
    CallOK Tryd.prog 34 [.val (.int .i64 n), .val (.int .i64 d)] [] (.frac ((n : Rat) / (d : Rat))) [] [] := by
  have k1 := c_fOf ok n d hM h0 h1 h2 h3 hd
  refine callV tabOK mixedOK Tryd.func34 rfl (by kernel_rfl) rfl rfl (by kernel_rfl) rfl ?_
  intro W0 w0 ρ0 hE
  conv => whnf
  (repeat (first | (refine step_w1 rfl rfl ?_; conv => whnf) | (refine step_w2 rfl rfl ?_; conv => whnf) | (refine step_i (by kernel_rfl) ?_; conv => whnf) | (refine And.intro (by first | decide | omega) ?_; conv => whnf) | (refine ⟨[], _, [], [], (by assumption), nil_fk, nil_new, nil_upd, ?_⟩; conv => whnf) | (refine ⟨_, [], [], [], op_pickT rfl (ev_ok rfl) (ev_ok rfl), nil_fk, nil_new, nil_upd, ?_⟩; conv => whnf) | (refine ⟨_, [], [], [], op_pickF rfl (ev_ok rfl) (ev_ok rfl), nil_fk, nil_new, nil_upd, ?_⟩; conv => whnf) | (rw [beq_self_eq_true]; conv => whnf) | (rw [bne_self_eq_false]; conv => whnf))); exact Recast.refl _

theorem c_OfInt (ok : NatOK M) (z p : Int) (hz : sz z.natAbs < M) (h3 : 0 ≤ p) (h4 : p < 4294967296) :
    CallOK Tryd.prog 24 [.int z, .val (.int .u32 p)] [] (.val (.int .u32 (md z p))) [] [] := by
  have hb := ok.big
  have e1 : IntKind.u64.wrap p = ((p.toNat : Nat) : Int) := by rw [wrap_u64 h3 (by omega)]; omega
  have k1 := c_nOf p.toNat (by omega)
  have k2 := c_From false p.toNat
  rw [show signed false p.toNat = p from by simp [signed]; omega] at k2
  refine callV tabOK mixedOK Tryd.func24 rfl (by kernel_rfl) rfl rfl (by kernel_rfl) rfl ?_
  intro W0 w0 ρ0 hE
  conv => whnf
  rw [e1]
  by_cases hp : p = 0
  · subst hp
    have k3 := c_iDivZ ok z
    have k4 := c_Abs 0
    have k5 := c_U64 (Int.natAbs 0)
    (repeat (first | (refine step_w1 rfl rfl ?_; conv => whnf) | (refine step_w2 rfl rfl ?_; conv => whnf) | (refine step_i (by kernel_rfl) ?_; conv => whnf) | (refine And.intro (by first | decide | omega) ?_; conv => whnf) | (refine ⟨[], _, [], [], (by assumption), nil_fk, nil_new, nil_upd, ?_⟩; conv => whnf) | (refine ⟨_, [], [], [], op_pickT rfl (ev_ok rfl) (ev_ok rfl), nil_fk, nil_new, nil_upd, ?_⟩; conv => whnf) | (refine ⟨_, [], [], [], op_pickF rfl (ev_ok rfl) (ev_ok rfl), nil_fk, nil_new, nil_upd, ?_⟩; conv => whnf) | (rw [beq_self_eq_true]; conv => whnf) | (rw [bne_self_eq_false]; conv => whnf))); exact Recast.refl _
  · have hps : sz p.natAbs < M := Nat.lt_of_le_of_lt (sz_le.2 (show p.natAbs < 2 ^ 32 by omega)) (by omega)
    have k3 := c_iDiv ok z p hz hps hp
    have k4 := c_Abs (z % p)
    have k5 := c_U64 (z % p).natAbs
    (repeat (first | (refine step_w1 rfl rfl ?_; conv => whnf) | (refine step_w2 rfl rfl ?_; conv => whnf) | (refine step_i (by kernel_rfl) ?_; conv => whnf) | (refine And.intro (by first | decide | omega) ?_; conv => whnf) | (refine ⟨[], _, [], [], (by assumption), nil_fk, nil_new, nil_upd, ?_⟩; conv => whnf) | (refine ⟨_, [], [], [], op_pickT rfl (ev_ok rfl) (ev_ok rfl), nil_fk, nil_new, nil_upd, ?_⟩; conv => whnf) | (refine ⟨_, [], [], [], op_pickF rfl (ev_ok rfl) (ev_ok rfl), nil_fk, nil_new, nil_upd, ?_⟩; conv => whnf) | (rw [beq_self_eq_true]; conv => whnf) | (rw [bne_self_eq_false]; conv => whnf)))
    have h5 := Int.emod_nonneg z hp
    have h6 := Int.emod_lt_of_pos z (show 0 < p by omega)
    rw [low_small (by omega), wrap_u32 (by omega) (by omega)]
    rw [show (((z % p).natAbs : Nat) : Int) = md z p from by simp only [md, hp, if_false]; omega]
    exact Recast.refl _

/-- The residue of a natural number. -/
def mdN (n p : Nat) : Nat := if p = 0 then 0 else n % p
theorem md_nat (n p : Nat) : md n p = (mdN n p : Nat) := by
  unfold md mdN
  by_cases h : p = 0 <;> simp [h]
theorem mdN_le {n p : Nat} (hp : p < 4294967296) : mdN n p < 4294967296 := by
  unfold mdN
  split
  · omega
  · have := Nat.mod_lt n (show 0 < p by omega); omega

theorem invF_bd {a p : Nat} (h : p < 4294967296) : 0 ≤ (invF a p).1 ∧ (invF a p).1 < 4294967296 := by
  unfold invF
  split
  · exact ⟨by decide, by decide⟩
  · simp only []
    split
    · have h1 := Int.emod_nonneg (eu p (a % p) 0 1).2 (show (p : Int) ≠ 0 by omega)
      have h2 := Int.emod_lt_of_pos (eu p (a % p) 0 1).2 (show (0 : Int) < p by omega)
      exact ⟨h1, by omega⟩
    · exact ⟨by decide, by decide⟩

/-- What mods.OfFrac gives. -/
def ofFracF (q : Rat) (p : Nat) : Int × Bool :=
  if (invF (mdN q.den p) p).2 then (md (md q.num p * (invF (mdN q.den p) p).1) p, true) else (0, false)

theorem c_OfFrac (ok : NatOK M) (q : Rat) (p : Nat) (hq : fsz q < M) (hp : p < 4294967296) :
    CallOK Tryd.prog 29 [.frac q, .val (.int .u32 p)] [] (.tup [.val (.int .u32 (ofFracF q p).1), .val (.bool (ofFracF q p).2)]) [] [] := by
  have h1 := fsz_num q
  have h2 := fsz_den q
  have k1 := c_Den ok q (by omega)
  have k2 := c_From false q.den
  rw [show signed false q.den = (q.den : Int) from rfl] at k2
  have k3 := c_OfInt ok q.den p (by rw [Int.natAbs_natCast]; omega) (by omega) (by omega)
  rw [md_nat] at k3
  have k4 := c_Inv (mdN q.den p) p (mdN_le hp) hp
  have k5 := c_Num q
  have k6 := c_OfInt ok q.num p (by omega) (by omega) (by omega)
  obtain ⟨b1, b2⟩ := invF_bd (a := mdN q.den p) hp
  have h5 := md_bd (n := q.num) (p := p) (by omega)
  have k7 := c_Mul (md q.num p) (invF (mdN q.den p) p).1 p h5.1 (by omega) b1 b2 (by omega) (by omega)
  have hr : ofFracF q p = if (invF (mdN q.den p) p).2 then (md (md q.num p * (invF (mdN q.den p) p).1) p, true) else (0, false) := rfl
  rw [hr]
  generalize invF (mdN q.den p) p = iv at *
  obtain ⟨v, b⟩ := iv
  refine callV tabOK mixedOK Tryd.func29 rfl (by kernel_rfl) rfl rfl (by kernel_rfl) rfl ?_
  intro W0 w0 ρ0 hE
  conv => whnf
  cases b
  · (repeat (first | (refine step_w1 rfl rfl ?_; conv => whnf) | (refine step_w2 rfl rfl ?_; conv => whnf) | (refine step_i (by kernel_rfl) ?_; conv => whnf) | (refine And.intro (by first | decide | omega) ?_; conv => whnf) | (refine ⟨[], _, [], [], (by assumption), nil_fk, nil_new, nil_upd, ?_⟩; conv => whnf) | (refine ⟨_, [], [], [], op_pickT rfl (ev_ok rfl) (ev_ok rfl), nil_fk, nil_new, nil_upd, ?_⟩; conv => whnf) | (refine ⟨_, [], [], [], op_pickF rfl (ev_ok rfl) (ev_ok rfl), nil_fk, nil_new, nil_upd, ?_⟩; conv => whnf) | (rw [beq_self_eq_true]; conv => whnf) | (rw [bne_self_eq_false]; conv => whnf))); exact Recast.refl _
  · (repeat (first | (refine step_w1 rfl rfl ?_; conv => whnf) | (refine step_w2 rfl rfl ?_; conv => whnf) | (refine step_i (by kernel_rfl) ?_; conv => whnf) | (refine And.intro (by first | decide | omega) ?_; conv => whnf) | (refine ⟨[], _, [], [], (by assumption), nil_fk, nil_new, nil_upd, ?_⟩; conv => whnf) | (refine ⟨_, [], [], [], op_pickT rfl (ev_ok rfl) (ev_ok rfl), nil_fk, nil_new, nil_upd, ?_⟩; conv => whnf) | (refine ⟨_, [], [], [], op_pickF rfl (ev_ok rfl) (ev_ok rfl), nil_fk, nil_new, nil_upd, ?_⟩; conv => whnf) | (rw [beq_self_eq_true]; conv => whnf) | (rw [bne_self_eq_false]; conv => whnf))); exact Recast.refl _
end Go.Proofs.YtghdcjhlhcoijaaDoor
