/- Contracts: mods.Inv. -/
import Derived.Test.YtghdcjhlhcoijaaDoorCb
namespace Go.Proofs.YtghdcjhlhcoijaaDoor
open Go.Sx
set_option maxRecDepth 100000

/-- The extended Euclidean algorithm, one coefficient. -/
def eu (x y : Nat) (u v : Int) : Nat × Int := if _h : y = 0 then (x, u) else eu y (x % y) v (u - (x / y : Nat) * v)
termination_by y
decreasing_by exact Nat.mod_lt _ (Nat.pos_of_ne_zero _h)

def invF (a p : Nat) : Int × Bool :=
  if p = 0 then (0, false) else
    let r := eu p (a % p) 0 1
    if r.1 = 1 then (r.2 % p, true) else (0, false)

theorem wrap_i64n {n : Nat} (h : n < 9223372036854775808) : IntKind.i64.wrap (n : Int) = n := wrap_i64 (by omega) (by omega)

structure InvI (p : Nat) (x y : Nat) (u v : Int) : Prop where
  hx : 1 ≤ x
  hx' : x ≤ p
  hy : y ≤ p
  hu : u.natAbs ≤ p
  hv : v.natAbs ≤ p
  s : v.natAbs * x + u.natAbs * y ≤ p

theorem InvI.step {p x y : Nat} {u v : Int} (h : InvI p x y u v) (hy : y ≠ 0) : InvI p y (x % y) v (u - (x / y : Nat) * v) ∧ ((x / y : Nat) * v).natAbs ≤ p := by
  have hq : ((x / y : Nat) * v : Int).natAbs = (x / y) * v.natAbs := by rw [Int.natAbs_mul, Int.natAbs_natCast]
  have hdm := Nat.div_add_mod x y
  have hs := h.s
  have h1 : (x / y) * v.natAbs * y + v.natAbs * (x % y) = v.natAbs * x := by
    conv => rhs; rw [← hdm]
    rw [Nat.mul_add, Nat.mul_comm (x / y), Nat.mul_assoc, Nat.mul_comm (x / y)]
  have h2 : (u - (x / y : Nat) * v).natAbs ≤ u.natAbs + (x / y) * v.natAbs := by rw [← hq]; omega
  have h3 : (u - (x / y : Nat) * v).natAbs * y ≤ u.natAbs * y + (x / y) * v.natAbs * y := by rw [← Nat.add_mul]; exact Nat.mul_le_mul_right _ h2
  have h4 : (u - (x / y : Nat) * v).natAbs * 1 ≤ (u - (x / y : Nat) * v).natAbs * y := Nat.mul_le_mul_left _ (by omega)
  have h5 : (x / y) * v.natAbs * 1 ≤ (x / y) * v.natAbs * y := Nat.mul_le_mul_left _ (by omega)
  refine ⟨⟨by omega, h.hy, ?_, h.hv, by omega, by omega⟩, by rw [hq]; omega⟩
  exact Nat.le_trans (Nat.le_of_lt (Nat.mod_lt _ (by omega))) h.hy

theorem c_Inv (a p : Nat) (ha : a < 4294967296) (h4 : p < 4294967296) :
    CallOK Tryd.prog 13 [.val (.int .u32 a), .val (.int .u32 p)] [] (.tup [.val (.int .u32 (invF a p).1), .val (.bool (invF a p).2)]) [] [] := by
  refine callV tabOK mixedOK Tryd.func13 rfl (by kernel_rfl) rfl rfl (by kernel_rfl) rfl ?_
  intro W0 w0 ρ0 hE
  conv => whnf
  refine ⟨fun h => ?_, fun h => ?_⟩
  · conv => whnf
    have hp : p = 0 := by have := of_decide_eq_true h; omega
    simp only [invF, hp, if_true]
    exact Recast.refl _
  · have hp : p ≠ 0 := by have := of_decide_eq_false h; omega
    conv => whnf
    have e1 : IntKind.u64.wrap (a : Int) = a := wrap_u64 (by omega) (by omega)
    have e2 : IntKind.i64.wrap (p : Int) = p := wrap_i64 (by omega) (by omega)
    have e3 : md (a : Int) p = ((a % p : Nat) : Int) := by simp only [md]; rw [if_neg (by omega)]; omega
    have e5 : a % p < p := Nat.mod_lt _ (by omega)
    have e4 : IntKind.i64.wrap ((a % p : Nat) : Int) = ((a % p : Nat) : Int) := wrap_i64 (by omega) (by omega)
    rw [e1]
    refine ⟨[], _, [], [], c_mod a p (by omega) (by omega) (by omega), nil_fk, nil_new, nil_upd, ?_⟩
    conv => whnf
    rw [e3]
    rw [e2, e4]
    refine SW_loopN hE (fun k => k) [1, 6, 7, 8, 9] [] (fun m fr hp => ∃ x u v, InvI p x m u v ∧ eu x m u v = eu p (a % p) 0 1 ∧ fr = [(1, .val (.int .u32 p)), (6, .val (.int .i64 x)), (7, .val (.int .i64 m)), (8, .val (.int .i64 u)), (9, .val (.int .i64 v))] ∧ hp = []) (a % p) (by kernel_rfl)
      ⟨p, 0, 1, ⟨by omega, by omega, by omega, by omega, by omega, by simp⟩, rfl, rfl, rfl⟩ ?_
    rintro m _ _ ⟨x, u, v, hI, hT, rfl, rfl⟩
    conv => whnf
    refine ⟨fun h => ?_, fun h => ?_⟩
    · have hm : m ≠ 0 := by rintro rfl; simp at h
      obtain ⟨hI', hq⟩ := hI.step hm
      conv => whnf
      refine ⟨by omega, ?_⟩
      conv => whnf
      have f1 : IntKind.i64.wrap ((x : Int).tdiv (m : Int)) = ((x / m : Nat) : Int) := by
        have : (x : Int).tdiv (m : Int) = ((x / m : Nat) : Int) := by simp
        rw [this]
        exact wrap_i64n (Nat.lt_of_le_of_lt (Nat.div_le_self x m) (Nat.lt_of_le_of_lt hI.hx' (by omega)))
      have f2 : IntKind.i64.wrap ((x : Int) - IntKind.i64.wrap (((x / m : Nat) : Int) * (m : Int))) = ((x % m : Nat) : Int) := by
        have g := Nat.div_add_mod x m
        have g' : ((x / m : Nat) : Int) * (m : Int) = (x : Int) - (x % m : Nat) := by
          have : ((m * (x / m) + x % m : Nat) : Int) = x := by rw [g]
          rw [Int.natCast_add, Int.natCast_mul, Int.mul_comm] at this
          omega
        have := hI.hx'
        have := Nat.mod_le x m
        rw [g', wrap_i64 (n := (x : Int) - (x % m : Nat)) (by omega) (by omega), show (x : Int) - ((x : Int) - (x % m : Nat)) = ((x % m : Nat) : Int) from by omega]
        exact wrap_i64n (by omega)
      have hu := hI.hu
      have hv := hI'.hv
      have f3 : IntKind.i64.wrap (u - IntKind.i64.wrap (((x / m : Nat) : Int) * v)) = u - ((x / m : Nat) : Int) * v := by
        rw [wrap_i64 (n := ((x / m : Nat) : Int) * v) (by omega) (by omega), wrap_i64 (by omega) (by omega)]
      rw [f1, f2, f3]
      refine ⟨x % m, fun k => k, [1, 6, 7, 8, 9], [], Nat.mod_lt _ (by omega), by kernel_rfl, m, v, u - ((x / m : Nat) : Int) * v, hI', ?_, rfl, rfl⟩
      rw [← hT]
      conv => rhs; rw [eu, dif_neg hm]
    · have hm : m = 0 := by have h := h; simp at h; omega
      subst hm
      rw [eu, dif_pos rfl] at hT
      conv => whnf
      refine ⟨fun h => ?_, fun h => ?_⟩
      · have hx : x ≠ 1 := by rintro rfl; simp at h
        conv => whnf
        have : (invF a p) = (0, false) := by simp only [invF, hp, if_false, ← hT, hx]
        rw [this]
        exact Recast.refl _
      · have hx : x = 1 := by have h := h; simp at h; omega
        conv => whnf
        refine ⟨by rw [e2]; omega, ?_⟩
        conv => whnf
        refine ⟨by rw [e2]; omega, ?_⟩
        conv => whnf
        have : (invF a p) = (u % p, true) := by simp only [invF, hp, if_false, ← hT, hx, if_true]
        rw [this, e2]
        have hpp : (0 : Int) < p := by omega
        have hu := hI.hu
        have g0 : IntKind.i64.wrap (u.tmod (p : Int) + (p : Int)) = u.tmod (p : Int) + p := by
          have h1 := Int.tmod_lt_of_pos u hpp
          have h2 := Int.lt_tmod_of_pos u hpp
          exact wrap_i64 (by omega) (by omega)
        have g1 : (u.tmod (p : Int) + (p : Int)).tmod p = u % p := by
          have h1 := Int.tmod_lt_of_pos u hpp
          have h2 : -(p : Int) < u.tmod p := by have := Int.lt_tmod_of_pos u hpp; omega
          rw [Int.tmod_eq_emod_of_nonneg (by omega), Int.add_emod_right]
          rw [Int.tmod_eq_emod]
          split <;> simp
        rw [g0, g1, wrap_u32 (Int.emod_nonneg _ (by omega)) (by have := Int.emod_lt_of_pos u hpp; omega)]
        exact Recast.refl _
end Go.Proofs.YtghdcjhlhcoijaaDoor
