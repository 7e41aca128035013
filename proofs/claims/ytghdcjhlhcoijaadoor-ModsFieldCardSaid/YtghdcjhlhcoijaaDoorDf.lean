/- The primes of the law's list. -/
import Derived.Test.YtghdcjhlhcoijaaDoorDe
import Derived.Test.YtghdcjhlhcoijaaDoorSxT
namespace Go.Proofs.YtghdcjhlhcoijaaDoor
open Go.Sx
set_option maxRecDepth 100000
set_option maxHeartbeats 4000000

/-- The primes that P takes. -/
def plist : List Int := [2, 3, 5, 7, 11, 101, 257, 10007, 65537, 1000003, 16777259, 2147483629, 2147483647]

theorem prime_chk {p b k r : Nat} (h : (decide (2 ≤ p) && (decide (p < r * r) && (decide (r ≤ 2 + k * b) && noDivB p b k 2))) = true) : PrimeN p := by
  simp only [Bool.and_eq_true, decide_eq_true_eq] at h
  exact prime_of h.1 h.2.1 (fun e h1 _ => noDivB_spec h.2.2.2 e h1 (by omega))

theorem plist_prime : ∀ p ∈ plist, ∃ q : Nat, p = q ∧ PrimeN q ∧ q < 4294967296 := by
  intro p hp
  simp only [plist, List.mem_cons, List.not_mem_nil, or_false] at hp
  rcases hp with rfl | rfl | rfl | rfl | rfl | rfl | rfl | rfl | rfl | rfl | rfl | rfl | rfl
  · exact ⟨2, rfl, prime_of (r := 2) (by decide) (by decide) (fun e _ _ => by omega), by decide⟩
  · exact ⟨3, rfl, prime_of (r := 2) (by decide) (by decide) (fun e _ _ => by omega), by decide⟩
  · exact ⟨5, rfl, prime_chk (r := 3) (k := 1) (b := 1) (by kernel_rfl), by decide⟩
  · exact ⟨7, rfl, prime_chk (r := 3) (k := 1) (b := 1) (by kernel_rfl), by decide⟩
  · exact ⟨11, rfl, prime_chk (r := 4) (k := 2) (b := 1) (by kernel_rfl), by decide⟩
  · exact ⟨101, rfl, prime_chk (r := 11) (k := 3) (b := 3) (by kernel_rfl), by decide⟩
  · exact ⟨257, rfl, prime_chk (r := 17) (k := 3) (b := 5) (by kernel_rfl), by decide⟩
  · exact ⟨10007, rfl, prime_chk (r := 102) (k := 10) (b := 10) (by kernel_rfl), by decide⟩
  · exact ⟨65537, rfl, prime_chk (r := 257) (k := 15) (b := 17) (by kernel_rfl), by decide⟩
  · exact ⟨1000003, rfl, prime_chk (r := 1001) (k := 27) (b := 37) (by kernel_rfl), by decide⟩
  · exact ⟨16777259, rfl, prime_chk (r := 4097) (k := 63) (b := 65) (by kernel_rfl), by decide⟩
  · exact ⟨2147483629, rfl, prime_chk (r := 46341) (k := 215) (b := 216) (by kernel_rfl), by decide⟩
  · exact ⟨2147483647, rfl, prime_chk (r := 46341) (k := 215) (b := 216) (by kernel_rfl), by decide⟩

theorem c_P (i : Int) (h0 : 0 ≤ i) : CallOK Tryd.prog 22 [.val (.int .u32 i)] [] (.val (.int .u32 (plist.getD (i % 13).toNat 0))) [] [] := by
  refine callV tabOK mixedOK Tryd.func22 rfl (by kernel_rfl) rfl rfl (by kernel_rfl) rfl ?_
  intro W0 w0 ρ0 hE
  conv => whnf
  (repeat (first | (refine step_w1 rfl rfl ?_; conv => whnf) | (refine step_w2 rfl rfl ?_; conv => whnf) | (refine step_i (by kernel_rfl) ?_; conv => whnf) | (refine And.intro (by first | decide | omega) ?_; conv => whnf) | (refine ⟨[], _, [], [], (by assumption), nil_fk, nil_new, nil_upd, ?_⟩; conv => whnf) | (refine ⟨_, [], [], [], op_pickT rfl (ev_ok rfl) (ev_ok rfl), nil_fk, nil_new, nil_upd, ?_⟩; conv => whnf) | (refine ⟨_, [], [], [], op_pickF rfl (ev_ok rfl) (ev_ok rfl), nil_fk, nil_new, nil_upd, ?_⟩; conv => whnf) | (rw [beq_self_eq_true]; conv => whnf) | (rw [bne_self_eq_false]; conv => whnf)))
  rw [show IntKind.u32.wrap ((13 : Nat) : Int) = 13 from rfl, Int.tmod_eq_emod_of_nonneg h0]
  (repeat (first | (refine step_w1 rfl rfl ?_; conv => whnf) | (refine step_w2 rfl rfl ?_; conv => whnf) | (refine step_i (by kernel_rfl) ?_; conv => whnf) | (refine And.intro (by first | decide | omega) ?_; conv => whnf) | (refine ⟨[], _, [], [], (by assumption), nil_fk, nil_new, nil_upd, ?_⟩; conv => whnf) | (refine ⟨_, [], [], [], op_pickT rfl (ev_ok rfl) (ev_ok rfl), nil_fk, nil_new, nil_upd, ?_⟩; conv => whnf) | (refine ⟨_, [], [], [], op_pickF rfl (ev_ok rfl) (ev_ok rfl), nil_fk, nil_new, nil_upd, ?_⟩; conv => whnf) | (rw [beq_self_eq_true]; conv => whnf) | (rw [bne_self_eq_false]; conv => whnf)))
  refine ⟨by show 0 + (i % 13).toNat < 13; omega, ?_⟩
  conv => whnf
  rw [Nat.zero_add]
  (repeat (first | (refine step_w1 rfl rfl ?_; conv => whnf) | (refine step_w2 rfl rfl ?_; conv => whnf) | (refine step_i (by kernel_rfl) ?_; conv => whnf) | (refine And.intro (by first | decide | omega) ?_; conv => whnf) | (refine ⟨[], _, [], [], (by assumption), nil_fk, nil_new, nil_upd, ?_⟩; conv => whnf) | (refine ⟨_, [], [], [], op_pickT rfl (ev_ok rfl) (ev_ok rfl), nil_fk, nil_new, nil_upd, ?_⟩; conv => whnf) | (refine ⟨_, [], [], [], op_pickF rfl (ev_ok rfl) (ev_ok rfl), nil_fk, nil_new, nil_upd, ?_⟩; conv => whnf) | (rw [beq_self_eq_true]; conv => whnf) | (rw [bne_self_eq_false]; conv => whnf))); exact Recast.refl _

end Go.Proofs.YtghdcjhlhcoijaaDoor
