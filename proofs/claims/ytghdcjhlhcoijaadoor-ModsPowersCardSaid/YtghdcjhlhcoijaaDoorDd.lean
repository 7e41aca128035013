/- Small numbers meet what is asked of nats; the examples of the chapter. -/
import Derived.Test.YtghdcjhlhcoijaaDoorDc
import Derived.Test.YtghdcjhlhcoijaaDoorCn
namespace Go.Proofs.YtghdcjhlhcoijaaDoor
open Go.Sx
set_option maxRecDepth 100000
set_option maxHeartbeats 4000000

theorem sz64 {n : Nat} (h : sz n ≤ 64) : n < 18446744073709551616 := sz_le.1 h

theorem nat64 : NatOK 64 where
  big := Nat.le_refl _
  cmp a b ha hb := s_Cmp a b (sz64 ha) (sz64 hb)
  add a b h := s_Add a b (sz64 h)
  sub a b ha h := s_Sub a b (sz64 ha) h
  subF a b hb h := s_SubF a b (Nat.lt_trans h (sz64 hb)) (sz64 hb) h
  mul a b h := s_Mul a b (sz64 (by omega)) (sz64 (by omega)) (sz64 (Nat.le_trans (sz_mul a b) h))
  div a b ha hb h0 := s_Div a b (sz64 ha) (sz64 hb) h0
  divZ a := c_DivZ a
  gcd a b ha hb := s_Gcd a b (sz64 ha) (sz64 hb)

theorem k_prime (n : Nat) (b : Bool) (hn : n < 4294967296) (e : primeF n = b) : CallOK Tryd.prog 10 [.val (.int .u32 n)] [] (.val (.bool b)) [] [] := e ▸ c_Prime n hn
theorem k_next (n : Nat) (q e : Int) (hn : n < 4294967296) (h : nextF (2147483648 - (n + 1)) (n + 1) = (q, e)) : CallOK Tryd.prog 8 [.val (.int .u32 n)] [] (.tup [.val (.int .u32 q), .val (.int .i64 e)]) [] [] := by
  have := c_Next n hn; rwa [h] at this
theorem k_inv (a p : Nat) (q : Int) (b : Bool) (ha : a < 4294967296) (hp : p < 4294967296) (h : invF a p = (q, b)) : CallOK Tryd.prog 13 [.val (.int .u32 a), .val (.int .u32 p)] [] (.tup [.val (.int .u32 q), .val (.bool b)]) [] [] := by
  have := c_Inv a p ha hp; rwa [h] at this
theorem k_frac (a : Rat) (p : Nat) (q : Int) (b : Bool) (ha : fsz a < 64) (hp : p < 4294967296) (h : ofFracF a p = (q, b)) : CallOK Tryd.prog 29 [.frac a, .val (.int .u32 p)] [] (.tup [.val (.int .u32 q), .val (.bool b)]) [] [] := by
  have := c_OfFrac nat64 a p ha hp; rwa [h] at this

theorem c_works : CallOK Tryd.prog 12 [] [] (.val (.bool true)) [] [] := by
  have n1 := k_next 0 2 0 (by decide) (by kernel_rfl)
  have n2 := k_next 2 3 0 (by decide) (by kernel_rfl)
  have n3 := k_next 2147483646 2147483647 0 (by decide) (by kernel_rfl)
  have n4 := k_next 2147483647 0 3 (by decide) (by kernel_rfl)
  have p1 := k_prime 2 true (by decide) (by kernel_rfl)
  have p2 := k_prime 1 false (by decide) (by kernel_rfl)
  have p3 := k_prime 561 false (by decide) (by kernel_rfl)
  have p4 := k_prime 2147483647 true (by decide) (by kernel_rfl)
  have p5 := k_prime 4294967291 true (by decide) (by kernel_rfl)
  have i1 := k_inv 3 7 5 true (by decide) (by decide) (by kernel_rfl)
  have i2 := k_inv 2 4 0 false (by decide) (by decide) (by kernel_rfl)
  have i3 := k_inv 0 1 0 true (by decide) (by decide) (by kernel_rfl)
  have i4 := k_inv 5 0 0 false (by decide) (by decide) (by kernel_rfl)
  have a1 := (c_Sub 3 5 7 (by decide) (by decide) (by decide) (by decide) (by decide) (by decide)).res (d := .val (.int .u32 5)) (by kernel_rfl)
  have a2 := (c_Mul 4294967295 4294967295 4294967291 (by decide) (by decide) (by decide) (by decide) (by decide) (by decide)).res (d := .val (.int .u32 16)) (by kernel_rfl)
  have a3 := (c_Pow 2 1000 10 (by decide) (by decide) (by decide) (by decide) (by decide)).res (d := .val (.int .u32 24)) (by kernel_rfl)
  have a4 := (c_Pow 0 5 0 (by decide) (by decide) (by decide) (by decide) (by decide)).res (d := .val (.int .u32 1)) (by kernel_rfl)
  have a5 := (c_Add 3 4 0 (by decide) (by decide) (by decide) (by decide) (by decide) (by decide)).res (d := .val (.int .u32 0)) (by kernel_rfl)
  have f1 := c_of nat64 1 2 (of_decide_eq_true (by kernel_rfl)) (by decide) (by decide) (by decide) (by decide) (by decide)
  have f2 := c_of nat64 1 7 (of_decide_eq_true (by kernel_rfl)) (by decide) (by decide) (by decide) (by decide) (by decide)
  have f3 := c_of nat64 7 2 (of_decide_eq_true (by kernel_rfl)) (by decide) (by decide) (by decide) (by decide) (by decide)
  have g1 := k_frac (((1 : Int) : Rat) / ((2 : Int) : Rat)) 7 4 true (of_decide_eq_true (by kernel_rfl)) (by decide) (by kernel_rfl)
  have g2 := k_frac (((1 : Int) : Rat) / ((7 : Int) : Rat)) 7 0 false (of_decide_eq_true (by kernel_rfl)) (by decide) (by kernel_rfl)
  have g3 := k_frac (((7 : Int) : Rat) / ((2 : Int) : Rat)) 7 0 true (of_decide_eq_true (by kernel_rfl)) (by decide) (by kernel_rfl)
  have z1 := c_iOf (-1) (by decide) (by decide)
  have z2 := (c_OfInt nat64 (-1) 7 (of_decide_eq_true (by kernel_rfl)) (by decide) (by decide)).res (d := .val (.int .u32 6)) (by kernel_rfl)
  refine callV tabOK mixedOK Tryd.func12 rfl (by kernel_rfl) rfl rfl (by kernel_rfl) rfl ?_
  intro W0 w0 ρ0 hE
  conv => whnf
  (repeat (first | (refine step_w1 rfl rfl ?_; conv => whnf) | (refine step_w2 rfl rfl ?_; conv => whnf) | (refine step_i (by kernel_rfl) ?_; conv => whnf) | (refine And.intro (by first | decide | omega) ?_; conv => whnf) | (refine ⟨[], _, [], [], (by assumption), nil_fk, nil_new, nil_upd, ?_⟩; conv => whnf) | (refine ⟨_, [], [], [], op_pickT rfl (ev_ok rfl) (ev_ok rfl), nil_fk, nil_new, nil_upd, ?_⟩; conv => whnf) | (refine ⟨_, [], [], [], op_pickF rfl (ev_ok rfl) (ev_ok rfl), nil_fk, nil_new, nil_upd, ?_⟩; conv => whnf) | (rw [beq_self_eq_true]; conv => whnf) | (rw [bne_self_eq_false]; conv => whnf))); exact Recast.refl _
end Go.Proofs.YtghdcjhlhcoijaaDoor
