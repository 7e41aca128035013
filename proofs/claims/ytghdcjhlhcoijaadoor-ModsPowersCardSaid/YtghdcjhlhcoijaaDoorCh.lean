/- Contracts: nats for small numbers. -/
import Derived.Test.YtghdcjhlhcoijaaDoorCg
import Derived.Laws.Externs
import Derived.Shelf.Abstract
namespace Go.Proofs.YtghdcjhlhcoijaaDoor
open Go.Sx
set_option maxRecDepth 100000

theorem c_Add64 (x y : Nat) (hx : x < 18446744073709551616) (hy : y < 18446744073709551616) :
    CallOK Tryd.prog 73 [.val (.int .u64 x), .val (.int .u64 y), .val (.int .u64 0)] [] (.tup [.val (.int .u64 ((x + y) % 18446744073709551616 : Nat)), .val (.int .u64 ((x + y) / 18446744073709551616 : Nat))]) [] [] := by
  refine .inr fun ρ w z hz hp => ?_
  simp only [HasZ, HasC] at hz
  obtain ⟨_, _, rfl, ⟨rfl, _⟩, _, _, rfl, ⟨rfl, _⟩, _, _, rfl, ⟨rfl, _⟩, rfl⟩ := hz
  refine ⟨.tuple #[.int .u64 ((x + y) % 18446744073709551616 : Nat), .int .u64 ((x + y) / 18446744073709551616 : Nat)], ρ, w, ?_, .pure ?_⟩
  · show (callFunc 73 #[.int .u64 x, .int .u64 y, .int .u64 0]).run Tryd.prog w = _
    rw [run_callFunc_extern Tryd.func73 (by kernel_rfl) (by kernel_rfl) (by kernel_rfl) (e := add64Entry) (by kernel_rfl), run_add64 x y 0 (by omega) (by omega) (by omega) (by omega)]
    simp only [Result.andThen]
    congr 5 <;> omega
  · simp only [Has, HasZ, HasC]
    exact ⟨_, ⟨_, _, rfl, ⟨rfl, rfl⟩, _, _, rfl, ⟨rfl, rfl⟩, rfl⟩, rfl⟩

theorem s_Cmp (a b : Nat) (ha : a < 18446744073709551616) (hb : b < 18446744073709551616) :
    CallOK Tryd.prog 86 [.nat a, .nat b] [] (.val (.int .i64 ((a : Int) - b).sign)) [] [] := by
  refine callV tabOK mixedOK Tryd.func86 rfl (by kernel_rfl) rfl rfl (by kernel_rfl) rfl ?_
  intro W0 w0 ρ0 hE
  conv => whnf
  rw [big_eq, decide_eq_true ha]
  refine ⟨fun _ => ?_, fun h => by cases h⟩
  conv => whnf
  refine ⟨fun _ => ?_, fun h => by cases h⟩
  conv => whnf
  refine ⟨fun _ => ?_, fun h => by cases h⟩
  conv => whnf
  rw [big_eq, decide_eq_true hb]
  refine ⟨.val (.bool true), [], [], [], op_pick rfl (ev_ok rfl) (fun _ => ev_ok rfl) (fun hb => by cases hb) rfl (c2 := .any), nil_fk, nil_new, nil_upd, ?_⟩
  conv => whnf
  refine ⟨fun _ => ?_, fun h => by cases h⟩
  conv => whnf
  rw [low_small ha, low_small hb]
  refine ⟨fun h => ?_, fun h => ?_⟩
  · have hz : ((a : Int) - b).sign = -1 := Int.sign_eq_neg_one_of_neg (by have := of_decide_eq_true h; omega)
    conv => whnf
    rw [hz]
    exact Recast.refl _
  · have h1 := of_decide_eq_false h
    conv => whnf
    rw [low_small ha, low_small hb]
    refine ⟨fun h => ?_, fun h => ?_⟩
    · have hz : ((a : Int) - b).sign = 1 := Int.sign_eq_one_of_pos (by have := of_decide_eq_true h; omega)
      conv => whnf
      rw [hz]
      exact Recast.refl _
    · have hz : ((a : Int) - b).sign = 0 := by rw [Int.sign_eq_zero_iff_zero]; have := of_decide_eq_false h; omega
      conv => whnf
      rw [hz]
      exact Recast.refl _

theorem hasC_nat {x : Int} {n : Nat} {s : ByteArray} (hx : x = n) (hs : s = ByteArray.empty) (hn : n < 18446744073709551616) : ∀ ρ y, HasC ρ (.agg [.val (.int .u64 x), .val (.string s)]) y → HasC ρ (.nat n) y :=
  hasC_flat (l := natCells n) (by rw [natCells_small hn, hx, hs]; rfl) rfl (fun _ h => by cases h)

theorem recast_nat {n : Nat} (hn : n < 18446744073709551616) : Recast (.agg [.val (.int .u64 n), .val (.string .empty)]) (.nat n) :=
  recast_flat (l := natCells n) (by rw [natCells_small hn]; rfl) rfl (fun _ h => by cases h)

theorem s_Add (a b : Nat) (h : a + b < 18446744073709551616) :
    CallOK Tryd.prog 51 [.nat a, .nat b] [] (.nat (a + b)) [] [] := by
  have ha : a < 18446744073709551616 := by omega
  have hb : b < 18446744073709551616 := by omega
  refine callV tabOK mixedOK Tryd.func51 rfl (by kernel_rfl) rfl rfl (by kernel_rfl) rfl ?_
  intro W0 w0 ρ0 hE
  conv => whnf
  rw [big_eq, decide_eq_true ha]
  refine ⟨fun _ => ?_, fun h => by cases h⟩
  conv => whnf
  refine ⟨fun _ => ?_, fun h => by cases h⟩
  conv => whnf
  refine ⟨fun _ => ?_, fun h => by cases h⟩
  conv => whnf
  rw [big_eq, decide_eq_true hb]
  refine ⟨.val (.bool true), [], [], [], op_pick rfl (ev_ok rfl) (fun _ => ev_ok rfl) (fun hb => by cases hb) rfl (c2 := .any), nil_fk, nil_new, nil_upd, ?_⟩
  conv => whnf
  refine ⟨fun _ => ?_, fun h => by cases h⟩
  conv => whnf
  rw [low_small ha, low_small hb]
  refine ⟨[], _, [], [], c_Add64 a b ha hb, nil_fk, nil_new, nil_upd, ?_⟩
  rw [Nat.mod_eq_of_lt h, Nat.div_eq_of_lt h]
  conv => whnf
  refine ⟨fun _ => ?_, fun h => by cases h⟩
  conv => whnf
  exact recast_nat h

theorem s_Sub (a b : Nat) (ha : a < 18446744073709551616) (h : b ≤ a) :
    CallOK Tryd.prog 72 [.nat a, .nat b] [] (.tup [.nat (a - b), .val (.bool true)]) [] [] := by
  have hb : b < 18446744073709551616 := by omega
  refine callV tabOK mixedOK Tryd.func72 rfl (by kernel_rfl) rfl rfl (by kernel_rfl) rfl ?_
  intro W0 w0 ρ0 hE
  conv => whnf
  refine ⟨[], _, [], [], s_Cmp a b ha hb, nil_fk, nil_new, nil_upd, ?_⟩
  have hs : decide (((a : Int) - b).sign < 0) = false := by
    rw [decide_eq_false_iff_not, Int.not_lt]
    exact Int.sign_nonneg_iff.2 (by omega)
  conv => whnf
  rw [hs]
  refine ⟨fun h => (by cases h), fun _ => ?_⟩
  conv => whnf
  rw [big_eq, decide_eq_true ha]
  refine ⟨fun _ => ?_, fun h => by cases h⟩
  conv => whnf
  refine recast_tup2 (hasC_nat ?_ rfl (by omega)) rfl (fun _ _ h => h) rfl
  rw [low_small ha, low_small hb, wrap_u64 (by omega) (by omega)]
  omega

theorem s_Div (a b : Nat) (ha : a < 18446744073709551616) (hb : b < 18446744073709551616) (h0 : b ≠ 0) :
    CallOK Tryd.prog 69 [.nat a, .nat b] [] (.tup [.nat (a / b), .nat (a % b), .val (.bool true)]) [] [] := by
  refine callV tabOK mixedOK Tryd.func69 rfl (by kernel_rfl) rfl rfl (by kernel_rfl) rfl ?_
  intro W0 w0 ρ0 hE
  conv => whnf
  refine ⟨[], _, [], [], c_nZero b, nil_fk, nil_new, nil_upd, ?_⟩
  rw [decide_eq_false h0]
  conv => whnf
  refine ⟨fun h => (by cases h), fun _ => ?_⟩
  conv => whnf
  refine ⟨[], _, [], [], s_Cmp a b ha hb, nil_fk, nil_new, nil_upd, ?_⟩
  conv => whnf
  refine ⟨fun h => ?_, fun h => ?_⟩
  · have hlt : a < b := by
      have h := of_decide_eq_true h
      have := Int.sign_neg_iff.1 h
      omega
    conv => whnf
    refine ⟨by kernel_rfl, ?_⟩
    conv => whnf
    rw [Nat.div_eq_of_lt hlt, Nat.mod_eq_of_lt hlt]
    exact Recast.refl _
  · have hle : b ≤ a := by
      have h := of_decide_eq_false h
      have := Int.sign_nonneg_iff.1 (Int.not_lt.1 h)
      omega
    conv => whnf
    rw [big_eq, decide_eq_true ha]
    refine ⟨fun _ => ?_, fun h => by cases h⟩
    conv => whnf
    rw [low_small hb]
    refine ⟨by omega, ?_⟩
    conv => whnf
    refine ⟨by rw [low_small hb]; omega, ?_⟩
    conv => whnf
    refine ⟨by kernel_rfl, ?_⟩
    conv => whnf
    have hd : a / b ≤ a := Nat.div_le_self a b
    have hm : a % b ≤ a := Nat.mod_le a b
    refine recast_tup3 (hasC_nat ?_ rfl (by omega)) rfl (hasC_nat ?_ rfl (by omega)) rfl (fun _ _ h => h) rfl
    · rw [low_small ha, show (a : Int).tdiv (b : Int) = ((a / b : Nat) : Int) from rfl, wrap_u64 (Int.natCast_nonneg _) (by exact Int.ofNat_lt.2 (Nat.lt_of_le_of_lt hd ha))]
    · rw [low_small ha, low_small hb]; rfl

theorem s_Gcd (a b : Nat) (ha : a < 18446744073709551616) (hb : b < 18446744073709551616) :
    CallOK Tryd.prog 77 [.nat a, .nat b] [] (.nat (Nat.gcd a b)) [] [] := by
  refine callV tabOK mixedOK Tryd.func77 rfl (by kernel_rfl) rfl rfl (by kernel_rfl) rfl ?_
  intro W0 w0 ρ0 hE
  conv => whnf
  refine SW_loopN hE (fun k => k) [2, 3, 4] [2, 3, 4] (fun m fr hp => ∃ x, x < 18446744073709551616 ∧ m < 18446744073709551616 ∧ Nat.gcd x m = Nat.gcd a b ∧ fr = [(2, .ptr 2 0 0 0), (3, .ptr 3 0 0 0), (4, .ptr 4 0 0 0)] ∧ hp = [(2, ⟨45, true, .one [.nat x]⟩), (3, ⟨45, true, .one [.nat m]⟩), (4, ⟨45, true, .one [.nat 0]⟩)]) b ?_ ?_ ?_
  · kernel_rfl
  · exact ⟨a, ha, hb, rfl, rfl, rfl⟩
  rintro m _ _ ⟨x, hx, hm, hg, rfl, rfl⟩
  conv => whnf
  refine ⟨[], _, [], [], c_nZero m, nil_fk, nil_new, nil_upd, ?_⟩
  conv => whnf
  refine ⟨fun h => ?_, fun h => ?_⟩
  · have h0 : m ≠ 0 := by simpa using h
    conv => whnf
    refine ⟨[], _, [], [], s_Div x m hx hm h0, nil_fk, nil_new, nil_upd, ?_⟩
    conv => whnf
    refine ⟨by kernel_rfl, ?_⟩
    have hlt := Nat.mod_lt x (Nat.pos_of_ne_zero h0)
    refine ⟨x % m, fun k => k, [2, 3, 4], [2, 3, 4], hlt, by kernel_rfl, m, hm, by omega, ?_, rfl, rfl⟩
    rw [← hg, Nat.gcd_comm m, ← Nat.gcd_rec, Nat.gcd_comm]
  · have h0 : m = 0 := by simpa using h
    subst h0
    conv => whnf
    rw [← hg, Nat.gcd_zero_right]
    exact Recast.refl _

theorem s_SubF (a b : Nat) (ha : a < 18446744073709551616) (hb : b < 18446744073709551616) (h : a < b) :
    CallOK Tryd.prog 72 [.nat a, .nat b] [] (.tup [.nat 0, .val (.bool false)]) [] [] := by
  refine callV tabOK mixedOK Tryd.func72 rfl (by kernel_rfl) rfl rfl (by kernel_rfl) rfl ?_
  intro W0 w0 ρ0 hE
  conv => whnf
  refine ⟨[], _, [], [], s_Cmp a b ha hb, nil_fk, nil_new, nil_upd, ?_⟩
  have hs : decide (((a : Int) - b).sign < 0) = true := by
    rw [decide_eq_true_eq]
    exact Int.sign_neg_iff.2 (by omega)
  conv => whnf
  rw [hs]
  refine ⟨fun _ => ?_, fun h => by cases h⟩
  conv => whnf
  exact Recast.refl _

theorem c_DivZ (a : Nat) : CallOK Tryd.prog 69 [.nat a, .nat 0] [] (.tup [.nat 0, .nat 0, .val (.bool false)]) [] [] := by
  refine callV tabOK mixedOK Tryd.func69 rfl (by kernel_rfl) rfl rfl (by kernel_rfl) rfl ?_
  intro W0 w0 ρ0 hE
  conv => whnf
  refine ⟨[], _, [], [], c_nZero 0, nil_fk, nil_new, nil_upd, ?_⟩
  conv => whnf
  refine ⟨fun _ => ?_, fun h => by cases h⟩
  conv => whnf
  exact Recast.refl _

end Go.Proofs.YtghdcjhlhcoijaaDoor
