/- Contracts: bits.TrailingZeros32, mods.Prime's closure. -/
import Derived.Test.YtghdcjhlhcoijaaDoorCc
namespace Go.Proofs.YtghdcjhlhcoijaaDoor
open Go.Sx
set_option maxRecDepth 100000

theorem and_compl (m k : Nat) (h : m < 2 ^ k) : m &&& (2 ^ k - (m + 1)) = 0 := by
  apply Nat.eq_of_testBit_eq
  intro i
  rw [Nat.testBit_and, Nat.testBit_two_pow_sub_succ h]
  cases m.testBit i <;> simp

theorem odd_and (m k : Nat) (h : m < 2 ^ k) : (2 * m + 1) &&& (2 ^ (k + 1) - (2 * m + 1)) = 1 := by
  have hp : 2 ^ (k + 1) = 2 * 2 ^ k := by rw [Nat.pow_succ, Nat.mul_comm]
  have h2 : 2 ^ (k + 1) - (2 * m + 1) = 2 * (2 ^ k - (m + 1)) + 1 := by omega
  rw [h2]
  have hc := and_compl m k h
  apply Nat.eq_of_testBit_eq
  intro i
  rw [Nat.testBit_and]
  cases i with
  | zero => simp
  | succ i =>
    have e : ∀ a : Nat, (2 * a + 1).testBit (i + 1) = a.testBit i := fun a => by rw [Nat.testBit_succ]; congr 1; omega
    rw [e, e, ← Nat.testBit_and, hc]
    simp [Nat.testBit_succ]

theorem low_bit (t m k : Nat) (h : m < 2 ^ k) : (2 ^ t * (2 * m + 1)) &&& (2 ^ (t + (k + 1)) - 2 ^ t * (2 * m + 1)) = 2 ^ t := by
  have h2 : 2 ^ (t + (k + 1)) - 2 ^ t * (2 * m + 1) = 2 ^ t * (2 ^ (k + 1) - (2 * m + 1)) := by rw [Nat.pow_add, Nat.mul_sub]
  rw [h2]
  have := odd_and m k h
  have e : ∀ a : Nat, 2 ^ t * a = a <<< t := fun a => by rw [Nat.shiftLeft_eq, Nat.mul_comm]
  rw [e, e, ← Nat.shiftLeft_and_distrib, this, Nat.shiftLeft_eq, Nat.one_mul]

def deBruijn : List Int := [0, 1, 28, 2, 29, 14, 24, 3, 30, 22, 20, 15, 25, 17, 4, 8, 31, 27, 13, 23, 21, 19, 16, 7, 26, 12, 18, 6, 11, 5, 10, 9]

theorem deBruijn_at : ∀ t : Nat, t < 32 → deBruijn[(2 ^ t * 125613361 % 4294967296) / 134217728]? = some (t : Int) := by decide

theorem c_TZ' (X : Nat) (t J : Int) (hx : 0 < X) (h : X < 4294967296) (hj0 : 0 ≤ J) (hj : J < 32) (e : ishr .u32 (IntKind.u32.wrap (iand .u32 (X : Int) (IntKind.u32.wrap (0 - (X : Int))) * 125613361)) 27 = J) (hd : deBruijn[J.toNat]? = some t) (ht0 : 0 ≤ t) (ht : t < 32) :
    CallOK Tryd.prog 32 [.val (.int .u32 X)] [] (.val (.int .i64 t)) [] [] := by
  refine callV tabOK mixedOK Tryd.func32 rfl (by kernel_rfl) rfl rfl (by kernel_rfl) rfl ?_
  intro W0 w0 ρ0 hE
  conv => whnf
  refine ⟨fun h => ?_, fun h => ?_⟩
  · exfalso; have := of_decide_eq_true h; omega
  · conv => whnf
    refine ⟨by decide, ?_⟩
    conv => whnf
    rw [e]
    refine ⟨_, [], [], op_globIndex rfl (ev_ok rfl) (ev_ok rfl) tok93 rfl tok5 hj0 (by exact hj), nil_fk, nil_new, ?_⟩
    conv => whnf
    refine ⟨_, [], [], op_globLoad rfl (ev_ok rfl) tok5 rfl (kd := .u8) (l := deBruijn) (v := t) (List.mem_cons_self ..) (by simpa [ti5] using hd), nil_fk, nil_new, ?_⟩
    conv => whnf
    rw [wrap_i64 (by omega) (by omega)]
    exact Recast.refl _

theorem c_TZ (t m : Nat) (h : 2 ^ t * (2 * m + 1) < 4294967296) :
    CallOK Tryd.prog 32 [.val (.int .u32 (2 ^ t * (2 * m + 1) : Nat))] [] (.val (.int .i64 t)) [] [] := by
  have ht : t < 32 := by
    have h1 : 2 ^ t * 1 ≤ 2 ^ t * (2 * m + 1) := Nat.mul_le_mul_left _ (by omega)
    exact (Nat.pow_lt_pow_iff_right (a := 2) (by decide)).1 (by omega)
  have hx : 0 < 2 ^ t * (2 * m + 1) := Nat.mul_pos (Nat.pow_pos (by decide)) (by omega)
  have hm : m < 2 ^ (31 - t) := by
    have h1 : 2 ^ t * (2 * m + 1) < 2 ^ t * 2 ^ (32 - t) := by rw [← Nat.pow_add, show t + (32 - t) = 32 from by omega]; exact h
    have h2 := Nat.lt_of_mul_lt_mul_left h1
    rw [show 32 - t = (31 - t) + 1 from by omega, Nat.pow_succ] at h2
    omega
  have hl := low_bit t m (31 - t) hm
  rw [show t + (31 - t + 1) = 32 from by omega] at hl
  generalize 2 ^ t * (2 * m + 1) = X at *
  have e0 : IntKind.u32.wrap (0 - (X : Int)) = ((2 ^ 32 - X : Nat) : Int) := by rw [wrap_u32']; omega
  have e1 : iand .u32 (X : Int) ((2 ^ 32 - X : Nat) : Int) = ((2 ^ t : Nat) : Int) := by rw [iand_u32 h (by omega), hl]
  have e2 : IntKind.u32.wrap (((2 ^ t : Nat) : Int) * 125613361) = ((2 ^ t * 125613361 % 4294967296 : Nat) : Int) := by rw [wrap_u32']; omega
  have e3 : ishr .u32 ((2 ^ t * 125613361 % 4294967296 : Nat) : Int) 27 = ((2 ^ t * 125613361 % 4294967296 / 134217728 : Nat) : Int) := ishr_nat .u32 (s := 27) (by decide)
  exact c_TZ' X t ((2 ^ t * 125613361 % 4294967296 / 134217728 : Nat) : Int) hx h (by omega) (by omega) (by rw [e0, e1, e2, e3]) (by rw [Int.toNat_natCast]; exact deBruijn_at t ht) (by omega) (by omega)

theorem c_minus (x n : Int) (K : Nat) (wr : Bool) (h1 : 1 ≤ n) (h2 : n < 4294967296) :
    CallOK Tryd.prog 33 [.val (.int .u32 x), .ptr K 0 0 0] [(K, ⟨22, wr, .one [.val (.int .u32 n)]⟩)] (.val (.bool (x == n - 1))) [] [] := by
  refine CallOK.anyWr ?_
  refine callK tabOK mixedOK Tryd.func33 rfl (by kernel_rfl) (args := [.val (.int .u32 x), .ptr 0 0 0 0]) (fk := [(0, ⟨22, false, .one [.val (.int .u32 n)]⟩)]) (c := .val (.bool (x == n - 1))) (new := []) (upd := []) ?_ rfl (fun _ => K) ?_ ?_
  · exact ⟨rfl, rfl, rfl, rfl, rfl, (fun _ _ h => by cases h), (fun k b h hw => by simp at h; rw [h.2] at hw; cases hw), rfl, rfl, rfl, rfl⟩
  · exact ⟨(fun q q' b b' h h' hne => by simp at h h'; omega), (fun _ _ h => by simp [keysOf] at h), (fun _ _ h => by simp [keysOf] at h)⟩
  intro W0 w0 ρ0 hE
  conv => whnf
  rw [wrap_u32 (by omega) (by omega)]
  exact ⟨Recast.refl _, (fun _ _ h => by cases h), (fun _ _ h => by cases h)⟩
end Go.Proofs.YtghdcjhlhcoijaaDoor
