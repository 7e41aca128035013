/- Contracts: nats.of for at most two words. -/
import Derived.Test.YtghdcjhlhcoijaaDoorCk
namespace Go.Proofs.YtghdcjhlhcoijaaDoor
open Go.Sx
set_option maxRecDepth 100000
set_option maxHeartbeats 2000000

/-- The number of the first words. -/
def valN (xs : List Int) : Nat → Nat
  | 0 => 0
  | k + 1 => valN xs k + (xs.getD k 0).toNat * 2 ^ (32 * k)

theorem getD_bd {xs : List Int} (hx : ∀ x ∈ xs, 0 ≤ x ∧ x < 4294967296) (i : Nat) : 0 ≤ xs.getD i 0 ∧ xs.getD i 0 < 4294967296 := by
  rw [List.getD_eq_getElem?_getD]
  cases h : xs[i]? with
  | none => simp
  | some v => simpa using hx v (List.mem_of_getElem? h)

theorem val_step (xs : List Int) (hx : ∀ x ∈ xs, 0 ≤ x ∧ x < 4294967296) (i : Nat) (hi : i < 2) :
    ior .u64 (valN xs i : Nat) (ishl .u64 (IntKind.u64.wrap (xs.getD i 0)) ((32 * i : Nat) : Int)) = (valN xs (i + 1) : Nat) := by
  obtain ⟨a0, a1⟩ := getD_bd hx 0
  obtain ⟨b0, b1⟩ := getD_bd hx 1
  have hc : i = 0 ∨ i = 1 := by omega
  rcases hc with rfl | rfl
  · obtain ⟨w, hw⟩ := Int.eq_ofNat_of_zero_le a0
    have e : ishl .u64 (IntKind.u64.wrap (xs.getD 0 0)) ((32 * 0 : Nat) : Int) = (w : Int) := by
      rw [hw, wrap_u64 (by omega) (by omega)]
      show IntKind.u64.wrap ((w : Int) * 1) = w
      rw [Int.mul_one, wrap_u64 (by omega) (by omega)]
    rw [e, show valN xs 0 = 0 from rfl, ior_u64 (by omega) (by omega), Nat.zero_or]
    simp only [valN, hw, Int.toNat_natCast, Nat.mul_zero, Nat.pow_zero, Nat.mul_one, Nat.zero_add]
  · obtain ⟨w, hw⟩ := Int.eq_ofNat_of_zero_le b0
    obtain ⟨v, hv⟩ := Int.eq_ofNat_of_zero_le a0
    have e : ishl .u64 (IntKind.u64.wrap (xs.getD 1 0)) ((32 * 1 : Nat) : Int) = ((4294967296 * w : Nat) : Int) := by
      rw [hw, wrap_u64 (by omega) (by omega)]
      show IntKind.u64.wrap ((w : Int) * 4294967296) = _
      rw [wrap_u64 (by omega) (by omega)]
      omega
    have e1 : valN xs 1 = v := by simp only [valN, hv, Int.toNat_natCast, Nat.mul_zero, Nat.pow_zero, Nat.mul_one, Nat.zero_add]
    have e2 : valN xs (1 + 1) = v + w * 4294967296 := by simp only [valN, hv, hw, Int.toNat_natCast, Nat.mul_zero, Nat.pow_zero, Nat.mul_one, Nat.zero_add, Nat.reducePow]
    rw [e, e1, e2, ior_u64 (by omega) (by omega), Nat.or_comm]
    have := Nat.two_pow_add_eq_or_of_lt (i := 32) (b := v) (by omega) w
    rw [show 4294967296 * w = 2 ^ 32 * w from rfl, ← this]
    omega

theorem s_of (xs : List Int) (n : Nat) (hn : n ≤ xs.length) (hl : xs.length < 4611686018427387904) (hx : ∀ x ∈ xs, 0 ≤ x ∧ x < 4294967296) (K : Nat) (wr : Bool) (hk : cutN xs n ≤ 2) :
    CallOK Tryd.prog 76 [.slc K 1 0 n] [(K, ⟨22, wr, .ints .u32 xs⟩)] (.nat (valN xs (cutN xs n))) [] [] := by
  refine CallOK.anyWr ?_
  refine callK tabOK mixedOK Tryd.func76 rfl (by kernel_rfl) (args := [.slc 0 1 0 n]) (fk := [(0, ⟨22, false, .ints .u32 xs⟩)]) (c := .nat (valN xs (cutN xs n))) (new := []) (upd := []) ?_ rfl (fun _ => K) ?_ ?_
  · exact ⟨rfl, rfl, rfl, rfl, rfl, (fun _ _ h => by cases h), (fun k b h hw => by simp at h; rw [h.2] at hw; cases hw), rfl, rfl, rfl, rfl⟩
  · exact ⟨(fun q q' b b' h h' hne => by simp at h h'; omega), (fun _ _ h => by simp [keysOf] at h), (fun _ _ h => by simp [keysOf] at h)⟩
  intro W0 w0 ρ0 hE
  conv => whnf
  refine ⟨_, _, [], [], c_cut xs n hn hl 0 false, one_fk rfl, nil_new, nil_upd, ?_⟩
  have hle : cutN xs n ≤ n := by
    clear hk hn
    induction n with
    | zero => simp [cutN]
    | succ n ih => simp only [cutN]; split <;> omega
  generalize cutN xs n = k at *
  conv => whnf
  refine ⟨fun h => ?_, fun h => ?_⟩
  · conv => whnf
    have hk2 : k ≤ 2 := hk
    refine SW_loopN hE (fun k => k) [2, 3, 14, 15, 16] [0, 2] (fun m fr hp => ∃ i, m = k - i ∧ i ≤ k ∧ fr = [(2, .ptr 2 0 0 0), (3, .val (.int .u64 (valN xs i : Nat))), (14, .slc 0 1 0 k), (15, .val (.int .i64 k)), (16, .val (.int .i64 (i : Nat)))] ∧ hp = [(0, ⟨22, false, .ints .u32 xs⟩), (2, ⟨45, true, .one [.nat 0]⟩)]) k ?_ ?_ ?_
    · kernel_rfl
    · exact ⟨0, rfl, by omega, rfl, rfl⟩
    rintro m _ _ ⟨i, rfl, hi, rfl, rfl⟩
    conv => whnf
    refine ⟨fun h => ?_, fun h => ?_⟩
    · have hi' : i < k := by have := of_decide_eq_true h; omega
      conv => whnf
      refine ⟨⟨by omega, by omega⟩, ?_⟩
      conv => whnf
      refine ⟨by omega, ?_⟩
      conv => whnf
      have hw : IntKind.i64.wrap (32 * (i : Int)) = ((32 * i : Nat) : Int) := by rw [wrap_i64 (by omega) (by omega)]; omega
      rw [hw]
      refine ⟨by omega, ?_⟩
      conv => whnf
      have hi2 : IntKind.i64.wrap ((i : Int) + 1) = ((i + 1 : Nat) : Int) := by rw [wrap_i64 (by omega) (by omega)]; omega
      rw [show 0 + (i : Int).toNat = i from by omega, hi2, val_step xs hx i (by omega)]
      exact ⟨k - (i + 1), fun k => k, [2, 3, 14, 15, 16], [0, 2], by omega, by kernel_rfl, i + 1, rfl, by omega, rfl, rfl⟩
    · have hi' : i = k := by have := of_decide_eq_false h; omega
      subst hi'
      conv => whnf
      have hb : valN xs i < 18446744073709551616 := by
        obtain ⟨a0, a1⟩ := getD_bd hx 0
        obtain ⟨b0, b1⟩ := getD_bd hx 1
        have : i = 0 ∨ i = 1 ∨ i = 2 := by omega
        rcases this with rfl | rfl | rfl
        · simp only [valN]; omega
        · simp only [valN, Nat.mul_zero, Nat.pow_zero]; omega
        · simp only [valN, Nat.mul_zero, Nat.pow_zero, Nat.reduceMul, Nat.reducePow]; omega
      exact ⟨recast_nat hb, (fun _ _ h => by cases h), (fun _ _ h => by cases h)⟩
  · exfalso
    have := of_decide_eq_false h
    omega
end Go.Proofs.YtghdcjhlhcoijaaDoor
