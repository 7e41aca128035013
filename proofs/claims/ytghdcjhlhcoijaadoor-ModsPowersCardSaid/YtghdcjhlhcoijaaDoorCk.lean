/- Contracts: nats.cut. -/
import Derived.Test.YtghdcjhlhcoijaaDoorCh
namespace Go.Proofs.YtghdcjhlhcoijaaDoor
open Go.Sx
set_option maxRecDepth 100000
set_option maxHeartbeats 2000000

/-- How many words are left when the leading zeros are cut. -/
def cutN (xs : List Int) : Nat → Nat
  | 0 => 0
  | n + 1 => if xs.getD n 0 = 0 then cutN xs n else n + 1

theorem c_cut (xs : List Int) (n : Nat) (hn : n ≤ xs.length) (hl : xs.length < 4611686018427387904) (K : Nat) (wr : Bool) :
    CallOK Tryd.prog 90 [.slc K 1 0 n] [(K, ⟨22, wr, .ints .u32 xs⟩)] (.slc K 1 0 (cutN xs n)) [] [] := by
  refine CallOK.anyWr ?_
  refine callK tabOK mixedOK Tryd.func90 rfl (by kernel_rfl) (args := [.slc 0 1 0 n]) (fk := [(0, ⟨22, false, .ints .u32 xs⟩)]) (c := .slc 0 1 0 (cutN xs n)) (new := []) (upd := []) ?_ rfl (fun _ => K) ?_ ?_
  · exact ⟨rfl, rfl, rfl, rfl, rfl, (fun _ _ h => by cases h), (fun k b h hw => by simp at h; rw [h.2] at hw; cases hw), rfl, rfl, rfl, rfl⟩
  · exact ⟨(fun q q' b b' h h' hne => by simp at h h'; omega), (fun _ _ h => by simp [keysOf] at h), (fun _ _ h => by simp [keysOf] at h)⟩
  intro W0 w0 ρ0 hE
  conv => whnf
  refine SW_loopN hE (fun k => k) [0] [0] (fun m fr hp => m ≤ n ∧ cutN xs m = cutN xs n ∧ fr = [(0, .slc 0 1 0 m)] ∧ hp = [(0, ⟨22, false, .ints .u32 xs⟩)]) n ?_ ?_ ?_
  · kernel_rfl
  · exact ⟨by omega, rfl, rfl, rfl⟩
  rintro m _ _ ⟨hm, hc, rfl, rfl⟩
  conv => whnf
  refine ⟨fun h => ?_, fun h => ?_⟩
  · have h0 : 0 < m := by have := of_decide_eq_true h; omega
    obtain ⟨m, rfl⟩ : ∃ k, m = k + 1 := ⟨m - 1, by omega⟩
    have hd : decide (((m + 1 : Nat) : Int) > 0) = true := decide_eq_true (by omega)
    have hw : IntKind.i64.wrap (((m + 1 : Nat) : Int) - 1) = (m : Int) := by rw [wrap_i64 (by omega) (by omega)]; omega
    rw [hd]
    conv => whnf
    refine ⟨fun _ => ?_, fun h => by cases h⟩
    conv => whnf
    refine ⟨fun _ => ?_, fun h => by cases h⟩
    conv => whnf
    refine ⟨fun _ => ?_, fun h => by cases h⟩
    conv => whnf
    refine ⟨fun _ => ?_, fun h => by cases h⟩
    conv => whnf
    rw [hw]
    refine ⟨⟨by omega, by omega⟩, ?_⟩
    conv => whnf
    refine ⟨fun _ => ?_, fun h => by cases h⟩
    conv => whnf
    refine ⟨by omega, ?_⟩
    conv => whnf
    rw [show 0 + (m : Int).toNat = m from by omega]
    refine ⟨fun _ => ?_, fun h => by cases h⟩
    conv => whnf
    refine ⟨.val (.bool (xs.getD m 0 == 0)), [], [], [], op_pick rfl (ev_ok rfl) (fun _ => ev_ok rfl) (fun hb => by cases hb) rfl (c2 := .any), nil_fk, nil_new, nil_upd, ?_⟩
    conv => whnf
    refine ⟨fun h => ?_, fun h => ?_⟩
    · have hx : xs.getD m 0 = 0 := by simpa using h
      conv => whnf
      rw [hw]
      refine ⟨by omega, ?_⟩
      conv => whnf
      rw [show ((m : Int) - 0).toNat = m from by omega]
      refine ⟨m, fun k => k, [0], [0], by omega, by kernel_rfl, by omega, ?_, rfl, rfl⟩
      rw [← hc, cutN, if_pos hx]
    · have hx : ¬ xs.getD m 0 = 0 := by simpa using h
      conv => whnf
      rw [← hc, cutN, if_neg hx]
      exact ⟨Recast.refl _, (fun _ _ h => by cases h), (fun _ _ h => by cases h)⟩
  · have h0 : m = 0 := by have := of_decide_eq_false h; omega
    subst h0
    rw [show decide (((0 : Nat) : Int) > 0) = false from rfl]
    conv => whnf
    iterate 6
      refine ⟨fun h => (by cases h), fun _ => ?_⟩
      conv => whnf
    refine ⟨.val (.bool false), [], [], [], op_pick rfl (ev_ok rfl) (fun hb => by cases hb) (fun _ => ev_ok rfl) rfl (c1 := .any), nil_fk, nil_new, nil_upd, ?_⟩
    conv => whnf
    refine ⟨fun h => (by cases h), fun _ => ?_⟩
    conv => whnf
    rw [← hc]
    exact ⟨Recast.refl _, (fun _ _ h => by cases h), (fun _ _ h => by cases h)⟩
end Go.Proofs.YtghdcjhlhcoijaaDoor
