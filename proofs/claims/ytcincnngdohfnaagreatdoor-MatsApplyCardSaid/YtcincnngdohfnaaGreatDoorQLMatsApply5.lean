/- MatsApply returns true for every input and leaves its arguments as they were: the row, and the card that ties its tables to the program's text. -/
import Derived.Test.YtcincnngdohfnaaGreatDoorCards
import Derived.Test.YtcincnngdohfnaaGreatDoorTie
import Derived.WalkKit
import Derived.ProofKit
import Derived.OpenShut
import Derived.Deep.DeepHandedRow
import Derived.Lib.LaidTab
import Derived.Test.YtcincnngdohfnaaGreatDoorQLMatsApply4
namespace Go.Proofs.YtcincnngdohfnaaGreatDoor
open Go.Sx
set_option linter.unusedSimpArgs false
set_option linter.unusedVariables false
set_option maxRecDepth 100000
set_option maxHeartbeats 4000000

/-- A matrix as plain data. -/
abbrev MM := Int × Int × List (Int × Int)
abbrev mQ : MM → SV := ag3 (iel .u8) (iel .u8) (mvec 2 qA)
abbrev nilQ : MM := (0, 0, [])
def mOK (m : MM) : Prop := (0 ≤ m.1 ∧ m.1 < 256) ∧ (0 ≤ m.2.1 ∧ m.2.1 < 256) ∧ m.2.2.length ≤ maxLen ∧ ∀ q ∈ m.2.2, qOK q
/-- Its elements, with zeros for missing ones. -/
def eQ (l : List (Int × Int)) (p : Nat) : Rat := qV (l.getD p (0, 0))
def someL (l : List (Int × Int)) (n : Nat) : List Rat := (List.range n).map (eQ l)
theorem someL_len (l : List (Int × Int)) (n : Nat) : (someL l n).length = n := by simp [someL]
theorem someL_get {l : List (Int × Int)} {n p : Nat} (h : p < n) : (someL l n).getD p 0 = eQ l p := by simp [someL, List.getD_eq_getElem?_getD, h]
theorem qOK_at {l : List (Int × Int)} (h : ∀ q ∈ l, qOK q) (p : Nat) : qOK (l.getD p (0, 0)) := by
  by_cases hp : p < l.length
  · exact h _ (getD_mem hp)
  · rw [List.getD_eq_getElem?_getD, List.getElem?_eq_none (by omega)]; exact ⟨⟨by decide, by decide⟩, by decide, by decide⟩
theorem Sm_some {l : List (Int × Int)} (h : ∀ q ∈ l, qOK q) (n : Nat) : Sm 130 (someL l n) := by
  intro p hp
  rw [someL_len] at hp
  rw [someL_get hp]; exact fs_qV (qOK_at h p)
theorem OKM_some (l : List (Int × Int)) {r c : Nat} (hr : r ≤ 2048) (hc : c ≤ 2048) : OKM r c (someL l (r * c)) := ⟨hr, hc, someL_len ..⟩

theorem c_few (ms : List MM) (h : ms.length < 1000) (hl : ∀ m ∈ ms, m.2.2.length ≤ maxLen) : CallOK Tryz.prog 11 [mvec 3 mQ ms] [] (.val (.bool (ms.all fun m => decide (m.2.2.length ≤ 40)))) [] [] := by
  refine callV (Z := []) tabOK mixedOK Tryz.func11 rfl (by kernel_rfl) rfl rfl (by kernel_rfl) rfl ?_
  intro W0 w0 ρ0 hE
  conv => whnf
  skip
  refine SW_loopN hE (fun k => k) [0, 3] [] (fun m fr hp => ∃ i : Nat, m = ms.length - i ∧ i ≤ ms.length ∧ (∀ j, j < i → decide ((ms.getD j nilQ).2.2.length ≤ 40) = true) ∧ fr = [(0, mvec 3 mQ ms), (3, iv (i : Nat))] ∧ hp = []) ms.length ?_ ?_ ?_
  · kernel_rfl
  · exact ⟨0, rfl, Nat.zero_le _, (fun j hj => by omega), rfl, rfl⟩
  rintro m _ _ ⟨i, rfl, hi, hs, rfl, rfl⟩
  conv => whnf
  by_cases hlt : i < ms.length
  · have t1 := dlt hlt
    have t2 := winc (i := i) (by omega)
    by_cases hL : (ms.getD i nilQ).2.2.length ≤ 40
    · have t3 : decide (((ms.getD i nilQ).2.2.length : Int) > 40) = false := decide_eq_false (by omega)
      (repeat ((first | refine step_w1 rfl rfl ?_ | refine step_w2 rfl rfl ?_ | refine g_o (op_lenM rfl rfl rfl (ev_ok rfl) (tgt rfl) rfl) ?_ | refine g_o (op_loadA rfl (ev_ok rfl) (tgt rfl) rfl (Nat.succ_ne_zero _) rfl) ?_ | refine g_o (op_fieldA rfl (ev_ok rfl) (tgt rfl) rfl rfl (Nat.succ_ne_zero _) rfl) ?_ | refine g_o (op_indexN (α := MM) (d := nilQ) rfl (ev_ok rfl) (ev_ok rfl) (tgt rfl) rfl (tgt rfl) rfl (by omega)) ?_ | rw [t1] | rw [t3] | rw [t2]); conv => whnf))
      refine ⟨ms.length - (i + 1), fun k => k, [0, 3], [], by omega, by kernel_rfl, i + 1, rfl, hlt, ?_, rfl, rfl⟩
      intro j hj
      by_cases hji : j = i
      · rw [hji]; exact decide_eq_true hL
      · exact hs j (by omega)
    · have t3 : decide (((ms.getD i nilQ).2.2.length : Int) > 40) = true := decide_eq_true (by omega)
      have e : (ms.all fun m => decide (m.2.2.length ≤ 40)) = false := all_no (d := nilQ) hlt (decide_eq_false hL)
      rw [e]
      (repeat ((first | refine step_w1 rfl rfl ?_ | refine g_o (op_lenM rfl rfl rfl (ev_ok rfl) (tgt rfl) rfl) ?_ | refine g_o (op_loadA rfl (ev_ok rfl) (tgt rfl) rfl (Nat.succ_ne_zero _) rfl) ?_ | refine g_o (op_fieldA rfl (ev_ok rfl) (tgt rfl) rfl rfl (Nat.succ_ne_zero _) rfl) ?_ | refine g_o (op_indexN (α := MM) (d := nilQ) rfl (ev_ok rfl) (ev_ok rfl) (tgt rfl) rfl (tgt rfl) rfl (by omega)) ?_ | rw [t1] | rw [t3]); conv => whnf)); (first | exact Recast.refl _ | exact Frz.recast (Recast.refl _) rfl | (refine Frz.one rfl rfl ?_; skip) | (refine Frz.tup ?_; skip))
  · have t1 := dge hlt
    obtain rfl : i = ms.length := by omega
    have e : (ms.all fun m => decide (m.2.2.length ≤ 40)) = true := all_at nilQ hs
    rw [e]
    (repeat (first | (refine step_w2 rfl rfl ?_; conv => whnf) | (refine g_o (op_lenM rfl rfl rfl (ev_ok rfl) (tgt rfl) rfl) ?_; conv => whnf) | (rw [t1]; conv => whnf))); (first | exact Recast.refl _ | exact Frz.recast (Recast.refl _) rfl | (refine Frz.one rfl rfl ?_; skip) | (refine Frz.tup ?_; skip))
theorem wrap_u8 {n : Int} (h0 : 0 ≤ n) (h : n < 256) : IntKind.u8.wrap n = n := by
  simp [IntKind.wrap, IntKind.bits, IntKind.signed]; omega
theorem c_Sides (m : MM) (h : mOK m) : CallOK Tryz.prog 13 [mQ m] [] (.tup [iv ((m.1 % 7).toNat : Nat), iv ((m.2.1 % 7).toNat : Nat)]) [] [] := by
  obtain ⟨h1, h2, _⟩ := h
  have e1 : IntKind.i64.wrap (m.1.tmod 7) = ((m.1 % 7).toNat : Nat) := by rw [Int.tmod_eq_emod_of_nonneg h1.1, wrap_i64 (by omega) (by omega)]; omega
  have e2 : IntKind.i64.wrap (m.2.1.tmod 7) = ((m.2.1 % 7).toNat : Nat) := by rw [Int.tmod_eq_emod_of_nonneg h2.1, wrap_i64 (by omega) (by omega)]; omega
  have e3 : IntKind.u8.wrap (m.1.tmod 7) = m.1.tmod 7 := by rw [Int.tmod_eq_emod_of_nonneg h1.1, wrap_u8 (by omega) (by omega)]
  have e4 : IntKind.u8.wrap (m.2.1.tmod 7) = m.2.1.tmod 7 := by rw [Int.tmod_eq_emod_of_nonneg h2.1, wrap_u8 (by omega) (by omega)]
  refine callV (Z := []) tabOK mixedOK Tryz.func13 rfl (by kernel_rfl) rfl rfl (by kernel_rfl) rfl ?_
  intro W0 w0 ρ0 hE
  conv => whnf
  (repeat ((first | refine step_i (by kernel_rfl) ?_ | refine step_oN (by first | omega | decide | (simp only [tiB5, tiB66, tiB3, tiB2, tiB9, tiB43, tiB87, tiB29, tiB33, tiB41, tiB35, tiB4, tiB83, tiB85, tiB121, tiB31, tiB82, tiB37, dlen, List.length_replicate, List.length_set, List.length_map, List.length_zipWith, List.length_take, List.length_append, List.length_cons, List.length_nil]; omega)) ?_ | rw [e1] | rw [e2]); conv => whnf)); (first | exact Recast.refl _ | exact Frz.recast (Recast.refl _) rfl | (refine Frz.one rfl rfl ?_; skip) | (refine Frz.tup ?_; skip))
theorem app_one {α : Type} {l : List α} {i : Nat} {d : α} (h : i < l.length) : l.take (i + 1) = (l.take i).take i ++ (([l.getD i d] : List α).drop 0).take 1 := (app_snoc h).symm
theorem c_Some (m : MM) (hm : mOK m) {r c : Nat} (hr : r ≤ 12) (hc : c ≤ 12) : CallOK Tryz.prog 32 [mQ m, iv r, iv c] [] (mA r c (someL m.2.2 (r * c))) [] [] := by
  obtain ⟨A, B, l⟩ := m
  obtain ⟨_, _, hl, hq⟩ := hm
  replace hl : l.length ≤ maxLen := hl
  have hz := someL_len l (r * c)
  have hN : r * c ≤ 12 * 12 := Nat.mul_le_mul hr hc
  have t0 : IntKind.i64.wrap ((r : Int) * (c : Int)) = ((r * c : Nat) : Int) := by rw [← Int.natCast_mul, wrap_i64 (by omega) (by omega)]
  generalize r * c = N at *
  refine callF (Z := [3]) tabOK mixedOK Tryz.func32 rfl (by kernel_rfl) (by first | rfl | (simp [keylessL, keyless, keylessL_map, *]; done)) (by first | rfl | (simp [keylessL, keyless, keylessL_map, *]; done)) (by kernel_rfl) rfl ?_
  intro w0 ρ0 hE
  conv => whnf
  skip
  refine SWx_adoptB (j := 7) (k := 2001) (s := 5) (p := 2) (blk := fblk []) rfl rfl rfl rfl rfl ?_
  refine SW_loopS hE (fun k => k) [1, 2, 3, 6, 7, 8] [6, 7, 2001] (fun m fr hp => ∃ i : Nat, m = N - i ∧ i ≤ N ∧ fr = [(1, iv r), (2, iv c), (3, ptrA [iel .u8 A, iel .u8 B, mvec 2 qA l]), (6, .ptr 6 0 0 0), (7, .ptr 7 0 0 0), (8, iv (i : Nat))] ∧
    hp = [(6, zM), (7, ⟨31, true, .one [iv r, iv c, .slc 2001 5 0 i]⟩), (2001, fblk ((someL l N).take i))]) N ?_ ?_ ?_
  · kernel_rfl
  · exact ⟨0, rfl, Nat.zero_le _, rfl, rfl⟩
  rintro m _ _ ⟨i, rfl, hi, rfl, rfl⟩
  have hlt0 : ((someL l N).take i).length = i := by rw [List.length_take]; omega
  by_cases hlt : i < N
  · have t1 := dlt hlt
    have t2 := winc (i := i) (by omega)
    have o1 := c_QOf (l.getD i (0, 0)) (qOK_at hq i)
    rw [show qV (l.getD i (0, 0)) = (someL l N).getD i 0 from (someL_get hlt).symm] at o1
    have e1 := app_one (d := (0 : Rat)) (show i < (someL l N).length by omega)
    refine SWx.of hE ?_
    conv => whnf
    by_cases hil : i < l.length
    · have t3 := dlt hil
      (repeat ((first | refine step_w1 rfl rfl ?_ | refine step_i (by kernel_rfl) ?_ | refine step_oA (by first | omega | decide | (simp only [tiB5, tiB66, tiB3, tiB2, tiB9, tiB43, tiB87, tiB29, tiB33, tiB41, tiB35, tiB4, tiB83, tiB85, tiB121, tiB31, tiB82, tiB37, dlen, List.length_replicate, List.length_set, List.length_map, List.length_zipWith, List.length_take, List.length_append, List.length_cons, List.length_nil]; omega)) ?_ | refine g_c (by assumption) ?_ | refine g_o (op_lenM rfl rfl rfl (ev_ok rfl) (tgt rfl) rfl) ?_ | refine g_o (op_loadA rfl (ev_ok rfl) (tgt rfl) rfl (Nat.succ_ne_zero _) rfl) ?_ | refine g_o (op_indexN (α := Int × Int) (d := (0, 0)) rfl (ev_ok rfl) (ev_ok rfl) (tgt rfl) rfl (tgt rfl) rfl (by omega)) ?_ | refine g_o (op_fieldA rfl (ev_ok rfl) (tgt rfl) rfl rfl (Nat.succ_ne_zero _) rfl) ?_ | rw [t0] | rw [t1] | rw [t3] | rw [t2] | rw [Nat.zero_add]); conv => whnf))
      refine ⟨N - (i + 1), renBy [(36, 2001)], [1, 2, 3, 6, 7, 8], [6, 7, 36], by omega, by kernel_rfl, i + 1, rfl, hlt, rfl, ?_⟩
      rw [e1]; rfl
    · have t3 := dge hil
      rw [show l.getD i (0, 0) = (0, 0) from by rw [List.getD_eq_getElem?_getD, List.getElem?_eq_none (by omega)]; rfl] at o1
      (repeat ((first | refine step_w1 rfl rfl ?_ | refine step_w2 rfl rfl ?_ | refine step_i (by kernel_rfl) ?_ | refine step_oA (by first | omega | decide | (simp only [tiB5, tiB66, tiB3, tiB2, tiB9, tiB43, tiB87, tiB29, tiB33, tiB41, tiB35, tiB4, tiB83, tiB85, tiB121, tiB31, tiB82, tiB37, dlen, List.length_replicate, List.length_set, List.length_map, List.length_zipWith, List.length_take, List.length_append, List.length_cons, List.length_nil]; omega)) ?_ | refine g_c (by assumption) ?_ | refine g_o (op_lenM rfl rfl rfl (ev_ok rfl) (tgt rfl) rfl) ?_ | refine g_o (op_loadA rfl (ev_ok rfl) (tgt rfl) rfl (Nat.succ_ne_zero _) rfl) ?_ | refine g_o (op_fieldA rfl (ev_ok rfl) (tgt rfl) rfl rfl (Nat.succ_ne_zero _) rfl) ?_ | rw [t0] | rw [t1] | rw [t3] | rw [t2] | rw [Nat.zero_add]); conv => whnf))
      refine ⟨N - (i + 1), renBy [(36, 2001)], [1, 2, 3, 6, 7, 8], [6, 7, 36], by omega, by kernel_rfl, i + 1, rfl, hlt, rfl, ?_⟩
      rw [e1]; rfl
  · have t1 := dge hlt
    obtain rfl : i = N := by omega
    rw [List.take_of_length_le (by omega)]
    refine SWx.of hE ?_
    conv => whnf
    (repeat (first | (refine step_w2 rfl rfl ?_; conv => whnf) | (rw [t0]; conv => whnf) | (rw [t1]; conv => whnf)))
    (first | exact Recast.refl _ | exact Frz.recast (Recast.refl _) rfl | (refine Frz.one rfl rfl ?_; (repeat (first | exact FrzC.keyless rfl | exact FrzL.nil | refine FrzL.cons ?_ ?_ | (refine FrzC.fracs rfl ?_; (first | rfl | omega | (simp <;> fail) | (simp <;> omega))) | refine FrzC.agg ?_))) | (refine Frz.tup ?_; skip))
theorem someL_zero {l : List (Int × Int)} {n i : Nat} (h : l.length ≤ i) : someL l n = (someL l n).take i ++ List.replicate (n - i) 0 := by
  apply List.ext_getElem
  · rw [List.length_append, List.length_take, someL_len, List.length_replicate]; omega
  · intro j h1 h2
    rw [someL_len] at h1
    rw [List.getElem_append]
    split
    · simp
    · rename_i h3
      rw [List.length_take, someL_len] at h3
      simp only [List.getElem_replicate, someL, List.getElem_map, List.getElem_range, eQ]
      rw [List.getD_eq_getElem?_getD, List.getElem?_eq_none (by omega)]; decide +kernel
theorem c_vec (l : List (Int × Int)) (hl : l.length ≤ maxLen) (h : ∀ q ∈ l, qOK q) {n : Nat} (hn : n ≤ 2048) : CallOK Tryz.prog 15 [mvec 2 qA l, iv n] [] (fvec (someL l n)) [] [] := by
  have hz := someL_len l n
  refine callF (Z := []) tabOK mixedOK Tryz.func15 rfl (by kernel_rfl) (by first | rfl | (simp [keylessL, keyless, keylessL_map, *]; done)) (by first | rfl | (simp [keylessL, keyless, keylessL_map, *]; done)) (by kernel_rfl) rfl ?_
  intro w0 ρ0 hE
  conv => whnf
  (repeat (first | (refine step_oA (by first | omega | decide | (simp only [tiB5, tiB66, tiB3, tiB2, tiB9, tiB43, tiB87, tiB29, tiB33, tiB41, tiB35, tiB4, tiB83, tiB85, tiB121, tiB31, tiB82, tiB37, dlen, List.length_replicate, List.length_set, List.length_map, List.length_zipWith, List.length_take, List.length_append, List.length_cons, List.length_nil]; omega)) ?_; conv => whnf) | (rw [Int.toNat_natCast]; conv => whnf)))
  refine SW_loopN hE (fun k => k) [0, 1, 5, 6] [8] (fun m fr hp => ∃ i : Nat, m = n - i ∧ i ≤ n ∧ fr = [(0, mvec 2 qA l), (1, iv n), (5, .slc 8 5 0 n), (6, iv (i : Nat))] ∧ hp = [(8, fblk ((someL l n).take i ++ List.replicate (n - i) 0))]) n ?_ ?_ ?_
  · kernel_rfl
  · exact ⟨0, rfl, Nat.zero_le _, rfl, rfl⟩
  rintro m _ _ ⟨i, rfl, hi, rfl, rfl⟩
  have hlen := fill_len (d := (0 : Rat)) hi hz
  conv => whnf
  by_cases hlt : i < n
  · have t1 := dlt hlt
    have t2 := winc (i := i) (by omega)
    by_cases hil : i < l.length
    · have t3 := dlt hil
      have o1 := c_QOf (l.getD i (0, 0)) (qOK_at h i)
      rw [show qV (l.getD i (0, 0)) = (someL l n).getD i 0 from (someL_get hlt).symm] at o1
      (repeat ((first | refine step_w1 rfl rfl ?_ | refine step_oL (by first | omega | decide | (simp only [tiB5, tiB66, tiB3, tiB2, tiB9, tiB43, tiB87, tiB29, tiB33, tiB41, tiB35, tiB4, tiB83, tiB85, tiB121, tiB31, tiB82, tiB37, dlen, List.length_replicate, List.length_set, List.length_map, List.length_zipWith, List.length_take, List.length_append, List.length_cons, List.length_nil]; omega)) ?_ | refine step_oA (by first | omega | decide | (simp only [tiB5, tiB66, tiB3, tiB2, tiB9, tiB43, tiB87, tiB29, tiB33, tiB41, tiB35, tiB4, tiB83, tiB85, tiB121, tiB31, tiB82, tiB37, dlen, List.length_replicate, List.length_set, List.length_map, List.length_zipWith, List.length_take, List.length_append, List.length_cons, List.length_nil]; omega)) ?_ | refine g_c (by assumption) ?_ | refine g_o (op_pickT rfl (ev_ok rfl) (ev_ok rfl)) ?_ | refine g_o (op_lenM rfl rfl rfl (ev_ok rfl) (tgt rfl) rfl) ?_ | refine g_o (op_loadA rfl (ev_ok rfl) (tgt rfl) rfl (Nat.succ_ne_zero _) rfl) ?_ | refine g_o (op_indexN (α := Int × Int) (d := (0, 0)) rfl (ev_ok rfl) (ev_ok rfl) (tgt rfl) rfl (tgt rfl) rfl (by omega)) ?_ | rw [t1] | rw [t3] | rw [t2] | rw [Int.toNat_natCast] | rw [Nat.zero_add]); conv => whnf))
      refine ⟨n - (i + 1), fun k => k, [0, 1, 5, 6], [8], by omega, by kernel_rfl, i + 1, rfl, hlt, rfl, ?_⟩
      rw [fblk, ← fill_set (e := 0) hlt hz]
      rfl
    · have t3 := dge hil
      rw [← someL_zero (by omega)] at *
      (repeat ((first | refine step_w1 rfl rfl ?_ | refine step_w2 rfl rfl ?_ | refine g_o (op_pickT rfl (ev_ok rfl) (ev_ok rfl)) ?_ | refine g_o (op_lenM rfl rfl rfl (ev_ok rfl) (tgt rfl) rfl) ?_ | rw [t1] | rw [t3]); conv => whnf))
      (first | exact Recast.refl _ | exact Frz.recast (Recast.refl _) rfl | (refine Frz.one rfl rfl ?_; (repeat (first | (refine FrzC.fracs rfl ?_; (first | rfl | omega | (simp <;> fail) | (simp <;> omega)))))) | (refine Frz.tup ?_; skip))
  · have t1 := dge hlt
    obtain rfl : i = n := by omega
    rw [fill_all hz] at *
    (repeat (first | (refine step_w2 rfl rfl ?_; conv => whnf) | (refine g_o (op_pickF rfl (ev_ok rfl) (ev_ok rfl)) ?_; conv => whnf) | (rw [t1]; conv => whnf)))
    (first | exact Recast.refl _ | exact Frz.recast (Recast.refl _) rfl | (refine Frz.one rfl rfl ?_; (repeat (first | (refine FrzC.fracs rfl ?_; (first | rfl | omega | (simp <;> fail) | (simp <;> omega)))))) | (refine Frz.tup ?_; skip))
end Go.Proofs.YtcincnngdohfnaaGreatDoor

namespace Go.Proofs.YtcincnngdohfnaaGreatDoor
open Go.Sx
set_option linter.unusedSimpArgs false
set_option linter.unusedVariables false
set_option maxRecDepth 100000
set_option maxHeartbeats 4000000

def tdF : Nat → Nat → List Nat
  | 0, _ => []
  | f + 1, n => if n = 0 then [] else n % 10000 :: tdF f (n / 10000)
def tdW (n : Nat) : List Nat := tdF n n
/-- Words are 32 bits wide. -/
def W4 (xs : List Int) : Prop := ∀ i, 0 ≤ xs.getD i 0 ∧ xs.getD i 0 < 10000

theorem W4.set {xs : List Int} (h : W4 xs) {i : Nat} {v : Int} (h0 : 0 ≤ v) (h1 : v < 10000) : W4 (xs.set i v) := by
  intro j
  rw [getD_set]
  split
  · exact ⟨h0, h1⟩
  · exact h j

/-- The tdW as the machine has them. -/
def td (n : Nat) : List Int := (tdW n).map Int.ofNat

end Go.Proofs.YtcincnngdohfnaaGreatDoor

namespace Go.Proofs.YtcincnngdohfnaaGreatDoor
open Go.Sx
set_option linter.unusedSimpArgs false
set_option linter.unusedVariables false
set_option maxRecDepth 100000
set_option maxHeartbeats 4000000

end Go.Proofs.YtcincnngdohfnaaGreatDoor

namespace Go.Proofs.YtcincnngdohfnaaGreatDoor
open Go.Sx
set_option linter.unusedSimpArgs false
set_option linter.unusedVariables false
set_option maxRecDepth 100000
set_option maxHeartbeats 4000000

end Go.Proofs.YtcincnngdohfnaaGreatDoor

namespace Go.Proofs.YtcincnngdohfnaaGreatDoor
open Go.Sx
set_option linter.unusedSimpArgs false
set_option linter.unusedVariables false
set_option maxRecDepth 100000
set_option maxHeartbeats 4000000

end Go.Proofs.YtcincnngdohfnaaGreatDoor

namespace Go.Proofs.YtcincnngdohfnaaGreatDoor
open Go.Sx
set_option linter.unusedSimpArgs false
set_option linter.unusedVariables false
set_option maxRecDepth 100000
set_option maxHeartbeats 4000000

end Go.Proofs.YtcincnngdohfnaaGreatDoor

namespace Go.Proofs.YtcincnngdohfnaaGreatDoor
open Go.Sx
set_option linter.unusedSimpArgs false
set_option linter.unusedVariables false
set_option maxRecDepth 100000
set_option maxHeartbeats 4000000

section
variable {a b R d P F T lb : Nat}
end
end Go.Proofs.YtcincnngdohfnaaGreatDoor

namespace Go.Proofs.YtcincnngdohfnaaGreatDoor
open Go.Sx
set_option linter.unusedSimpArgs false
set_option linter.unusedVariables false
set_option maxRecDepth 100000
set_option maxHeartbeats 4000000

end Go.Proofs.YtcincnngdohfnaaGreatDoor

namespace Go.Proofs.YtcincnngdohfnaaGreatDoor
open Go.Sx
set_option linter.unusedSimpArgs false
set_option linter.unusedVariables false
set_option maxRecDepth 100000
set_option maxHeartbeats 4000000

end Go.Proofs.YtcincnngdohfnaaGreatDoor

namespace Go.Proofs.YtcincnngdohfnaaGreatDoor
open Go.Sx
set_option linter.unusedSimpArgs false
set_option linter.unusedVariables false
set_option maxRecDepth 100000
set_option maxHeartbeats 4000000

end Go.Proofs.YtcincnngdohfnaaGreatDoor

namespace Go.Proofs.YtcincnngdohfnaaGreatDoor
open Go.Sx
set_option linter.unusedSimpArgs false
set_option linter.unusedVariables false
set_option maxRecDepth 100000
set_option maxHeartbeats 4000000

end Go.Proofs.YtcincnngdohfnaaGreatDoor

namespace Go.Proofs.YtcincnngdohfnaaGreatDoor
open Go.Sx
set_option linter.unusedSimpArgs false
set_option linter.unusedVariables false
set_option maxRecDepth 100000
set_option maxHeartbeats 4000000

end Go.Proofs.YtcincnngdohfnaaGreatDoor

namespace Go.Proofs.YtcincnngdohfnaaGreatDoor
open Go.Sx
set_option linter.unusedSimpArgs false
set_option linter.unusedVariables false
set_option maxRecDepth 100000
set_option maxHeartbeats 4000000

end Go.Proofs.YtcincnngdohfnaaGreatDoor

namespace Go.Proofs.YtcincnngdohfnaaGreatDoor
open Go.Sx
set_option linter.unusedSimpArgs false
set_option linter.unusedVariables false
set_option maxRecDepth 100000
set_option maxHeartbeats 4000000

end Go.Proofs.YtcincnngdohfnaaGreatDoor

namespace Go.Proofs.YtcincnngdohfnaaGreatDoor
open Go.Sx
set_option linter.unusedSimpArgs false
set_option linter.unusedVariables false
set_option maxRecDepth 100000
set_option maxHeartbeats 4000000

abbrev m4 : List Rat := ofInts [1, 2, 3, 4]
theorem l_works13 : CallOK Tryz.prog 12 [] [] (.val (.bool true)) [] [] := by
  have h4 : OKM 2 2 m4 := ⟨by decide, by decide, rfl⟩
  have s4 : Sm 20 m4 := by unfold Sm; decide +kernel
  have st : Sm 20 (mturn 2 2 m4) := by unfold Sm; decide +kernel
  have sp : Sm 20 (mmul 2 2 2 m4 m4) := by unfold Sm; decide +kernel
  have s1 : Sm 20 (ofInts [1, -1]) := by unfold Sm; decide +kernel
  have s2 : Sm 20 (ofInts [1, 0]) := by unfold Sm; decide +kernel
  have s3 : Sm 20 (ofInts [0, 1]) := by unfold Sm; decide +kernel
  have o1 := m_Of 2 2 [1, 2, 3, 4] (by decide) (by decide) rfl (by decide)
  have o2 := m_Turn h4
  have o3 := m_Mul 2 h4 h4 s4 s4 (by decide) (by decide)
  have v1 := v_Of [1, -1] (by decide) (by decide)
  have v2 := v_Of [1, 0] (by decide) (by decide)
  have v3 := v_Of [0, 1] (by decide) (by decide)
  have o4 := m_Apply 2 h4 (v := ofInts [1, -1]) rfl s4 s1 (by decide) (by decide)
  have o5 := m_Form 2 h4 (v := ofInts [1, 0]) (w := ofInts [0, 1]) rfl rfl s4 s2 s3 (by decide) (by decide) (by decide) (by decide)
  have t1 := m_Text h4 s4 (by decide)
  have t2 := m_Text (r := 2) (c := 2) (B := 20) (a := mturn 2 2 m4) ⟨by decide, by decide, rfl⟩ st (by decide)
  have t3 := m_Text (r := 2) (c := 2) (B := 20) (a := mmul 2 2 2 m4 m4) ⟨by decide, by decide, rfl⟩ sp (by decide)
  have t4 := t_VecG (mapply 2 2 m4 (ofInts [1, -1])) 20 (by decide) (by decide +kernel) (by decide)
  have o6 := c_fInt 2 (by decide) (by decide)
  have o7 := m_OfE 2 2 [1] (by decide) (by decide) (by decide)
  have o8 := (m_OfE (-1) 2049 [] (by decide) (by decide) (by decide)).wk (args := [iv (-1), iv 2049, .val (.slice none 0 0)]) (by repeat (first | exact WkL.nil | refine WkL.cons ?_ ?_ | exact Wk.nil | exact Wk.refl | refine Wk.agg ?_))
  have o9 := (m_OfE 2049 0 [] (by decide) (by decide) (by decide)).wk (args := [iv 2049, iv 0, .val (.slice none 0 0)]) (by repeat (first | exact WkL.nil | refine WkL.cons ?_ ?_ | exact Wk.nil | exact Wk.refl | refine Wk.agg ?_))
  have o10 := (m_Of 0 3 [] (by decide) (by decide) rfl (by decide)).wk (args := [iv 0, iv 3, .val (.slice none 0 0)]) (by repeat (first | exact WkL.nil | refine WkL.cons ?_ ?_ | exact Wk.nil | exact Wk.refl | refine Wk.agg ?_))
  have o11 := m_Part h4 [1, 0] [1] (by decide) (by decide) (by decide) (by decide)
  have t5 := m_Text (a := mpart 2 m4 [1, 0] [1]) (r := 2) (c := 1) (B := 20) ⟨by decide, by decide, rfl⟩ (by unfold Sm; decide +kernel) (by decide)
  have o12 := m_Sum h4 (by decide +kernel)
  have o13 := c_fInt 10 (by decide) (by decide)
  have o14 := m_Symmetric h4
  have o15 := m_Symmetric (r := 0) (c := 3) (a := []) ⟨by decide, by decide, rfl⟩
  have e1 : sameF 2 2 2 2 m4 (mturn 2 2 m4) = false := by decide +kernel
  have e2 : sameF 0 3 3 0 [] (mturn 0 3 []) = false := by decide +kernel
  replace o14 : CallOK Tryz.prog 18 [mA 2 2 m4] [] (.val (.bool (sameF 2 2 2 2 m4 (mturn 2 2 m4)))) [] [] := o14
  replace o15 : CallOK Tryz.prog 18 [mA 0 3 []] [] (.val (.bool (sameF 0 3 3 0 [] (mturn 0 3 [])))) [] [] := o15
  rw [e1] at o14
  rw [e2] at o15
  have q1 : (!(tM 2 2 m4).toList == (ByteArray.mk #[91, 49, 32, 50, 93, 32, 91, 51, 32, 52, 93]).toList) = false := by decide +kernel
  have q2 : (!(tM 2 2 (mturn 2 2 m4)).toList == (ByteArray.mk #[91, 49, 32, 51, 93, 32, 91, 50, 32, 52, 93]).toList) = false := by decide +kernel
  have q3 : (!(tM 2 2 (mmul 2 2 2 m4 m4)).toList == (ByteArray.mk #[91, 55, 32, 49, 48, 93, 32, 91, 49, 53, 32, 50, 50, 93]).toList) = false := by decide +kernel
  have q4 : (!(tV (mapply 2 2 m4 (ofInts [1, -1]))).toList == (ByteArray.mk #[91, 45, 49, 32, 45, 49, 93]).toList) = false := by decide +kernel
  have q5 : (!decide (mform 2 2 m4 (ofInts [1, 0]) (ofInts [0, 1]) = ((2 : Int) : Rat))) = false := by decide +kernel
  have q6 : ((tM 2 1 (mpart 2 m4 [1, 0] [1])).toList == (ByteArray.mk #[91, 52, 93, 32, 91, 50, 93]).toList) = true := by decide +kernel
  have q7 : decide (List.foldl (· + ·) 0 m4 = ((10 : Int) : Rat)) = true := by decide +kernel
  refine callV (Z := [22, 39, 46, 48, 97, 115, 116]) tabOK mixedOK Tryz.func12 rfl (by kernel_rfl) rfl rfl (by kernel_rfl) rfl ?_
  intro W0 w0 ρ0 hE
  conv => whnf
  (repeat ((first | refine step_w1 rfl rfl ?_ | refine step_w2 rfl rfl ?_ | refine step_i (by kernel_rfl) ?_ | refine g_c (by assumption) ?_ | refine g_o (op_pickT rfl (ev_ok rfl) (ev_ok rfl)) ?_ | refine g_o (op_pickF rfl (ev_ok rfl) (ev_ok rfl)) ?_ | rw [beq_self_eq_true] | rw [bne_self_eq_false] | refine ⟨_, op_eqAgg tabOK goodOK rfl (ev_ok rfl) (ev_ok rfl) rfl rfl rfl rfl (q_same _ _) q_guard, ?_⟩ | refine ⟨_, op_neAgg tabOK goodOK rfl (ev_ok rfl) (ev_ok rfl) rfl rfl rfl rfl (q_same _ _) q_guard, ?_⟩ | rw [q1] | rw [q2] | rw [q3] | rw [q4] | rw [q5] | rw [q6] | rw [q7]); conv => whnf)); (first | exact Recast.refl _ | exact Frz.recast (Recast.refl _) rfl | (refine Frz.one rfl rfl ?_; skip) | (refine Frz.tup ?_; skip))
end Go.Proofs.YtcincnngdohfnaaGreatDoor

namespace Go.Proofs.YtcincnngdohfnaaGreatDoor
open Go.Sx
set_option linter.unusedSimpArgs false
set_option linter.unusedVariables false
set_option maxRecDepth 100000
set_option maxHeartbeats 8000000

theorem side_le (x : Int) : (x % 7).toNat ≤ 6 := by omega
/-- The bounds of a matrix as plain data. -/
abbrev MWf (m : MM) : Prop := ((Lit.int .u8 m.1).wf = true) ∧ ((Lit.int .u8 m.2.1).wf = true) ∧ (m.2.2.length ≤ maxLen ∧ ∀ x ∈ m.2.2, ((Lit.int .i64 x.1).wf = true) ∧ ((Lit.int .u32 x.2).wf = true))
theorem mOK_of {m : MM} (w : MWf m) : mOK m := ⟨wf_u8 w.1, wf_u8 w.2.1, w.2.2.1, qOK_of w.2.2⟩

theorem c_fewL (ms : List MM) (h : ms.length < 1000) (hl : ∀ m ∈ ms, mOK m) : CallOK Tryz.prog 11 [mvec 3 mQ ms] [] (.val (.bool (ms.all fun m => decide (m.2.2.length ≤ 40)))) [] [] := c_few ms h fun m hm => (hl m hm).2.2.1
end Go.Proofs.YtcincnngdohfnaaGreatDoor

namespace Go.Proofs.YtcincnngdohfnaaGreatDoor
open Go.Sx
set_option linter.unusedSimpArgs false
set_option linter.unusedVariables false
set_option maxRecDepth 100000
set_option maxHeartbeats 8000000

theorem u8_mod (x : Int) (h : 0 ≤ x ∧ x < 256) (m : Int) (hm : 0 < m ∧ m < 256) : IntKind.u8.wrap (x.tmod m) = x.tmod m ∧ IntKind.i64.wrap (x.tmod m) = ((x % m).toNat : Nat) := by
  have h1 := Int.emod_nonneg x (show m ≠ 0 by omega)
  have h2 := Int.emod_lt_of_pos x hm.1
  rw [Int.tmod_eq_emod_of_nonneg h.1]
  constructor
  · exact wrap_u8 h1 (by omega)
  · rw [wrap_i64 (by omega) (by omega)]; omega
end Go.Proofs.YtcincnngdohfnaaGreatDoor

namespace Go.Proofs.YtcincnngdohfnaaGreatDoor
open Go.Sx
set_option linter.unusedSimpArgs false
set_option linter.unusedVariables false
set_option maxRecDepth 100000
set_option maxHeartbeats 8000000

theorem c_MOf (m : MM) (hm : mOK m) : CallOK Tryz.prog 14 [mQ m] [] (mA ((m.1 % 7).toNat : Nat) ((m.2.1 % 7).toNat : Nat) (someL m.2.2 ((m.1 % 7).toNat * (m.2.1 % 7).toNat))) [] [] := by
  obtain ⟨e1, e2⟩ := u8_mod m.1 hm.1 7 (by decide)
  obtain ⟨e3, e4⟩ := u8_mod m.2.1 hm.2.1 7 (by decide)
  have h1 := side_le m.1
  have h2 := side_le m.2.1
  generalize hr : (m.1 % 7).toNat = r at *
  generalize hc : (m.2.1 % 7).toNat = c at *
  have k1 := c_Some m hm (r := r) (c := c) (by omega) (by omega)
  refine callV (Z := []) tabOK mixedOK Tryz.func14 rfl (by kernel_rfl) rfl rfl (by kernel_rfl) rfl ?_
  intro W0 w0 ρ0 hE
  conv => whnf
  (repeat ((first | refine And.intro (by first | decide | omega | (simp only [tiB5, tiB66, tiB3, tiB2, tiB9, tiB43, tiB87, tiB29, tiB33, tiB41, tiB35, tiB4, tiB83, tiB85, tiB121, tiB31, tiB82, tiB37, dlen, List.length_replicate, List.length_set, List.length_map, List.length_zipWith, List.length_take, List.length_append, List.length_cons, List.length_nil]; omega)) ?_ | refine g_c (by assumption) ?_ | rw [e2] | rw [e4]); conv => whnf)); (first | exact Recast.refl _ | exact Frz.recast (Recast.refl _) rfl | (refine Frz.one rfl rfl ?_; skip) | (refine Frz.tup ?_; skip))
end Go.Proofs.YtcincnngdohfnaaGreatDoor

namespace Go.Proofs.YtcincnngdohfnaaGreatDoor
open Go.Sx
set_option linter.unusedSimpArgs false
set_option linter.unusedVariables false
set_option maxRecDepth 100000
set_option maxHeartbeats 8000000

end Go.Proofs.YtcincnngdohfnaaGreatDoor

namespace Go.Proofs.YtcincnngdohfnaaGreatDoor
open Go.Sx
set_option linter.unusedSimpArgs false
set_option linter.unusedVariables false
set_option maxRecDepth 100000
set_option maxHeartbeats 40000000

theorem rowF_get {r c i p : Nat} {a : List Rat} (hp : p < c) : (rowF r c a i).getD p 0 = el a c i p := by simp [rowF, List.getD_eq_getElem?_getD, hp]
theorem colF_get {r c i p : Nat} {a : List Rat} (hi : i < r) : (colF r c a p).getD i 0 = el a c i p := by simp [colF, List.getD_eq_getElem?_getD, hi]
theorem fs_take {X : List Rat} {B : Nat} (h : Sm B X) : ∀ i, i ≤ X.length → fs ((X.take i).foldl (· + ·) 0) ≤ 2 + i * B
  | 0, _ => by rw [List.take_zero, List.foldl_nil, fs_zero]; omega
  | i + 1, hi => by
    rw [foldl_take X i (by omega)]
    have h1 := fs_take h i (by omega)
    have h2 := h i (by omega)
    have := fs_add ((X.take i).foldl (· + ·) 0) (X.getD i 0)
    rw [Nat.succ_mul]; omega
theorem q_eq {a b : Rat} (h : a = b) : eqTy tab good 10 43 (fracCells a) (fracCells b) = some true := by rw [q_same, decide_eq_true h]
abbrev fblk1 (q : Rat) : Blk := ⟨43, true, .one [.frac q]⟩
abbrev mblk (r c : Nat) (a : List Rat) : Blk := ⟨31, true, .one (mC r c a)⟩
theorem c_MApply (a : MM) (v w : List (Int × Int)) (ha : mOK a) (hv : v.length ≤ maxLen ∧ ∀ q ∈ v, qOK q) (hw : w.length ≤ maxLen ∧ ∀ q ∈ w, qOK q) :
    CallOK Tryz.prog 7 [mQ a, mvec 2 qA v, mvec 2 qA w] [] (.val (.bool true)) [] [] := by
  have kw := l_works13
  have kf := c_fewL [a] (by simp) (by intro m hm; simp only [List.mem_cons, List.not_mem_nil, or_false] at hm; obtain rfl := hm; assumption)
  cases hF : [a].all fun m => decide (m.2.2.length ≤ 40)
  · rw [hF] at kf
    refine callV (Z := [3, 31]) tabOK mixedOK Tryz.func7 rfl (by kernel_rfl) rfl rfl (by kernel_rfl) rfl ?_
    intro W0 w0 ρ0 hE
    conv => whnf
    (repeat ((first | refine step_w1 rfl rfl ?_ | refine step_w2 rfl rfl ?_ | refine g_c (by assumption) ?_ | refine g_o (op_pickT rfl (ev_ok rfl) (ev_ok rfl)) ?_ | refine g_o (op_loadA rfl (ev_ok rfl) (tgt rfl) rfl (Nat.succ_ne_zero _) rfl) ?_); conv => whnf)); (first | exact Recast.refl _ | exact Frz.recast (Recast.refl _) rfl | (refine Frz.one rfl rfl ?_; skip) | (refine Frz.tup ?_; skip))
  rw [hF] at kf
  by_cases hl1 : v.length > 20
  · have t1 : decide ((v.length : Int) > 20) = true := decide_eq_true (by omega)
    refine callV (Z := [3, 31]) tabOK mixedOK Tryz.func7 rfl (by kernel_rfl) rfl rfl (by kernel_rfl) rfl ?_
    intro W0 w0 ρ0 hE
    conv => whnf
    (repeat ((first | refine step_w1 rfl rfl ?_ | refine step_w2 rfl rfl ?_ | refine g_c (by assumption) ?_ | refine g_o (op_pickT rfl (ev_ok rfl) (ev_ok rfl)) ?_ | refine g_o (op_pickF rfl (ev_ok rfl) (ev_ok rfl)) ?_ | refine g_o (op_lenM rfl rfl rfl (ev_ok rfl) (tgt rfl) rfl) ?_ | refine g_o (op_loadA rfl (ev_ok rfl) (tgt rfl) rfl (Nat.succ_ne_zero _) rfl) ?_ | rw [t1]); conv => whnf)); (first | exact Recast.refl _ | exact Frz.recast (Recast.refl _) rfl | (refine Frz.one rfl rfl ?_; skip) | (refine Frz.tup ?_; skip))
  have t1 : decide ((v.length : Int) > 20) = false := decide_eq_false (by omega)
  by_cases hl2 : w.length > 20
  · have t2 : decide ((w.length : Int) > 20) = true := decide_eq_true (by omega)
    refine callV (Z := [3, 31]) tabOK mixedOK Tryz.func7 rfl (by kernel_rfl) rfl rfl (by kernel_rfl) rfl ?_
    intro W0 w0 ρ0 hE
    conv => whnf
    (repeat ((first | refine step_w1 rfl rfl ?_ | refine g_c (by assumption) ?_ | refine g_o (op_pickF rfl (ev_ok rfl) (ev_ok rfl)) ?_ | refine tst_tt t2 ?_ | refine g_o (op_lenM rfl rfl rfl (ev_ok rfl) (tgt rfl) rfl) ?_ | refine g_o (op_loadA rfl (ev_ok rfl) (tgt rfl) rfl (Nat.succ_ne_zero _) rfl) ?_ | rw [t1]); conv => whnf)); (first | exact Recast.refl _ | exact Frz.recast (Recast.refl _) rfl | (refine Frz.one rfl rfl ?_; skip) | (refine Frz.tup ?_; skip))
  have t2 : decide ((w.length : Int) > 20) = false := decide_eq_false (by omega)
  have ks := c_Sides a ha
  have km := c_MOf a ha
  have n6 := side_le a.1
  have k6 := side_le a.2.1
  generalize (a.1 % 7).toNat = n at *
  generalize (a.2.1 % 7).toNat = k at *
  have v1 := c_vec v hv.1 hv.2 (n := k) (by omega)
  have v2 := c_vec w hw.1 hw.2 (n := n) (by omega)
  have hX := OKM_some a.2.2 (r := n) (c := k) (by omega) (by omega)
  have sX := Sm_some ha.2.2.2 (n * k)
  have l1 := someL_len v k
  have l2 := someL_len w n
  have s1 := Sm_some hv.2 k
  have s2 := Sm_some hw.2 n
  generalize someL a.2.2 (n * k) = X at *
  generalize someL v k = x at *
  generalize someL w n = y at *
  clear hF ha hv hw
  have hXl := hX.n
  have hnk : n * k ≤ 6 * 6 := Nat.mul_le_mul n6 k6
  have o1 := m_Apply 6 hX l1 sX s1 k6 (by decide)
  have o2 := m_Form 6 hX l2 l1 sX s2 s1 k6 n6 (by decide) (by decide)
  have lA : (mapply n k X x).length = n := mapply_len
  have f0 : mform n k X y x = sumR n fun i => y.getD i 0 * (mapply n k X x).getD i 0 := vdot_sum l2 lA
  have gA : ∀ i, i < n → (mapply n k X x).getD i 0 = sumR k fun p => el X k i p * x.getD p 0 := fun i hi => mapply_get hi
  generalize mform n k X y x = F at *
  generalize mapply n k X x = A at *
  have q0 : ((A.length : Int) != (n : Int)) = false := by rw [lA]; exact bne_self_eq_false _
  have hw1 : ∀ p, p ≤ 36 → 2 + p * 130 ≤ 5000 := fun p hp => by omega
  refine callV (Z := [3, 31]) tabOK mixedOK Tryz.func7 rfl (by kernel_rfl) rfl rfl (by kernel_rfl) rfl ?_
  intro W0 w0 ρ0 hE
  conv => whnf
  (repeat ((first | refine step_w1 rfl rfl ?_ | refine g_c (by assumption) ?_ | refine g_o (op_pickF rfl (ev_ok rfl) (ev_ok rfl)) ?_ | rw [bne_self_eq_false] | refine tst_ff t2 ?_ | refine tst_ff q0 ?_ | refine g_o (op_lenM rfl rfl rfl (ev_ok rfl) (tgt rfl) rfl) ?_ | refine g_o (op_loadA rfl (ev_ok rfl) (tgt rfl) rfl (Nat.succ_ne_zero _) rfl) ?_ | rw [t1] | rw [t2] | rw [q0]); conv => whnf))
  refine SW_loopN hE (fun k => k) [7, 8, 9, 10, 11, 12, 14, 16, 17, 18] [9, 14, 16, 17] (fun m fr hp => ∃ (i : Nat) (T U : Rat), m = n - i ∧ i ≤ n ∧ T = sumR i (fun i => y.getD i 0 * A.getD i 0) ∧ fs T ≤ 2 + i * 2000 ∧ U = (X.take (i * k)).foldl (· + ·) 0 ∧
    fr = [(7, iv n), (8, iv k), (9, .ptr 9 0 0 0), (10, fvec x), (11, fvec y), (12, fvec A), (14, .ptr 14 0 0 0), (16, .ptr 16 0 0 0), (17, .ptr 17 0 0 0), (18, iv (i : Nat))] ∧
    hp = [(9, mblk n k X), (14, fblk1 F), (16, fblk1 T), (17, fblk1 U)]) n ?_ ?_ ?_
  · kernel_rfl
  · exact ⟨0, 0, 0, rfl, Nat.zero_le _, rfl, by rw [fs_zero]; omega, by rw [Nat.zero_mul, List.take_zero]; rfl, rfl, rfl⟩
  rintro m _ _ ⟨i, T, U, rfl, hi, hT, fT, hU, rfl, rfl⟩
  clear o1 o2 ks km v1 v2 kf
  conv => whnf
  by_cases hlt : i < n
  · have t3 := dlt hlt
    have t4 := winc (i := i) (by omega)
    have o3 := m_Row hX hlt
    have lR : (rowF n k X i).length = k := by simp [rowF]
    have gR : ∀ p, p < k → (rowF n k X i).getD p 0 = el X k i p := fun p hp => rowF_get hp
    generalize rowF n k X i = R at *
    have q1 : ((R.length : Int) != (k : Int)) = false := by rw [lR]; exact bne_self_eq_false _
    have hik : (i + 1) * k ≤ n * k := Nat.mul_le_mul_right k hlt
    rw [Nat.succ_mul] at hik
    (repeat ((first | refine step_w1 rfl rfl ?_ | refine g_c (by assumption) ?_ | refine g_o (op_pickF rfl (ev_ok rfl) (ev_ok rfl)) ?_ | rw [bne_self_eq_false] | refine tst_tt t3 ?_ | refine tst_ff q1 ?_ | refine g_o (op_lenM rfl rfl rfl (ev_ok rfl) (tgt rfl) rfl) ?_ | rw [t3] | rw [q1]); conv => whnf))
    refine SW_loopN hE (fun k => k) [7, 8, 9, 10, 11, 12, 14, 16, 17, 18, 19, 21, 22] [9, 14, 16, 17, 21] (fun m fr hp => ∃ (p : Nat) (S U : Rat), m = k - p ∧ p ≤ k ∧ S = sumR p (fun p => el X k i p * x.getD p 0) ∧ fs S ≤ 2 + p * 260 ∧ U = (X.take (i * k + p)).foldl (· + ·) 0 ∧
      fr = [(7, iv n), (8, iv k), (9, .ptr 9 0 0 0), (10, fvec x), (11, fvec y), (12, fvec A), (14, .ptr 14 0 0 0), (16, .ptr 16 0 0 0), (17, .ptr 17 0 0 0), (18, iv (i : Nat)), (19, fvec R), (21, .ptr 21 0 0 0), (22, iv (p : Nat))] ∧
      hp = [(9, mblk n k X), (14, fblk1 F), (16, fblk1 T), (17, fblk1 U), (21, fblk1 S)]) k ?_ ?_ ?_
    · kernel_rfl
    · exact ⟨0, 0, U, rfl, Nat.zero_le _, rfl, by rw [fs_zero]; omega, by rw [hU]; rfl, rfl, rfl⟩
    clear hU o3
    rintro m _ _ ⟨p, S, U, rfl, hp, hS, fS, hU, rfl, rfl⟩
    conv => whnf
    by_cases hlp : p < k
    · have t5 := dlt hlp
      have t6 := winc (i := p) (by omega)
      obtain ⟨w1, w2⟩ := idx_w (i := i) (k := p) (c := k) (by omega) (by omega) (by omega)
      have hix := idx_lt hlt hlp
      have o4 := m_At n k X hX hlt hlp
      have o5 := m_Col hX (i := p) hlp
      have lC : (colF n k X p).length = n := by simp [colF]
      have gC := colF_get (c := k) (p := p) (a := X) hlt
      have gR := gR p hlp
      have fV := el_sm sX hXl hlt hlp
      have fx := s1 p (by omega)
      have e3 : sumR (p + 1) (fun p => el X k i p * x.getD p 0) = S + el X k i p * x.getD p 0 := by rw [hS]; rfl
      have e4 : (X.take (i * k + (p + 1))).foldl (· + ·) 0 = U + el X k i p := by rw [hU]; exact foldl_take X (i * k + p) (by omega) 0
      have fU : fs U ≤ 2 + (i * k + p) * 130 := by rw [hU]; exact fs_take sX _ (by omega)
      have fU2 := hw1 (i * k + p) (by omega)
      generalize colF n k X p = C at *
      have fVY := fs_mul (el X k i p) (x.getD p 0)
      have o6 := f_Mul (el X k i p) (x.getD p 0) (by omega)
      have o7 := f_Add S (el X k i p * x.getD p 0) (by omega)
      have o8 := f_Add U (el X k i p) (by omega)
      have q2 : ((C.length : Int) != (n : Int)) = false := by rw [lC]; exact bne_self_eq_false _
      have fS1 := fs_add S (el X k i p * x.getD p 0)
      have hl36 : i * k + p < X.length := by omega
      have hlx : p < x.length := by omega
      have hlR : p < R.length := by omega
      have hlC : i < C.length := by omega
      clear gA f0 hT fT hXl hik hnk hw1 lA lR lC l1 l2 hS hU
      (repeat ((first | refine step_w1 rfl rfl ?_ | refine step_w2 rfl rfl ?_ | refine step_i (by kernel_rfl) ?_ | refine g_c (by assumption) ?_ | refine g_o (op_pickF rfl (ev_ok rfl) (ev_ok rfl)) ?_ | rw [bne_self_eq_false] | refine tst_tt t5 ?_ | refine g_o (op_lenM rfl rfl rfl (ev_ok rfl) (tgt rfl) rfl) ?_ | refine g_o (op_indexN (α := Rat) (d := 0) rfl (ev_ok rfl) (ev_ok rfl) (tgt rfl) rfl (tgt rfl) rfl (by omega)) ?_ | refine g_o (op_loadA rfl (ev_ok rfl) (tgt rfl) rfl (Nat.succ_ne_zero _) rfl) ?_ | refine g_o (op_indexM (α := Rat) (d := 0) rfl (ev_ok rfl) (ev_ok rfl) (tgt rfl) rfl (tgt rfl) rfl (by omega)) ?_ | refine ⟨_, op_neAgg tabOK goodOK rfl (ev_ok rfl) (ev_ok rfl) rfl rfl rfl rfl (q_eq (rfl)) q_guard, ?_⟩ | refine ⟨_, op_neAgg tabOK goodOK rfl (ev_ok rfl) (ev_ok rfl) rfl rfl rfl rfl (q_eq (gR)) q_guard, ?_⟩ | refine ⟨_, op_neAgg tabOK goodOK rfl (ev_ok rfl) (ev_ok rfl) rfl rfl rfl rfl (q_eq (gC)) q_guard, ?_⟩ | rw [t5] | rw [q2] | rw [t6] | rw [w1] | rw [w2] | rw [Int.toNat_natCast] | rw [Nat.zero_add]); conv => whnf))
      refine ⟨k - (p + 1), fun k => k, [7, 8, 9, 10, 11, 12, 14, 16, 17, 18, 19, 21, 22], [9, 14, 16, 17, 21], by omega, by kernel_rfl, p + 1, _, _, rfl, hlp, e3.symm, ?_, e4.symm, rfl, rfl⟩
      rw [Nat.succ_mul]; clear o6 o7 o8 o4 o5; omega
    · have t5 := dge hlp
      obtain rfl : p = k := by omega
      have e3 : A.getD i 0 = S := by rw [gA i hlt, hS]
      have e4 : sumR (i + 1) (fun i => y.getD i 0 * A.getD i 0) = T + y.getD i 0 * S := by rw [← e3, hT]; rfl
      have fy := s2 i (by omega)
      have b1 := Nat.mul_le_mul_right 260 k6
      have b2 := Nat.mul_le_mul_right 2000 (show i ≤ 6 by omega)
      have fYS := fs_mul (y.getD i 0) S
      have o6 := f_Mul (y.getD i 0) S (by omega)
      have o7 := f_Add T (y.getD i 0 * S) (by omega)
      have fT1 := fs_add T (y.getD i 0 * S)
      have hlA : i < A.length := by omega
      have hly : i < y.length := by omega
      (repeat ((first | refine step_w2 rfl rfl ?_ | refine step_i (by kernel_rfl) ?_ | refine g_c (by assumption) ?_ | refine tst_ff t5 ?_ | refine g_o (op_indexN (α := Rat) (d := 0) rfl (ev_ok rfl) (ev_ok rfl) (tgt rfl) rfl (tgt rfl) rfl (by omega)) ?_ | refine g_o (op_loadA rfl (ev_ok rfl) (tgt rfl) rfl (Nat.succ_ne_zero _) rfl) ?_ | refine ⟨_, op_neAgg tabOK goodOK rfl (ev_ok rfl) (ev_ok rfl) rfl rfl rfl rfl (q_eq (e3)) q_guard, ?_⟩ | rw [t5] | rw [t4]); conv => whnf))
      refine ⟨n - (i + 1), fun k => k, [7, 8, 9, 10, 11, 12, 14, 16, 17, 18], [9, 14, 16, 17], by omega, by kernel_rfl, i + 1, _, U, rfl, hlt, e4.symm, ?_, ?_, rfl, rfl⟩
      · rw [Nat.succ_mul]; omega
      · rw [hU, Nat.succ_mul]
  · have t3 := dge hlt
    obtain rfl : i = n := by omega
    rw [← hXl, List.take_length] at hU
    rw [← f0] at hT
    subst hT
    have hsX := fsL_Sm sX
    rw [hXl] at hsX
    have o3 := m_Sum hX (by omega)
    rw [← hU] at o3
    have o4 := m_Outer (v := y) (w := x) (by omega) (by omega) s2 s1 (by decide)
    rw [l1, l2] at o4
    have lO : (mouter y x).length = i * k := by rw [mk_len, l1, l2]
    have gO : ∀ p, p < i * k → (mouter y x).getD p 0 = y.getD (p / k) 0 * x.getD (p % k) 0 := fun p hp => by
      rw [mk_at (by rw [l1, l2]; exact hp), l1]
    generalize mouter y x = O at *
    have t4 : IntKind.i64.wrap ((i : Int) * (k : Int)) = ((i * k : Nat) : Int) := by rw [← Int.natCast_mul, wrap_i64 (by omega) (by omega)]
    have q1 : ((O.length : Int) != ((i * k : Nat) : Int)) = false := by rw [lO]; exact bne_self_eq_false _
    (repeat ((first | refine step_w1 rfl rfl ?_ | refine step_i (by kernel_rfl) ?_ | refine g_c (by assumption) ?_ | refine g_o (op_pickF rfl (ev_ok rfl) (ev_ok rfl)) ?_ | rw [bne_self_eq_false] | refine tst_ff t3 ?_ | refine tst_ff q1 ?_ | refine g_o (op_lenM rfl rfl rfl (ev_ok rfl) (tgt rfl) rfl) ?_ | refine ⟨_, op_neAgg tabOK goodOK rfl (ev_ok rfl) (ev_ok rfl) rfl rfl rfl rfl (q_eq (rfl)) q_guard, ?_⟩ | rw [t3] | rw [q1] | rw [t4] | rw [Nat.zero_add]); conv => whnf))
    refine SW_loopN hE (fun k => k) [8, 10, 11, 27, 29] [27] (fun m fr hp => ∃ p : Nat, m = O.length - p ∧ p ≤ O.length ∧
      fr = [(8, iv k), (10, fvec x), (11, fvec y), (27, .ptr 27 0 0 0), (29, iv (p : Nat))] ∧ hp = [(27, mblk i k O)]) O.length ?_ ?_ ?_
    · kernel_rfl
    · exact ⟨0, rfl, Nat.zero_le _, rfl, rfl⟩
    clear o3 o4 hsX
    rintro m _ _ ⟨p, rfl, hp, rfl, rfl⟩
    conv => whnf
    by_cases hlp : p < O.length
    · have t5 := dlt hlp
      have t6 := winc (i := p) (by omega)
      obtain ⟨d1, d2, d3⟩ := idx_split (r := i) (c := k) (p := p) (by omega)
      have e0 : ∀ d : Nat, d < 7 → IntKind.i64.wrap ((d : Nat) : Int) = ((d : Nat) : Int) := fun d hd => wrap_i64 (by omega) (by omega)
      have e1 : IntKind.i64.wrap ((p : Int).tdiv (k : Int)) = ((p / k : Nat) : Int) := e0 (p / k) (by omega)
      have e2 : IntKind.i64.wrap ((p : Int).tmod (k : Int)) = ((p % k : Nat) : Int) := e0 (p % k) (by omega)
      have fy := s2 (p / k) (by omega)
      have fx := s1 (p % k) (by omega)
      have o6 := f_Mul (y.getD (p / k) 0) (x.getD (p % k) 0) (by omega)
      rw [← gO p (by omega)] at o6
      have hly : p / k < y.length := by omega
      have hlx : p % k < x.length := by omega
      (repeat ((first | refine step_w2 rfl rfl ?_ | refine step_i (by kernel_rfl) ?_ | refine step_oN (by first | omega | decide | (simp only [tiB5, tiB66, tiB3, tiB2, tiB9, tiB43, tiB87, tiB29, tiB33, tiB41, tiB35, tiB4, tiB83, tiB85, tiB121, tiB31, tiB82, tiB37, dlen, List.length_replicate, List.length_set, List.length_map, List.length_zipWith, List.length_take, List.length_append, List.length_cons, List.length_nil]; omega)) ?_ | refine g_c (by assumption) ?_ | refine tst_tt t5 ?_ | refine g_o (op_lenM rfl rfl rfl (ev_ok rfl) (tgt rfl) rfl) ?_ | refine g_o (op_indexN (α := Rat) (d := 0) rfl (ev_ok rfl) (ev_ok rfl) (tgt rfl) rfl (tgt rfl) rfl (by omega)) ?_ | refine g_o (op_loadA rfl (ev_ok rfl) (tgt rfl) rfl (Nat.succ_ne_zero _) rfl) ?_ | refine ⟨_, op_neAgg tabOK goodOK rfl (ev_ok rfl) (ev_ok rfl) rfl rfl rfl rfl (q_eq (rfl)) q_guard, ?_⟩ | rw [t5] | rw [t6] | rw [e1] | rw [Nat.zero_add]); conv => whnf))
      exact ⟨O.length - (p + 1), fun k => k, [8, 10, 11, 27, 29], [27], by omega, by kernel_rfl, p + 1, rfl, hlp, rfl, rfl⟩
    · have t5 := dge hlp
      (repeat (first | (refine g_c (by assumption) ?_; conv => whnf) | (refine tst_ff t5 ?_; conv => whnf) | (refine g_o (op_lenM rfl rfl rfl (ev_ok rfl) (tgt rfl) rfl) ?_; conv => whnf))); (first | exact Recast.refl _ | exact Frz.recast (Recast.refl _) rfl | (refine Frz.one rfl rfl ?_; skip) | (refine Frz.tup ?_; skip))
theorem law_MatsApply (a0 : MM) (a1 a2 : List (Int × Int)) (w0 : MWf a0) (w1 : QWf a1) (w2 : QWf a2) :
    CallOK Tryz.prog 7 [mQ a0, mvec 2 qA a1, mvec 2 qA a2] [] (.val (.bool true)) [] [] := c_MApply a0 a1 a2 (mOK_of w0) ⟨w1.1, qOK_of w1⟩ ⟨w2.1, qOK_of w2⟩
end Go.Proofs.YtcincnngdohfnaaGreatDoor

namespace Go.Proofs.YtcincnngdohfnaaGreatDoor.matsApply
open Go.ChangeShapes Go.WideShapes Go.ChangeAt Go.RowKit Go.Sx
set_option maxRecDepth 100000
set_option linter.unusedSimpArgs false

theorem own : ownKnob Tryz.prog.godebug = none := by kernel_rfl
theorem laidOut : laidOutB Tryz.prog = true := by kernel_rfl
theorem params : Tryz.f7.params.toList.all (fun t => Tryz.prog.readableRec t && decide (t < Tryz.prog.types.size)) = true := by kernel_rfl
theorem gTab0 : Tryz.prog.globalNamed "math/bits.deBruijn32tab" = some 3 := by kernel_rfl
theorem gTabType0 : (Tryz.prog.globals[3]?).map (·.type) = some 245 := by kernel_rfl
theorem cellsA0 : Tryz.prog.cellsOf 245 = 32 := by kernel_rfl
theorem cellsE0 : Tryz.prog.cellsOf 5 = 1 := by kernel_rfl
theorem gTab1 : Tryz.prog.globalNamed "math/bits.deBruijn64tab" = some 4 := by kernel_rfl
theorem gTabType1 : (Tryz.prog.globals[4]?).map (·.type) = some 246 := by kernel_rfl
theorem cellsA1 : Tryz.prog.cellsOf 246 = 64 := by kernel_rfl
theorem cellsE1 : Tryz.prog.cellsOf 5 = 1 := by kernel_rfl
theorem gTab2 : Tryz.prog.globalNamed "internal/strconv.uint64pow10" = some 2 := by kernel_rfl
theorem gTabType2 : (Tryz.prog.globals[2]?).map (·.type) = some 242 := by kernel_rfl
theorem cellsA2 : Tryz.prog.cellsOf 242 = 20 := by kernel_rfl
theorem cellsE2 : Tryz.prog.cellsOf 35 = 1 := by kernel_rfl
/-- What the row's list gives: the tables' cells hold their numbers. -/
theorem table {W : World} (h : laidMetH Tryz.prog Rows.matsApplyRow.laid W) : TabsW W := by
  intro g kd l hm
  have h0 : laidMet Tryz.prog Rows.matsApplyRow.laid W := h
  have ht0 : Lib.TabIs Tryz.prog W "math/bits.deBruijn32tab" .u8 [0, 1, 28, 2, 29, 14, 24, 3, 30, 22, 20, 15, 25, 17, 4, 8, 31, 27, 13, 23, 21, 19, 16, 7, 26, 12, 18, 6, 11, 5, 10, 9] := Lib.tabIs_of_head gTab0 gTabType0 Tryz.underlying245 Tryz.underlying5 cellsE0 cellsA0 h0
  have h1 := laid_tail h0
  have ht1 : Lib.TabIs Tryz.prog W "math/bits.deBruijn64tab" .u8 [0, 1, 56, 2, 57, 49, 28, 3, 61, 58, 42, 50, 38, 29, 17, 4, 62, 47, 59, 36, 45, 43, 51, 22, 53, 39, 33, 30, 24, 18, 12, 5, 63, 55, 48, 27, 60, 41, 37, 16, 46, 35, 44, 21, 52, 32, 23, 11, 54, 26, 40, 15, 34, 20, 31, 10, 25, 14, 19, 9, 13, 8, 7, 6] := Lib.tabIs_of_head gTab1 gTabType1 Tryz.underlying246 Tryz.underlying5 cellsE1 cellsA1 h1
  have h2 := laid_tail h1
  have ht2 : Lib.TabIs Tryz.prog W "internal/strconv.uint64pow10" .u64 [1, 10, 100, 1000, 10000, 100000, 1000000, 10000000, 100000000, 1000000000, 10000000000, 100000000000, 1000000000000, 10000000000000, 100000000000000, 1000000000000000, 10000000000000000, 100000000000000000, 1000000000000000000, 10000000000000000000] := Lib.tabIs_of_head gTab2 gTabType2 Tryz.underlying242 Tryz.underlying35 cellsE2 cellsA2 h2
  simp only [globTabs, List.mem_cons, List.not_mem_nil, or_false, Prod.mk.injEq] at hm
  rcases hm with ⟨rfl, rfl, rfl⟩ | ⟨rfl, rfl, rfl⟩ | ⟨rfl, rfl, rfl⟩
  · refine ⟨by simp, fun j x hx => by rw [ht0.cell gTab0 j (List.getElem?_eq_some_iff.1 hx).1, List.getD_eq_getElem?_getD, hx]; rfl, ?_⟩
    exact tab_heap gTab0 ht0
  · refine ⟨by simp, fun j x hx => by rw [ht1.cell gTab1 j (List.getElem?_eq_some_iff.1 hx).1, List.getD_eq_getElem?_getD, hx]; rfl, ?_⟩
    exact tab_heap gTab1 ht1
  · refine ⟨by simp, fun j x hx => by rw [ht2.cell gTab2 j (List.getElem?_eq_some_iff.1 hx).1, List.getD_eq_getElem?_getD, hx]; rfl, ?_⟩
    exact tab_heap gTab2 ht2

/-- The contract, over values. -/
theorem called (a0 : (Int) × (Int) × (List ((Int) × (Int)))) (a1 : List ((Int) × (Int))) (a2 : List ((Int) × (Int))) (w0 : ((Lit.int .u8 a0.1).wf = true) ∧ ((Lit.int .u8 a0.2.1).wf = true) ∧ ((a0.2.2).length ≤ maxLen ∧ ∀ x ∈ a0.2.2, ((Lit.int .i64 x.1).wf = true) ∧ ((Lit.int .u32 x.2).wf = true))) (w1 : (a1).length ≤ maxLen ∧ ∀ x ∈ a1, ((Lit.int .i64 x.1).wf = true) ∧ ((Lit.int .u32 x.2).wf = true)) (w2 : (a2).length ≤ maxLen ∧ ∀ x ∈ a2, ((Lit.int .i64 x.1).wf = true) ∧ ((Lit.int .u32 x.2).wf = true)) : CallOK Tryz.prog 7 [(ag3 (iel .u8) (iel .u8) (mvec 2 (ag2 (iel .i64) (iel .u32)))) a0, (mvec 2 (ag2 (iel .i64) (iel .u32))) a1, (mvec 2 (ag2 (iel .i64) (iel .u32))) a2] [] (.val (.bool true)) [] [] := law_MatsApply a0 a1 a2 w0 w1 w2

theorem contract (H : Type) (enc : TypeId × Value → H) (W : World) (base : Nat) (args : Array Value) (ds gs : List (DataW H)) (before : List MemPlace)
    (hval : ∀ (j : Nat) t v, Tryz.f7.params[j]? = some t → args[j]? = some v → Value.okWide Tryz.prog W .any base t v)
    (hW : DataW.Whole enc Tryz.prog Tryz.f7.params.toList Rows.matsApplySpec.vars false W args.toList ds gs before) (hL : laidMetH Tryz.prog Rows.matsApplyRow.laid W) :
    Calls Tryz.prog 7 args W fun e W' => ∃ v, e = .returned v ∧ Rows.matsApplySpec.post enc Tryz.prog Tryz.f7 false true false false W args v W' := by
  have hW' := hW
  obtain ⟨p, q, hA0, hV, rfl, hfz, hnd⟩ := hW
  have hA : DataW.TrodAll enc Tryz.prog W 0 (fun _ => true) true Tryz.f7.params.toList args.toList ds p := hA0
  rw [Tryz.params7] at hA hval
  obtain ⟨v0, vs0, d0, ds0, p0, q0, hargs, rfl, rfl, h0, r0⟩ := trodAll_cons hA
  obtain ⟨v1, vs1, d1, ds1, p1, q1, rfl, rfl, rfl, h1, r1⟩ := trodAll_cons r0
  obtain ⟨v2, vs2, d2, ds2, p2, q2, rfl, rfl, rfl, h2, r2⟩ := trodAll_cons r1
  obtain ⟨rfl, rfl, rfl⟩ := trodAll_nil r2
  obtain rfl : args = #[v0, v1, v2] := by cases args; simp_all
  obtain ⟨rfl, rfl⟩ := trodVars_none hV
  have hg := table hL
  obtain ⟨n0, t0⟩ := h0
  obtain ⟨a0, w0, c0⟩ := (show Opens enc Tryz.prog hg 24 (ag3 (iel .u8) (iel .u8) (mvec 2 (ag2 (iel .i64) (iel .u32)))) (fun a => ((Lit.int .u8 a.1).wf = true) ∧ ((Lit.int .u8 a.2.1).wf = true) ∧ ((a.2.2).length ≤ maxLen ∧ ∀ x ∈ a.2.2, ((Lit.int .i64 x.1).wf = true) ∧ ((Lit.int .u32 x.2).wf = true))) from Opens.struct3 Tryz.underlying24 rfl (by kernel_rfl) (by kernel_rfl) (by kernel_rfl) (Opens.int Tryz.underlying5) (Opens.int Tryz.underlying5) (Opens.slice (w := 2) Tryz.underlying22 (by kernel_rfl) (by decide) (fun _ => rfl) (Opens.struct2 Tryz.underlying68 rfl (by kernel_rfl) (by kernel_rfl) (Opens.int Tryz.underlying2) (Opens.int Tryz.underlying66)))) _ _ _ t0
  have e0 : mkV ((ag3 (iel .u8) (iel .u8) (mvec 2 (ag2 (iel .i64) (iel .u32)))) a0) v0.cells.toList = v0 := by obtain ⟨cs, hc, _⟩ := okWide_struct Tryz.underlying24 (hval 0 24 v0 rfl rfl); exact mkV_agg rfl hc
  obtain ⟨n1, t1⟩ := h1
  obtain ⟨a1, w1, c1⟩ := (show Opens enc Tryz.prog hg 22 (mvec 2 (ag2 (iel .i64) (iel .u32))) (fun a => (a).length ≤ maxLen ∧ ∀ x ∈ a, ((Lit.int .i64 x.1).wf = true) ∧ ((Lit.int .u32 x.2).wf = true)) from Opens.slice (w := 2) Tryz.underlying22 (by kernel_rfl) (by decide) (fun _ => rfl) (Opens.struct2 Tryz.underlying68 rfl (by kernel_rfl) (by kernel_rfl) (Opens.int Tryz.underlying2) (Opens.int Tryz.underlying66))) _ _ _ t1
  have e1 : mkV ((mvec 2 (ag2 (iel .i64) (iel .u32))) a1) v1.cells.toList = v1 := by obtain ⟨_, _, _, rfl⟩ := okWide_slice Tryz.underlying22 (hval 1 22 v1 rfl rfl); exact mkV_one rfl (by simp [Value.cells])
  obtain ⟨n2, t2⟩ := h2
  obtain ⟨a2, w2, c2⟩ := (show Opens enc Tryz.prog hg 22 (mvec 2 (ag2 (iel .i64) (iel .u32))) (fun a => (a).length ≤ maxLen ∧ ∀ x ∈ a, ((Lit.int .i64 x.1).wf = true) ∧ ((Lit.int .u32 x.2).wf = true)) from Opens.slice (w := 2) Tryz.underlying22 (by kernel_rfl) (by decide) (fun _ => rfl) (Opens.struct2 Tryz.underlying68 rfl (by kernel_rfl) (by kernel_rfl) (Opens.int Tryz.underlying2) (Opens.int Tryz.underlying66))) _ _ _ t2
  have e2 : mkV ((mvec 2 (ag2 (iel .i64) (iel .u32))) a2) v2.cells.toList = v2 := by obtain ⟨_, _, _, rfl⟩ := okWide_slice Tryz.underlying22 (hval 2 22 v2 rfl rfl); exact mkV_one rfl (by simp [Value.cells])
  have hz : HasZ (allRho hg) [(ag3 (iel .u8) (iel .u8) (mvec 2 (ag2 (iel .i64) (iel .u32)))) a0, (mvec 2 (ag2 (iel .i64) (iel .u32))) a1, (mvec 2 (ag2 (iel .i64) (iel .u32))) a2] [v0.cells.toList, v1.cells.toList, v2.cells.toList] := by simp only [HasZ]; exact ⟨_, _, rfl, c0, _, _, rfl, c1, _, _, rfl, c2, rfl⟩
  have hr := law_runA ⟨Tryz.f7, Tryz.func7, rfl, by kernel_rfl⟩ (called a0 a1 a2 w0 w1 w2) hg hz
  simp only [List.zipWith_cons_cons, List.zipWith_nil_left, List.zipWith_nil_right, e0, e1, e2] at hr
  refine hr.mono fun e W' ⟨he, hb⟩ => ?_
  subst he
  exact ⟨_, rfl, law_post laidOut params rfl rfl Tryz.underlying4 hW' ⟨rfl, rfl, rfl⟩ hb⟩

/-- A world for the witness: the settled one, the tables holding what their texts lay. -/
noncomputable def laidWorld (os : Os) : World :=
  { World.holding Tryz.prog os ⟨#[], #[], []⟩ with heap := ((World.holding Tryz.prog os ⟨#[], #[], []⟩).heap |>.modify 3 (fun | .cells _ t frozen => .cells #[.int .u8 0, .int .u8 1, .int .u8 28, .int .u8 2, .int .u8 29, .int .u8 14, .int .u8 24, .int .u8 3, .int .u8 30, .int .u8 22, .int .u8 20, .int .u8 15, .int .u8 25, .int .u8 17, .int .u8 4, .int .u8 8, .int .u8 31, .int .u8 27, .int .u8 13, .int .u8 23, .int .u8 21, .int .u8 19, .int .u8 16, .int .u8 7, .int .u8 26, .int .u8 12, .int .u8 18, .int .u8 6, .int .u8 11, .int .u8 5, .int .u8 10, .int .u8 9] t frozen | o => o) |>.modify 4 (fun | .cells _ t frozen => .cells #[.int .u8 0, .int .u8 1, .int .u8 56, .int .u8 2, .int .u8 57, .int .u8 49, .int .u8 28, .int .u8 3, .int .u8 61, .int .u8 58, .int .u8 42, .int .u8 50, .int .u8 38, .int .u8 29, .int .u8 17, .int .u8 4, .int .u8 62, .int .u8 47, .int .u8 59, .int .u8 36, .int .u8 45, .int .u8 43, .int .u8 51, .int .u8 22, .int .u8 53, .int .u8 39, .int .u8 33, .int .u8 30, .int .u8 24, .int .u8 18, .int .u8 12, .int .u8 5, .int .u8 63, .int .u8 55, .int .u8 48, .int .u8 27, .int .u8 60, .int .u8 41, .int .u8 37, .int .u8 16, .int .u8 46, .int .u8 35, .int .u8 44, .int .u8 21, .int .u8 52, .int .u8 32, .int .u8 23, .int .u8 11, .int .u8 54, .int .u8 26, .int .u8 40, .int .u8 15, .int .u8 34, .int .u8 20, .int .u8 31, .int .u8 10, .int .u8 25, .int .u8 14, .int .u8 19, .int .u8 9, .int .u8 13, .int .u8 8, .int .u8 7, .int .u8 6] t frozen | o => o) |>.modify 2 (fun | .cells _ t frozen => .cells #[.int .u64 1, .int .u64 10, .int .u64 100, .int .u64 1000, .int .u64 10000, .int .u64 100000, .int .u64 1000000, .int .u64 10000000, .int .u64 100000000, .int .u64 1000000000, .int .u64 10000000000, .int .u64 100000000000, .int .u64 1000000000000, .int .u64 10000000000000, .int .u64 100000000000000, .int .u64 1000000000000000, .int .u64 10000000000000000, .int .u64 100000000000000000, .int .u64 1000000000000000000, .int .u64 10000000000000000000] t frozen | o => o)) }
theorem laid_met (os : Os) : laidMet Tryz.prog Rows.matsApplyRow.laid ((laidWorld os).forCall (fun _ _ => 0) ⟨#[], #[.agg #[.int .u8 0, .int .u8 0, .slice none 0 0], .slice none 0 0, .slice none 0 0], []⟩).memory :=
  laidMet_of_run' 8 (by kernel_rfl) (by kernel_rfl)
theorem reads (os : Os) {H : Type} (enc : TypeId × Value → H) : ∃ places, DataW.whole enc Tryz.prog ((laidWorld os).forCall (fun _ _ => 0) ⟨#[], #[.agg #[.int .u8 0, .int .u8 0, .slice none 0 0], .slice none 0 0, .slice none 0 0], []⟩).memory Tryz.f7.params.toList Rows.matsApplySpec.vars false #[.agg #[.int .u8 0, .int .u8 0, .slice none 0 0], .slice none 0 0, .slice none 0 0].toList 8 = some ([.agg [.lit (.int .u8 0), .lit (.int .u8 0), .nil], .nil, .nil], [], places) :=
  ⟨[], by kernel_rfl⟩

theorem lifted (os : Os) (started : os.Started) (H : Type) (enc : TypeId × Value → H) (F : Stop.Interp) :
    ReturnsInHanded {} Tryz.checked os 7 .any ((OpenSpec.ofChange Rows.matsApplySpec).preRow enc Tryz.prog Tryz.f7 Rows.matsApplyRow.domain false Rows.matsApplyRow.laid) (((OpenSpec.ofChange Rows.matsApplySpec).at F).post enc Tryz.prog Tryz.f7 false true false false) := by
  obtain ⟨places, hx⟩ := reads os enc
  refine returnsInHanded_of_row (C := Tryz.checked) (s := OpenSpec.ofChange Rows.matsApplySpec) own started (by kernel_rfl) Tryz.func7
    (witness_row_at (enc := enc) (C := Tryz.checked) false (laidWorld os) #[.agg #[.int .u8 0, .int .u8 0, .slice none 0 0], .slice none 0 0, .slice none 0 0] rfl (by kernel_rfl) (by kernel_rfl) (by kernel_rfl)
      (OpenSpec.preRow_of_cond 8 hx (by kernel_rfl) (fun k hk => by cases hk) (by kernel_rfl) (laid_met os))) ?_
  intro W base args ds gs before hval hW _ _ _ hL _ _
  exact contract H enc W base args ds gs before hval hW hL

theorem said : Rows.MatsApplySaid :=
  OpenClaim.holds_of_cond 7 Tryz.f7 rfl rfl rfl rfl rfl rfl rfl ⟨rfl, rfl, rfl, rfl, rfl⟩ rfl rfl rfl rfl rfl (by kernel_rfl) Tryz.func7 (by kernel_rfl)
    (of_decide_eq_true (by kernel_rfl)) (by unfold Func.isWrapper; first | (rw [if_pos (by decide +kernel)]; kernel_rfl) | (rw [if_neg (by decide +kernel)]; exact ⟨rfl, rfl⟩))
    (fun os started H enc _ F => by rw [OpenClaim.pre_eq_preRow]; exact lifted os started H enc F)

/-- No parameter wants a stand-in; the program's own looks are off. -/
theorem plain (f : FuncId) (fn : Func) (hf : Tryz.pinned.checked.prog.funcNamed "gusset/gussetlaw13.MatsApply" = some f) (hfn : Tryz.pinned.checked.prog.funcs[f]? = some fn) :
    false = Tryz.pinned.checked.prog.looks [] ∧ ∀ (j : Nat) t, fn.params[j]? = some t → Tryz.pinned.checked.prog.wantsStandIn t = false := by
  obtain rfl : f = 7 := Option.some.inj ((show Tryz.prog.funcNamed "gusset/gussetlaw13.MatsApply" = some 7 by kernel_rfl).symm.trans hf) |>.symm
  obtain rfl : fn = Tryz.f7 := (Option.some.inj (Tryz.func7.symm.trans hfn)).symm
  refine ⟨by kernel_rfl, fun j t ht => ?_⟩
  have hall : (Tryz.f7.params.toList.all fun t => !Tryz.prog.wantsStandIn t) = true := by kernel_rfl
  have := List.all_eq_true.1 hall t (by simpa using Array.mem_of_getElem? ht)
  exact (show Tryz.prog.wantsStandIn t = false by simpa using this)

/-- The card. -/
theorem card : Rows.MatsApplyCardSaid :=
  Claim7.holds_tied_plain_at .later [] _ _ _ _ said (fun _ h => by cases h) (by kernel_rfl) (fun _ h => by cases h) matsApply_row_tie rfl ⟨rfl, rfl⟩ (by kernel_rfl) rfl plain (by kernel_rfl)
#print axioms card
end Go.Proofs.YtcincnngdohfnaaGreatDoor.matsApply
