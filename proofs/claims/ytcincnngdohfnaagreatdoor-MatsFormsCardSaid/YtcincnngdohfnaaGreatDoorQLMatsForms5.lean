/- MatsForms returns true for every input and leaves its arguments as they were: the row, and the card that ties its tables to the program's text. -/
import Derived.Test.YtcincnngdohfnaaGreatDoorCards
import Derived.Test.YtcincnngdohfnaaGreatDoorTie
import Derived.WalkKit
import Derived.ProofKit
import Derived.OpenShut
import Derived.Deep.DeepHandedRow
import Derived.Lib.LaidTab
import Derived.Test.YtcincnngdohfnaaGreatDoorQLMatsForms4
namespace Go.Proofs.YtcincnngdohfnaaGreatDoor
open Go.Sx
set_option linter.unusedSimpArgs false
set_option linter.unusedVariables false
set_option maxRecDepth 100000
set_option maxHeartbeats 4000000

/-- A matrix as plain data. -/
abbrev MM := Int × Int × List (Int × Int)
abbrev mQ : MM → SV := ag3 (iel .u8) (iel .u8) (mvec 2 qA)
abbrev nilQ : MM := (0, 0, [])
def mOK (m : MM) : Prop := (0 ≤ m.1 ∧ m.1 < 256) ∧ (0 ≤ m.2.1 ∧ m.2.1 < 256) ∧ m.2.2.length ≤ maxLen ∧ ∀ q ∈ m.2.2, qOK q
/-- Its elements, with zeros for missing ones. -/
def eQ (l : List (Int × Int)) (p : Nat) : Rat := qV (l.getD p (0, 0))
def someL (l : List (Int × Int)) (n : Nat) : List Rat := (List.range n).map (eQ l)
theorem someL_len (l : List (Int × Int)) (n : Nat) : (someL l n).length = n := by simp [someL]
theorem someL_get {l : List (Int × Int)} {n p : Nat} (h : p < n) : (someL l n).getD p 0 = eQ l p := by simp [someL, List.getD_eq_getElem?_getD, h]
theorem qOK_at {l : List (Int × Int)} (h : ∀ q ∈ l, qOK q) (p : Nat) : qOK (l.getD p (0, 0)) := by
  by_cases hp : p < l.length
  · exact h _ (getD_mem hp)
  · rw [List.getD_eq_getElem?_getD, List.getElem?_eq_none (by omega)]; exact ⟨⟨by decide, by decide⟩, by decide, by decide⟩
theorem Sm_some {l : List (Int × Int)} (h : ∀ q ∈ l, qOK q) (n : Nat) : Sm 130 (someL l n) := by
  intro p hp
  rw [someL_len] at hp
  rw [someL_get hp]; exact fs_qV (qOK_at h p)
theorem OKM_some (l : List (Int × Int)) {r c : Nat} (hr : r ≤ 2048) (hc : c ≤ 2048) : OKM r c (someL l (r * c)) := ⟨hr, hc, someL_len ..⟩

theorem c_few (ms : List MM) (h : ms.length < 1000) (hl : ∀ m ∈ ms, m.2.2.length ≤ maxLen) : CallOK Tryz.prog 11 [mvec 3 mQ ms] [] (.val (.bool (ms.all fun m => decide (m.2.2.length ≤ 40)))) [] [] := by
  refine callV (Z := []) tabOK mixedOK Tryz.func11 rfl (by kernel_rfl) rfl rfl (by kernel_rfl) rfl ?_
  intro W0 w0 ρ0 hE
  conv => whnf
  skip
  refine SW_loopN hE (fun k => k) [0, 3] [] (fun m fr hp => ∃ i : Nat, m = ms.length - i ∧ i ≤ ms.length ∧ (∀ j, j < i → decide ((ms.getD j nilQ).2.2.length ≤ 40) = true) ∧ fr = [(0, mvec 3 mQ ms), (3, iv (i : Nat))] ∧ hp = []) ms.length ?_ ?_ ?_
  · kernel_rfl
  · exact ⟨0, rfl, Nat.zero_le _, (fun j hj => by omega), rfl, rfl⟩
  rintro m _ _ ⟨i, rfl, hi, hs, rfl, rfl⟩
  conv => whnf
  by_cases hlt : i < ms.length
  · have t1 := dlt hlt
    have t2 := winc (i := i) (by omega)
    by_cases hL : (ms.getD i nilQ).2.2.length ≤ 40
    · have t3 : decide (((ms.getD i nilQ).2.2.length : Int) > 40) = false := decide_eq_false (by omega)
      (repeat ((first | refine step_w1 rfl rfl ?_ | refine step_w2 rfl rfl ?_ | refine g_o (op_lenM rfl rfl rfl (ev_ok rfl) (tgt rfl) rfl) ?_ | refine g_o (op_loadA rfl (ev_ok rfl) (tgt rfl) rfl (Nat.succ_ne_zero _) rfl) ?_ | refine g_o (op_fieldA rfl (ev_ok rfl) (tgt rfl) rfl rfl (Nat.succ_ne_zero _) rfl) ?_ | refine g_o (op_indexN (α := MM) (d := nilQ) rfl (ev_ok rfl) (ev_ok rfl) (tgt rfl) rfl (tgt rfl) rfl (by omega)) ?_ | rw [t1] | rw [t3] | rw [t2]); conv => whnf))
      refine ⟨ms.length - (i + 1), fun k => k, [0, 3], [], by omega, by kernel_rfl, i + 1, rfl, hlt, ?_, rfl, rfl⟩
      intro j hj
      by_cases hji : j = i
      · rw [hji]; exact decide_eq_true hL
      · exact hs j (by omega)
    · have t3 : decide (((ms.getD i nilQ).2.2.length : Int) > 40) = true := decide_eq_true (by omega)
      have e : (ms.all fun m => decide (m.2.2.length ≤ 40)) = false := all_no (d := nilQ) hlt (decide_eq_false hL)
      rw [e]
      (repeat ((first | refine step_w1 rfl rfl ?_ | refine g_o (op_lenM rfl rfl rfl (ev_ok rfl) (tgt rfl) rfl) ?_ | refine g_o (op_loadA rfl (ev_ok rfl) (tgt rfl) rfl (Nat.succ_ne_zero _) rfl) ?_ | refine g_o (op_fieldA rfl (ev_ok rfl) (tgt rfl) rfl rfl (Nat.succ_ne_zero _) rfl) ?_ | refine g_o (op_indexN (α := MM) (d := nilQ) rfl (ev_ok rfl) (ev_ok rfl) (tgt rfl) rfl (tgt rfl) rfl (by omega)) ?_ | rw [t1] | rw [t3]); conv => whnf)); (first | exact Recast.refl _ | exact Frz.recast (Recast.refl _) rfl | (refine Frz.one rfl rfl ?_; skip) | (refine Frz.tup ?_; skip))
  · have t1 := dge hlt
    obtain rfl : i = ms.length := by omega
    have e : (ms.all fun m => decide (m.2.2.length ≤ 40)) = true := all_at nilQ hs
    rw [e]
    (repeat (first | (refine step_w2 rfl rfl ?_; conv => whnf) | (refine g_o (op_lenM rfl rfl rfl (ev_ok rfl) (tgt rfl) rfl) ?_; conv => whnf) | (rw [t1]; conv => whnf))); (first | exact Recast.refl _ | exact Frz.recast (Recast.refl _) rfl | (refine Frz.one rfl rfl ?_; skip) | (refine Frz.tup ?_; skip))
theorem wrap_u8 {n : Int} (h0 : 0 ≤ n) (h : n < 256) : IntKind.u8.wrap n = n := by
  simp [IntKind.wrap, IntKind.bits, IntKind.signed]; omega
theorem c_Sides (m : MM) (h : mOK m) : CallOK Tryz.prog 13 [mQ m] [] (.tup [iv ((m.1 % 7).toNat : Nat), iv ((m.2.1 % 7).toNat : Nat)]) [] [] := by
  obtain ⟨h1, h2, _⟩ := h
  have e1 : IntKind.i64.wrap (m.1.tmod 7) = ((m.1 % 7).toNat : Nat) := by rw [Int.tmod_eq_emod_of_nonneg h1.1, wrap_i64 (by omega) (by omega)]; omega
  have e2 : IntKind.i64.wrap (m.2.1.tmod 7) = ((m.2.1 % 7).toNat : Nat) := by rw [Int.tmod_eq_emod_of_nonneg h2.1, wrap_i64 (by omega) (by omega)]; omega
  have e3 : IntKind.u8.wrap (m.1.tmod 7) = m.1.tmod 7 := by rw [Int.tmod_eq_emod_of_nonneg h1.1, wrap_u8 (by omega) (by omega)]
  have e4 : IntKind.u8.wrap (m.2.1.tmod 7) = m.2.1.tmod 7 := by rw [Int.tmod_eq_emod_of_nonneg h2.1, wrap_u8 (by omega) (by omega)]
  refine callV (Z := []) tabOK mixedOK Tryz.func13 rfl (by kernel_rfl) rfl rfl (by kernel_rfl) rfl ?_
  intro W0 w0 ρ0 hE
  conv => whnf
  (repeat ((first | refine step_i (by kernel_rfl) ?_ | refine step_oN (by first | omega | decide | (simp only [tiB5, tiB66, tiB3, tiB2, tiB9, tiB43, tiB87, tiB29, tiB33, tiB41, tiB35, tiB4, tiB83, tiB85, tiB121, tiB31, tiB82, tiB37, dlen, List.length_replicate, List.length_set, List.length_map, List.length_zipWith, List.length_take, List.length_append, List.length_cons, List.length_nil]; omega)) ?_ | rw [e1] | rw [e2]); conv => whnf)); (first | exact Recast.refl _ | exact Frz.recast (Recast.refl _) rfl | (refine Frz.one rfl rfl ?_; skip) | (refine Frz.tup ?_; skip))
theorem app_one {α : Type} {l : List α} {i : Nat} {d : α} (h : i < l.length) : l.take (i + 1) = (l.take i).take i ++ (([l.getD i d] : List α).drop 0).take 1 := (app_snoc h).symm
theorem c_Some (m : MM) (hm : mOK m) {r c : Nat} (hr : r ≤ 12) (hc : c ≤ 12) : CallOK Tryz.prog 32 [mQ m, iv r, iv c] [] (mA r c (someL m.2.2 (r * c))) [] [] := by
  obtain ⟨A, B, l⟩ := m
  obtain ⟨_, _, hl, hq⟩ := hm
  replace hl : l.length ≤ maxLen := hl
  have hz := someL_len l (r * c)
  have hN : r * c ≤ 12 * 12 := Nat.mul_le_mul hr hc
  have t0 : IntKind.i64.wrap ((r : Int) * (c : Int)) = ((r * c : Nat) : Int) := by rw [← Int.natCast_mul, wrap_i64 (by omega) (by omega)]
  generalize r * c = N at *
  refine callF (Z := [3]) tabOK mixedOK Tryz.func32 rfl (by kernel_rfl) (by first | rfl | (simp [keylessL, keyless, keylessL_map, *]; done)) (by first | rfl | (simp [keylessL, keyless, keylessL_map, *]; done)) (by kernel_rfl) rfl ?_
  intro w0 ρ0 hE
  conv => whnf
  skip
  refine SWx_adoptB (j := 7) (k := 2001) (s := 5) (p := 2) (blk := fblk []) rfl rfl rfl rfl rfl ?_
  refine SW_loopS hE (fun k => k) [1, 2, 3, 6, 7, 8] [6, 7, 2001] (fun m fr hp => ∃ i : Nat, m = N - i ∧ i ≤ N ∧ fr = [(1, iv r), (2, iv c), (3, ptrA [iel .u8 A, iel .u8 B, mvec 2 qA l]), (6, .ptr 6 0 0 0), (7, .ptr 7 0 0 0), (8, iv (i : Nat))] ∧
    hp = [(6, zM), (7, ⟨31, true, .one [iv r, iv c, .slc 2001 5 0 i]⟩), (2001, fblk ((someL l N).take i))]) N ?_ ?_ ?_
  · kernel_rfl
  · exact ⟨0, rfl, Nat.zero_le _, rfl, rfl⟩
  rintro m _ _ ⟨i, rfl, hi, rfl, rfl⟩
  have hlt0 : ((someL l N).take i).length = i := by rw [List.length_take]; omega
  by_cases hlt : i < N
  · have t1 := dlt hlt
    have t2 := winc (i := i) (by omega)
    have o1 := c_QOf (l.getD i (0, 0)) (qOK_at hq i)
    rw [show qV (l.getD i (0, 0)) = (someL l N).getD i 0 from (someL_get hlt).symm] at o1
    have e1 := app_one (d := (0 : Rat)) (show i < (someL l N).length by omega)
    refine SWx.of hE ?_
    conv => whnf
    by_cases hil : i < l.length
    · have t3 := dlt hil
      (repeat ((first | refine step_w1 rfl rfl ?_ | refine step_i (by kernel_rfl) ?_ | refine step_oA (by first | omega | decide | (simp only [tiB5, tiB66, tiB3, tiB2, tiB9, tiB43, tiB87, tiB29, tiB33, tiB41, tiB35, tiB4, tiB83, tiB85, tiB121, tiB31, tiB82, tiB37, dlen, List.length_replicate, List.length_set, List.length_map, List.length_zipWith, List.length_take, List.length_append, List.length_cons, List.length_nil]; omega)) ?_ | refine g_c (by assumption) ?_ | refine g_o (op_lenM rfl rfl rfl (ev_ok rfl) (tgt rfl) rfl) ?_ | refine g_o (op_loadA rfl (ev_ok rfl) (tgt rfl) rfl (Nat.succ_ne_zero _) rfl) ?_ | refine g_o (op_indexN (α := Int × Int) (d := (0, 0)) rfl (ev_ok rfl) (ev_ok rfl) (tgt rfl) rfl (tgt rfl) rfl (by omega)) ?_ | refine g_o (op_fieldA rfl (ev_ok rfl) (tgt rfl) rfl rfl (Nat.succ_ne_zero _) rfl) ?_ | rw [t0] | rw [t1] | rw [t3] | rw [t2] | rw [Nat.zero_add]); conv => whnf))
      refine ⟨N - (i + 1), renBy [(36, 2001)], [1, 2, 3, 6, 7, 8], [6, 7, 36], by omega, by kernel_rfl, i + 1, rfl, hlt, rfl, ?_⟩
      rw [e1]; rfl
    · have t3 := dge hil
      rw [show l.getD i (0, 0) = (0, 0) from by rw [List.getD_eq_getElem?_getD, List.getElem?_eq_none (by omega)]; rfl] at o1
      (repeat ((first | refine step_w1 rfl rfl ?_ | refine step_w2 rfl rfl ?_ | refine step_i (by kernel_rfl) ?_ | refine step_oA (by first | omega | decide | (simp only [tiB5, tiB66, tiB3, tiB2, tiB9, tiB43, tiB87, tiB29, tiB33, tiB41, tiB35, tiB4, tiB83, tiB85, tiB121, tiB31, tiB82, tiB37, dlen, List.length_replicate, List.length_set, List.length_map, List.length_zipWith, List.length_take, List.length_append, List.length_cons, List.length_nil]; omega)) ?_ | refine g_c (by assumption) ?_ | refine g_o (op_lenM rfl rfl rfl (ev_ok rfl) (tgt rfl) rfl) ?_ | refine g_o (op_loadA rfl (ev_ok rfl) (tgt rfl) rfl (Nat.succ_ne_zero _) rfl) ?_ | refine g_o (op_fieldA rfl (ev_ok rfl) (tgt rfl) rfl rfl (Nat.succ_ne_zero _) rfl) ?_ | rw [t0] | rw [t1] | rw [t3] | rw [t2] | rw [Nat.zero_add]); conv => whnf))
      refine ⟨N - (i + 1), renBy [(36, 2001)], [1, 2, 3, 6, 7, 8], [6, 7, 36], by omega, by kernel_rfl, i + 1, rfl, hlt, rfl, ?_⟩
      rw [e1]; rfl
  · have t1 := dge hlt
    obtain rfl : i = N := by omega
    rw [List.take_of_length_le (by omega)]
    refine SWx.of hE ?_
    conv => whnf
    (repeat (first | (refine step_w2 rfl rfl ?_; conv => whnf) | (rw [t0]; conv => whnf) | (rw [t1]; conv => whnf)))
    (first | exact Recast.refl _ | exact Frz.recast (Recast.refl _) rfl | (refine Frz.one rfl rfl ?_; (repeat (first | exact FrzC.keyless rfl | exact FrzL.nil | refine FrzL.cons ?_ ?_ | (refine FrzC.fracs rfl ?_; (first | rfl | omega | (simp <;> fail) | (simp <;> omega))) | refine FrzC.agg ?_))) | (refine Frz.tup ?_; skip))
theorem someL_zero {l : List (Int × Int)} {n i : Nat} (h : l.length ≤ i) : someL l n = (someL l n).take i ++ List.replicate (n - i) 0 := by
  apply List.ext_getElem
  · rw [List.length_append, List.length_take, someL_len, List.length_replicate]; omega
  · intro j h1 h2
    rw [someL_len] at h1
    rw [List.getElem_append]
    split
    · simp
    · rename_i h3
      rw [List.length_take, someL_len] at h3
      simp only [List.getElem_replicate, someL, List.getElem_map, List.getElem_range, eQ]
      rw [List.getD_eq_getElem?_getD, List.getElem?_eq_none (by omega)]; decide +kernel
theorem c_vec (l : List (Int × Int)) (hl : l.length ≤ maxLen) (h : ∀ q ∈ l, qOK q) {n : Nat} (hn : n ≤ 2048) : CallOK Tryz.prog 15 [mvec 2 qA l, iv n] [] (fvec (someL l n)) [] [] := by
  have hz := someL_len l n
  refine callF (Z := []) tabOK mixedOK Tryz.func15 rfl (by kernel_rfl) (by first | rfl | (simp [keylessL, keyless, keylessL_map, *]; done)) (by first | rfl | (simp [keylessL, keyless, keylessL_map, *]; done)) (by kernel_rfl) rfl ?_
  intro w0 ρ0 hE
  conv => whnf
  (repeat (first | (refine step_oA (by first | omega | decide | (simp only [tiB5, tiB66, tiB3, tiB2, tiB9, tiB43, tiB87, tiB29, tiB33, tiB41, tiB35, tiB4, tiB83, tiB85, tiB121, tiB31, tiB82, tiB37, dlen, List.length_replicate, List.length_set, List.length_map, List.length_zipWith, List.length_take, List.length_append, List.length_cons, List.length_nil]; omega)) ?_; conv => whnf) | (rw [Int.toNat_natCast]; conv => whnf)))
  refine SW_loopN hE (fun k => k) [0, 1, 5, 6] [8] (fun m fr hp => ∃ i : Nat, m = n - i ∧ i ≤ n ∧ fr = [(0, mvec 2 qA l), (1, iv n), (5, .slc 8 5 0 n), (6, iv (i : Nat))] ∧ hp = [(8, fblk ((someL l n).take i ++ List.replicate (n - i) 0))]) n ?_ ?_ ?_
  · kernel_rfl
  · exact ⟨0, rfl, Nat.zero_le _, rfl, rfl⟩
  rintro m _ _ ⟨i, rfl, hi, rfl, rfl⟩
  have hlen := fill_len (d := (0 : Rat)) hi hz
  conv => whnf
  by_cases hlt : i < n
  · have t1 := dlt hlt
    have t2 := winc (i := i) (by omega)
    by_cases hil : i < l.length
    · have t3 := dlt hil
      have o1 := c_QOf (l.getD i (0, 0)) (qOK_at h i)
      rw [show qV (l.getD i (0, 0)) = (someL l n).getD i 0 from (someL_get hlt).symm] at o1
      (repeat ((first | refine step_w1 rfl rfl ?_ | refine step_oL (by first | omega | decide | (simp only [tiB5, tiB66, tiB3, tiB2, tiB9, tiB43, tiB87, tiB29, tiB33, tiB41, tiB35, tiB4, tiB83, tiB85, tiB121, tiB31, tiB82, tiB37, dlen, List.length_replicate, List.length_set, List.length_map, List.length_zipWith, List.length_take, List.length_append, List.length_cons, List.length_nil]; omega)) ?_ | refine step_oA (by first | omega | decide | (simp only [tiB5, tiB66, tiB3, tiB2, tiB9, tiB43, tiB87, tiB29, tiB33, tiB41, tiB35, tiB4, tiB83, tiB85, tiB121, tiB31, tiB82, tiB37, dlen, List.length_replicate, List.length_set, List.length_map, List.length_zipWith, List.length_take, List.length_append, List.length_cons, List.length_nil]; omega)) ?_ | refine g_c (by assumption) ?_ | refine g_o (op_pickT rfl (ev_ok rfl) (ev_ok rfl)) ?_ | refine g_o (op_lenM rfl rfl rfl (ev_ok rfl) (tgt rfl) rfl) ?_ | refine g_o (op_loadA rfl (ev_ok rfl) (tgt rfl) rfl (Nat.succ_ne_zero _) rfl) ?_ | refine g_o (op_indexN (α := Int × Int) (d := (0, 0)) rfl (ev_ok rfl) (ev_ok rfl) (tgt rfl) rfl (tgt rfl) rfl (by omega)) ?_ | rw [t1] | rw [t3] | rw [t2] | rw [Int.toNat_natCast] | rw [Nat.zero_add]); conv => whnf))
      refine ⟨n - (i + 1), fun k => k, [0, 1, 5, 6], [8], by omega, by kernel_rfl, i + 1, rfl, hlt, rfl, ?_⟩
      rw [fblk, ← fill_set (e := 0) hlt hz]
      rfl
    · have t3 := dge hil
      rw [← someL_zero (by omega)] at *
      (repeat ((first | refine step_w1 rfl rfl ?_ | refine step_w2 rfl rfl ?_ | refine g_o (op_pickT rfl (ev_ok rfl) (ev_ok rfl)) ?_ | refine g_o (op_lenM rfl rfl rfl (ev_ok rfl) (tgt rfl) rfl) ?_ | rw [t1] | rw [t3]); conv => whnf))
      (first | exact Recast.refl _ | exact Frz.recast (Recast.refl _) rfl | (refine Frz.one rfl rfl ?_; (repeat (first | (refine FrzC.fracs rfl ?_; (first | rfl | omega | (simp <;> fail) | (simp <;> omega)))))) | (refine Frz.tup ?_; skip))
  · have t1 := dge hlt
    obtain rfl : i = n := by omega
    rw [fill_all hz] at *
    (repeat (first | (refine step_w2 rfl rfl ?_; conv => whnf) | (refine g_o (op_pickF rfl (ev_ok rfl) (ev_ok rfl)) ?_; conv => whnf) | (rw [t1]; conv => whnf)))
    (first | exact Recast.refl _ | exact Frz.recast (Recast.refl _) rfl | (refine Frz.one rfl rfl ?_; (repeat (first | (refine FrzC.fracs rfl ?_; (first | rfl | omega | (simp <;> fail) | (simp <;> omega)))))) | (refine Frz.tup ?_; skip))
end Go.Proofs.YtcincnngdohfnaaGreatDoor

namespace Go.Proofs.YtcincnngdohfnaaGreatDoor
open Go.Sx
set_option linter.unusedSimpArgs false
set_option linter.unusedVariables false
set_option maxRecDepth 100000
set_option maxHeartbeats 4000000

def tdF : Nat → Nat → List Nat
  | 0, _ => []
  | f + 1, n => if n = 0 then [] else n % 10000 :: tdF f (n / 10000)
def tdW (n : Nat) : List Nat := tdF n n
/-- Words are 32 bits wide. -/
def W4 (xs : List Int) : Prop := ∀ i, 0 ≤ xs.getD i 0 ∧ xs.getD i 0 < 10000

theorem W4.set {xs : List Int} (h : W4 xs) {i : Nat} {v : Int} (h0 : 0 ≤ v) (h1 : v < 10000) : W4 (xs.set i v) := by
  intro j
  rw [getD_set]
  split
  · exact ⟨h0, h1⟩
  · exact h j

/-- The tdW as the machine has them. -/
def td (n : Nat) : List Int := (tdW n).map Int.ofNat

end Go.Proofs.YtcincnngdohfnaaGreatDoor

namespace Go.Proofs.YtcincnngdohfnaaGreatDoor
open Go.Sx
set_option linter.unusedSimpArgs false
set_option linter.unusedVariables false
set_option maxRecDepth 100000
set_option maxHeartbeats 4000000

end Go.Proofs.YtcincnngdohfnaaGreatDoor

namespace Go.Proofs.YtcincnngdohfnaaGreatDoor
open Go.Sx
set_option linter.unusedSimpArgs false
set_option linter.unusedVariables false
set_option maxRecDepth 100000
set_option maxHeartbeats 4000000

end Go.Proofs.YtcincnngdohfnaaGreatDoor

namespace Go.Proofs.YtcincnngdohfnaaGreatDoor
open Go.Sx
set_option linter.unusedSimpArgs false
set_option linter.unusedVariables false
set_option maxRecDepth 100000
set_option maxHeartbeats 4000000

end Go.Proofs.YtcincnngdohfnaaGreatDoor

namespace Go.Proofs.YtcincnngdohfnaaGreatDoor
open Go.Sx
set_option linter.unusedSimpArgs false
set_option linter.unusedVariables false
set_option maxRecDepth 100000
set_option maxHeartbeats 4000000

end Go.Proofs.YtcincnngdohfnaaGreatDoor

namespace Go.Proofs.YtcincnngdohfnaaGreatDoor
open Go.Sx
set_option linter.unusedSimpArgs false
set_option linter.unusedVariables false
set_option maxRecDepth 100000
set_option maxHeartbeats 4000000

section
variable {a b R d P F T lb : Nat}
end
end Go.Proofs.YtcincnngdohfnaaGreatDoor

namespace Go.Proofs.YtcincnngdohfnaaGreatDoor
open Go.Sx
set_option linter.unusedSimpArgs false
set_option linter.unusedVariables false
set_option maxRecDepth 100000
set_option maxHeartbeats 4000000

end Go.Proofs.YtcincnngdohfnaaGreatDoor

namespace Go.Proofs.YtcincnngdohfnaaGreatDoor
open Go.Sx
set_option linter.unusedSimpArgs false
set_option linter.unusedVariables false
set_option maxRecDepth 100000
set_option maxHeartbeats 4000000

end Go.Proofs.YtcincnngdohfnaaGreatDoor

namespace Go.Proofs.YtcincnngdohfnaaGreatDoor
open Go.Sx
set_option linter.unusedSimpArgs false
set_option linter.unusedVariables false
set_option maxRecDepth 100000
set_option maxHeartbeats 4000000

end Go.Proofs.YtcincnngdohfnaaGreatDoor

namespace Go.Proofs.YtcincnngdohfnaaGreatDoor
open Go.Sx
set_option linter.unusedSimpArgs false
set_option linter.unusedVariables false
set_option maxRecDepth 100000
set_option maxHeartbeats 4000000

end Go.Proofs.YtcincnngdohfnaaGreatDoor

namespace Go.Proofs.YtcincnngdohfnaaGreatDoor
open Go.Sx
set_option linter.unusedSimpArgs false
set_option linter.unusedVariables false
set_option maxRecDepth 100000
set_option maxHeartbeats 4000000

end Go.Proofs.YtcincnngdohfnaaGreatDoor

namespace Go.Proofs.YtcincnngdohfnaaGreatDoor
open Go.Sx
set_option linter.unusedSimpArgs false
set_option linter.unusedVariables false
set_option maxRecDepth 100000
set_option maxHeartbeats 4000000

end Go.Proofs.YtcincnngdohfnaaGreatDoor

namespace Go.Proofs.YtcincnngdohfnaaGreatDoor
open Go.Sx
set_option linter.unusedSimpArgs false
set_option linter.unusedVariables false
set_option maxRecDepth 100000
set_option maxHeartbeats 4000000

theorem Sm_turn {r c B : Nat} {a : List Rat} (ha : a.length = r * c) (sa : Sm B a) : Sm B (mturn r c a) := Sm_mk fun _ _ hi hk => el_sm sa ha hk hi
end Go.Proofs.YtcincnngdohfnaaGreatDoor

namespace Go.Proofs.YtcincnngdohfnaaGreatDoor
open Go.Sx
set_option linter.unusedSimpArgs false
set_option linter.unusedVariables false
set_option maxRecDepth 100000
set_option maxHeartbeats 4000000

abbrev m4 : List Rat := ofInts [1, 2, 3, 4]
theorem l_works13 : CallOK Tryz.prog 12 [] [] (.val (.bool true)) [] [] := by
  have h4 : OKM 2 2 m4 := ⟨by decide, by decide, rfl⟩
  have s4 : Sm 20 m4 := by unfold Sm; decide +kernel
  have st : Sm 20 (mturn 2 2 m4) := by unfold Sm; decide +kernel
  have sp : Sm 20 (mmul 2 2 2 m4 m4) := by unfold Sm; decide +kernel
  have s1 : Sm 20 (ofInts [1, -1]) := by unfold Sm; decide +kernel
  have s2 : Sm 20 (ofInts [1, 0]) := by unfold Sm; decide +kernel
  have s3 : Sm 20 (ofInts [0, 1]) := by unfold Sm; decide +kernel
  have o1 := m_Of 2 2 [1, 2, 3, 4] (by decide) (by decide) rfl (by decide)
  have o2 := m_Turn h4
  have o3 := m_Mul 2 h4 h4 s4 s4 (by decide) (by decide)
  have v1 := v_Of [1, -1] (by decide) (by decide)
  have v2 := v_Of [1, 0] (by decide) (by decide)
  have v3 := v_Of [0, 1] (by decide) (by decide)
  have o4 := m_Apply 2 h4 (v := ofInts [1, -1]) rfl s4 s1 (by decide) (by decide)
  have o5 := m_Form 2 h4 (v := ofInts [1, 0]) (w := ofInts [0, 1]) rfl rfl s4 s2 s3 (by decide) (by decide) (by decide) (by decide)
  have t1 := m_Text h4 s4 (by decide)
  have t2 := m_Text (r := 2) (c := 2) (B := 20) (a := mturn 2 2 m4) ⟨by decide, by decide, rfl⟩ st (by decide)
  have t3 := m_Text (r := 2) (c := 2) (B := 20) (a := mmul 2 2 2 m4 m4) ⟨by decide, by decide, rfl⟩ sp (by decide)
  have t4 := t_VecG (mapply 2 2 m4 (ofInts [1, -1])) 20 (by decide) (by decide +kernel) (by decide)
  have o6 := c_fInt 2 (by decide) (by decide)
  have o7 := m_OfE 2 2 [1] (by decide) (by decide) (by decide)
  have o8 := (m_OfE (-1) 2049 [] (by decide) (by decide) (by decide)).wk (args := [iv (-1), iv 2049, .val (.slice none 0 0)]) (by repeat (first | exact WkL.nil | refine WkL.cons ?_ ?_ | exact Wk.nil | exact Wk.refl | refine Wk.agg ?_))
  have o9 := (m_OfE 2049 0 [] (by decide) (by decide) (by decide)).wk (args := [iv 2049, iv 0, .val (.slice none 0 0)]) (by repeat (first | exact WkL.nil | refine WkL.cons ?_ ?_ | exact Wk.nil | exact Wk.refl | refine Wk.agg ?_))
  have o10 := (m_Of 0 3 [] (by decide) (by decide) rfl (by decide)).wk (args := [iv 0, iv 3, .val (.slice none 0 0)]) (by repeat (first | exact WkL.nil | refine WkL.cons ?_ ?_ | exact Wk.nil | exact Wk.refl | refine Wk.agg ?_))
  have o11 := m_Part h4 [1, 0] [1] (by decide) (by decide) (by decide) (by decide)
  have t5 := m_Text (a := mpart 2 m4 [1, 0] [1]) (r := 2) (c := 1) (B := 20) ⟨by decide, by decide, rfl⟩ (by unfold Sm; decide +kernel) (by decide)
  have o12 := m_Sum h4 (by decide +kernel)
  have o13 := c_fInt 10 (by decide) (by decide)
  have o14 := m_Symmetric h4
  have o15 := m_Symmetric (r := 0) (c := 3) (a := []) ⟨by decide, by decide, rfl⟩
  have e1 : sameF 2 2 2 2 m4 (mturn 2 2 m4) = false := by decide +kernel
  have e2 : sameF 0 3 3 0 [] (mturn 0 3 []) = false := by decide +kernel
  replace o14 : CallOK Tryz.prog 18 [mA 2 2 m4] [] (.val (.bool (sameF 2 2 2 2 m4 (mturn 2 2 m4)))) [] [] := o14
  replace o15 : CallOK Tryz.prog 18 [mA 0 3 []] [] (.val (.bool (sameF 0 3 3 0 [] (mturn 0 3 [])))) [] [] := o15
  rw [e1] at o14
  rw [e2] at o15
  have q1 : (!(tM 2 2 m4).toList == (ByteArray.mk #[91, 49, 32, 50, 93, 32, 91, 51, 32, 52, 93]).toList) = false := by decide +kernel
  have q2 : (!(tM 2 2 (mturn 2 2 m4)).toList == (ByteArray.mk #[91, 49, 32, 51, 93, 32, 91, 50, 32, 52, 93]).toList) = false := by decide +kernel
  have q3 : (!(tM 2 2 (mmul 2 2 2 m4 m4)).toList == (ByteArray.mk #[91, 55, 32, 49, 48, 93, 32, 91, 49, 53, 32, 50, 50, 93]).toList) = false := by decide +kernel
  have q4 : (!(tV (mapply 2 2 m4 (ofInts [1, -1]))).toList == (ByteArray.mk #[91, 45, 49, 32, 45, 49, 93]).toList) = false := by decide +kernel
  have q5 : (!decide (mform 2 2 m4 (ofInts [1, 0]) (ofInts [0, 1]) = ((2 : Int) : Rat))) = false := by decide +kernel
  have q6 : ((tM 2 1 (mpart 2 m4 [1, 0] [1])).toList == (ByteArray.mk #[91, 52, 93, 32, 91, 50, 93]).toList) = true := by decide +kernel
  have q7 : decide (List.foldl (· + ·) 0 m4 = ((10 : Int) : Rat)) = true := by decide +kernel
  refine callV (Z := [22, 39, 46, 48, 97, 115, 116]) tabOK mixedOK Tryz.func12 rfl (by kernel_rfl) rfl rfl (by kernel_rfl) rfl ?_
  intro W0 w0 ρ0 hE
  conv => whnf
  (repeat ((first | refine step_w1 rfl rfl ?_ | refine step_w2 rfl rfl ?_ | refine step_i (by kernel_rfl) ?_ | refine g_c (by assumption) ?_ | refine g_o (op_pickT rfl (ev_ok rfl) (ev_ok rfl)) ?_ | refine g_o (op_pickF rfl (ev_ok rfl) (ev_ok rfl)) ?_ | rw [beq_self_eq_true] | rw [bne_self_eq_false] | refine ⟨_, op_eqAgg tabOK goodOK rfl (ev_ok rfl) (ev_ok rfl) rfl rfl rfl rfl (q_same _ _) q_guard, ?_⟩ | refine ⟨_, op_neAgg tabOK goodOK rfl (ev_ok rfl) (ev_ok rfl) rfl rfl rfl rfl (q_same _ _) q_guard, ?_⟩ | rw [q1] | rw [q2] | rw [q3] | rw [q4] | rw [q5] | rw [q6] | rw [q7]); conv => whnf)); (first | exact Recast.refl _ | exact Frz.recast (Recast.refl _) rfl | (refine Frz.one rfl rfl ?_; skip) | (refine Frz.tup ?_; skip))
end Go.Proofs.YtcincnngdohfnaaGreatDoor

namespace Go.Proofs.YtcincnngdohfnaaGreatDoor
open Go.Sx
set_option linter.unusedSimpArgs false
set_option linter.unusedVariables false
set_option maxRecDepth 100000
set_option maxHeartbeats 8000000

theorem side_le (x : Int) : (x % 7).toNat ≤ 6 := by omega
theorem OKM_mk {r c : Nat} {F : Nat → Nat → Rat} (hr : r ≤ 2048) (hc : c ≤ 2048) : OKM r c (mk r c F) := ⟨hr, hc, mk_len ..⟩
/-- The bounds of a matrix as plain data. -/
abbrev MWf (m : MM) : Prop := ((Lit.int .u8 m.1).wf = true) ∧ ((Lit.int .u8 m.2.1).wf = true) ∧ (m.2.2.length ≤ maxLen ∧ ∀ x ∈ m.2.2, ((Lit.int .i64 x.1).wf = true) ∧ ((Lit.int .u32 x.2).wf = true))
theorem mOK_of {m : MM} (w : MWf m) : mOK m := ⟨wf_u8 w.1, wf_u8 w.2.1, w.2.2.1, qOK_of w.2.2⟩

theorem c_fewL (ms : List MM) (h : ms.length < 1000) (hl : ∀ m ∈ ms, mOK m) : CallOK Tryz.prog 11 [mvec 3 mQ ms] [] (.val (.bool (ms.all fun m => decide (m.2.2.length ≤ 40)))) [] [] := c_few ms h fun m hm => (hl m hm).2.2.1
end Go.Proofs.YtcincnngdohfnaaGreatDoor

namespace Go.Proofs.YtcincnngdohfnaaGreatDoor
open Go.Sx
set_option linter.unusedSimpArgs false
set_option linter.unusedVariables false
set_option maxRecDepth 100000
set_option maxHeartbeats 8000000

theorem l_mulM {r s t A B : Nat} (S : Nat) {a b : List Rat} (ha : OKM r s a) (hb : OKM s t b) (sa : Sm A a) (sb : Sm B b) (hS : s ≤ S) (h : A + B + (2 + S * (A + B)) ≤ 1073741824) :
    CallOK Tryz.prog 20 [mA r s a, mA s t b] [] (mA r t (mmul r s t a b)) [] [] := by
  have k1 := m_Mul S ha hb sa sb hS h
  refine callV (Z := []) tabOK mixedOK Tryz.func20 rfl (by kernel_rfl) rfl rfl (by kernel_rfl) rfl ?_
  intro W0 w0 ρ0 hE
  conv => whnf
  (repeat (first | (refine g_c (by assumption) ?_; conv => whnf))); (first | exact Recast.refl _ | exact Frz.recast (Recast.refl _) rfl | (refine Frz.one rfl rfl ?_; skip) | (refine Frz.tup ?_; skip))
theorem l_turnM {r c : Nat} {a : List Rat} (ha : OKM r c a) : CallOK Tryz.prog 17 [mA r c a] [] (mA c r (mturn r c a)) [] [] := by
  have k1 := m_Turn ha
  refine callV (Z := []) tabOK mixedOK Tryz.func17 rfl (by kernel_rfl) rfl rfl (by kernel_rfl) rfl ?_
  intro W0 w0 ρ0 hE
  conv => whnf
  (repeat (first | (refine g_c (by assumption) ?_; conv => whnf))); (first | exact Recast.refl _ | exact Frz.recast (Recast.refl _) rfl | (refine Frz.one rfl rfl ?_; skip) | (refine Frz.tup ?_; skip))
theorem u8_mod (x : Int) (h : 0 ≤ x ∧ x < 256) (m : Int) (hm : 0 < m ∧ m < 256) : IntKind.u8.wrap (x.tmod m) = x.tmod m ∧ IntKind.i64.wrap (x.tmod m) = ((x % m).toNat : Nat) := by
  have h1 := Int.emod_nonneg x (show m ≠ 0 by omega)
  have h2 := Int.emod_lt_of_pos x hm.1
  rw [Int.tmod_eq_emod_of_nonneg h.1]
  constructor
  · exact wrap_u8 h1 (by omega)
  · rw [wrap_i64 (by omega) (by omega)]; omega
theorem OKM_mul {r s t : Nat} {a b : List Rat} (ha : OKM r s a) (hb : OKM s t b) : OKM r t (mmul r s t a b) := OKM_mk ha.r hb.c
theorem OKM_turn {r c : Nat} {a : List Rat} (ha : OKM r c a) : OKM c r (mturn r c a) := OKM_mk ha.c ha.r
end Go.Proofs.YtcincnngdohfnaaGreatDoor

namespace Go.Proofs.YtcincnngdohfnaaGreatDoor
open Go.Sx
set_option linter.unusedSimpArgs false
set_option linter.unusedVariables false
set_option maxRecDepth 100000
set_option maxHeartbeats 8000000

/-- The symmetric matrix of an upper triangle, row by row, as the loops fill it. -/
def symK (l : List (Int × Int)) (n i : Nat) : Nat → Nat → List Rat → List Rat
  | 0, _, a => a
  | m + 1, t, a => symK l n i m (t + 1) (if t < l.length then (a.set (i * n + (n - (m + 1))) (qV (l.getD t (0, 0)))).set ((n - (m + 1)) * n + i) (qV (l.getD t (0, 0))) else a)
def symO (l : List (Int × Int)) (n : Nat) : Nat → Nat → List Rat → List Rat
  | 0, _, a => a
  | m + 1, t, a => symO l n m (t + (m + 1)) (symK l n (n - (m + 1)) (m + 1) t a)
def symL (l : List (Int × Int)) (n : Nat) : List Rat := symO l n n 0 (List.replicate (n * n) 0)
/-- A symmetric matrix with small elements. -/
def SymOK (n : Nat) (a : List Rat) : Prop := a.length = n * n ∧ SymM n a ∧ Sm 130 a
theorem symK_ok {l : List (Int × Int)} {n i : Nat} (hq : ∀ q ∈ l, qOK q) (hi : i < n) : ∀ m t a, m ≤ n → SymOK n a → SymOK n (symK l n i m t a)
  | 0, _, a, _, h => h
  | m + 1, t, a, hm, h => by
    rw [symK]
    refine symK_ok hq hi m (t + 1) _ (by omega) ?_
    by_cases ht : t < l.length
    · rw [if_pos ht]
      obtain ⟨h1, h2, h3⟩ := h
      have fq : fs (qV (l.getD t (0, 0))) ≤ 130 := fs_qV (qOK_at hq t)
      exact ⟨by rw [List.length_set, List.length_set, h1], SymM_set h1 h2 hi (by omega), Sm_set (Sm_set h3 fq) fq⟩
    · rw [if_neg ht]; exact h
theorem symO_ok {l : List (Int × Int)} {n : Nat} (hq : ∀ q ∈ l, qOK q) : ∀ m t a, m ≤ n → SymOK n a → SymOK n (symO l n m t a)
  | 0, _, a, _, h => h
  | m + 1, t, a, hm, h => by
    rw [symO]
    exact symO_ok hq m _ _ (by omega) (symK_ok hq (by omega) (m + 1) t a hm h)
theorem symL_ok {l : List (Int × Int)} (n : Nat) (hq : ∀ q ∈ l, qOK q) : SymOK n (symL l n) :=
  symO_ok hq n 0 _ (Nat.le_refl _) ⟨by simp, (fun i k hi hk => by rw [el, el, get_zero (idx_lt hi hk), get_zero (idx_lt hk hi)]), Sm_le (by decide) (Sm_zero _)⟩

theorem c_Symm (l : List (Int × Int)) (hl : l.length ≤ maxLen) (hq : ∀ q ∈ l, qOK q) {n : Nat} (hn : n ≤ 12) : CallOK Tryz.prog 24 [iv n, mvec 2 qA l] [] (mA n n (symL l n)) [] [] := by
  have hnn : n * n ≤ 12 * 12 := Nat.mul_le_mul hn hn
  have t0 : IntKind.i64.wrap ((n : Int) * (n : Int)) = ((n * n : Nat) : Int) := by rw [← Int.natCast_mul, wrap_i64 (by omega) (by omega)]
  have hlen := (symL_ok n hq).1
  refine callF (Z := []) tabOK mixedOK Tryz.func24 rfl (by kernel_rfl) (by first | rfl | (simp [keylessL, keyless, keylessL_map, *]; done)) (by first | rfl | (simp [keylessL, keyless, keylessL_map, *]; done)) (by kernel_rfl) rfl ?_
  intro w0 ρ0 hE
  conv => whnf
  (repeat (first | (refine And.intro (by first | decide | omega | (simp only [tiB5, tiB66, tiB3, tiB2, tiB9, tiB43, tiB87, tiB29, tiB33, tiB41, tiB35, tiB4, tiB83, tiB85, tiB121, tiB31, tiB82, tiB37, dlen, List.length_replicate, List.length_set, List.length_map, List.length_zipWith, List.length_take, List.length_append, List.length_cons, List.length_nil]; omega)) ?_; conv => whnf) | (rw [t0]; conv => whnf) | (rw [Int.toNat_natCast]; conv => whnf)))
  refine SW_loopN hE (fun k => k) [0, 1, 4, 5, 6, 7] [4, 5, 14] (fun m fr hp => ∃ (i t : Nat) (a : List Rat), m = n - i ∧ i ≤ n ∧ t ≤ i * 12 ∧ a.length = n * n ∧ symO l n (n - i) t a = symL l n ∧
    fr = [(0, iv n), (1, mvec 2 qA l), (4, .ptr 4 0 0 0), (5, .ptr 5 0 0 0), (6, iv (t : Nat)), (7, iv (i : Nat))] ∧ hp = [(4, zM), (5, bM n n 14), (14, fblk a)]) n ?_ ?_ ?_
  · kernel_rfl
  · exact ⟨0, 0, _, rfl, Nat.zero_le _, Nat.zero_le _, by simp, rfl, rfl, rfl⟩
  rintro m _ _ ⟨i, t, a, rfl, hi, ht, ha, hS, rfl, rfl⟩
  conv => whnf
  by_cases hlt : i < n
  · have t1 := dlt hlt
    have t2 := winc (i := i) (by omega)
    have e1 : n - i = (n - (i + 1)) + 1 := by omega
    have e2 : n - ((n - (i + 1)) + 1) = i := by omega
    rw [e1, symO, e2, ← e1] at hS
    (repeat (first | (refine step_w1 rfl rfl ?_; conv => whnf) | (rw [t1]; conv => whnf)))
    refine SW_loopN hE (fun k => k) [0, 1, 4, 5, 6, 7, 8] [4, 5, 14] (fun m fr hp => ∃ (k t : Nat) (a : List Rat), m = n - k ∧ i ≤ k ∧ k ≤ n ∧ t ≤ i * 12 + k ∧ a.length = n * n ∧ symO l n (n - (i + 1)) (t + (n - k)) (symK l n i (n - k) t a) = symL l n ∧
      fr = [(0, iv n), (1, mvec 2 qA l), (4, .ptr 4 0 0 0), (5, .ptr 5 0 0 0), (6, iv (t : Nat)), (7, iv (i : Nat)), (8, iv (k : Nat))] ∧ hp = [(4, zM), (5, bM n n 14), (14, fblk a)]) (n - i) ?_ ?_ ?_
    · kernel_rfl
    · exact ⟨i, t, a, rfl, Nat.le_refl _, hi, by omega, ha, hS, rfl, rfl⟩
    clear hS ht ha
    rintro m _ _ ⟨k, t, a, rfl, hik, hk, ht, ha, hS, rfl, rfl⟩
    conv => whnf
    by_cases hlk : k < n
    · have t3 := dlt hlk
      have t4 := winc (i := k) (by omega)
      have t5 := winc (i := t) (by omega)
      have e3 : n - k = (n - (k + 1)) + 1 := by omega
      have e4 : n - ((n - (k + 1)) + 1) = k := by omega
      have e5 : t + (n - k) = t + 1 + (n - (k + 1)) := by omega
      rw [e5, e3, symK, e4] at hS
      by_cases htl : t < l.length
      · have t6 := dlt htl
        have o1 := c_QOf (l.getD t (0, 0)) (qOK_at hq t)
        rw [if_pos htl] at hS
        obtain ⟨w1, w2⟩ := idx_w (i := i) (k := k) (c := n) (by omega) (by omega) (by omega)
        obtain ⟨w3, w4⟩ := idx_w (i := k) (k := i) (c := n) (by omega) (by omega) (by omega)
        have b1 := idx_lt hlt hlk
        have b2 := idx_lt hlk hlt
        (repeat ((first | refine step_w1 rfl rfl ?_ | refine step_i (by kernel_rfl) ?_ | refine And.intro (by first | decide | omega | (simp only [tiB5, tiB66, tiB3, tiB2, tiB9, tiB43, tiB87, tiB29, tiB33, tiB41, tiB35, tiB4, tiB83, tiB85, tiB121, tiB31, tiB82, tiB37, dlen, List.length_replicate, List.length_set, List.length_map, List.length_zipWith, List.length_take, List.length_append, List.length_cons, List.length_nil]; omega)) ?_ | refine g_c (by assumption) ?_ | refine g_o (op_lenM rfl rfl rfl (ev_ok rfl) (tgt rfl) rfl) ?_ | refine g_o (op_loadA rfl (ev_ok rfl) (tgt rfl) rfl (Nat.succ_ne_zero _) rfl) ?_ | refine g_o (op_indexN (α := Int × Int) (d := (0, 0)) rfl (ev_ok rfl) (ev_ok rfl) (tgt rfl) rfl (tgt rfl) rfl (by omega)) ?_ | rw [t3] | rw [t6] | rw [w1] | rw [w2] | rw [w3] | rw [w4] | rw [t5] | rw [t4] | rw [Int.toNat_natCast] | rw [Nat.zero_add]); conv => whnf))
        refine ⟨n - (k + 1), fun k => k, [0, 1, 4, 5, 6, 7, 8], [4, 5, 14], by omega, by kernel_rfl, k + 1, t + 1, _, rfl, by omega, hlk, by omega, ?_, hS, rfl, rfl⟩
        rw [List.length_set, List.length_set, ha]
      · have t6 := dge htl
        rw [if_neg htl] at hS
        (repeat ((first | refine step_w1 rfl rfl ?_ | refine step_w2 rfl rfl ?_ | refine g_o (op_lenM rfl rfl rfl (ev_ok rfl) (tgt rfl) rfl) ?_ | rw [t3] | rw [t6] | rw [t5] | rw [t4]); conv => whnf))
        exact ⟨n - (k + 1), fun k => k, [0, 1, 4, 5, 6, 7, 8], [4, 5, 14], by omega, by kernel_rfl, k + 1, t + 1, a, rfl, by omega, hlk, by omega, ha, hS, rfl, rfl⟩
    · have t3 := dge hlk
      obtain rfl : k = n := by omega
      rw [Nat.sub_self, symK] at hS
      (repeat (first | (refine step_w2 rfl rfl ?_; conv => whnf) | (rw [t3]; conv => whnf) | (rw [t2]; conv => whnf)))
      exact ⟨k - (i + 1), fun k => k, [0, 1, 4, 5, 6, 7], [4, 5, 14], by omega, by kernel_rfl, i + 1, t, a, rfl, hlt, by omega, ha, hS, rfl, rfl⟩
  · have t1 := dge hlt
    obtain rfl : i = n := by omega
    rw [Nat.sub_self, symO] at hS
    subst hS
    (repeat (first | (refine step_w2 rfl rfl ?_; conv => whnf) | (rw [t1]; conv => whnf)))
    (first | exact Recast.refl _ | exact Frz.recast (Recast.refl _) rfl | (refine Frz.one rfl rfl ?_; (repeat (first | exact FrzC.keyless rfl | exact FrzL.nil | refine FrzL.cons ?_ ?_ | (refine FrzC.fracs rfl ?_; (first | rfl | omega | (simp <;> fail) | (simp <;> omega))) | refine FrzC.agg ?_))) | (refine Frz.tup ?_; skip))

theorem c_MOf (m : MM) (hm : mOK m) : CallOK Tryz.prog 14 [mQ m] [] (mA ((m.1 % 7).toNat : Nat) ((m.2.1 % 7).toNat : Nat) (someL m.2.2 ((m.1 % 7).toNat * (m.2.1 % 7).toNat))) [] [] := by
  obtain ⟨e1, e2⟩ := u8_mod m.1 hm.1 7 (by decide)
  obtain ⟨e3, e4⟩ := u8_mod m.2.1 hm.2.1 7 (by decide)
  have h1 := side_le m.1
  have h2 := side_le m.2.1
  generalize hr : (m.1 % 7).toNat = r at *
  generalize hc : (m.2.1 % 7).toNat = c at *
  have k1 := c_Some m hm (r := r) (c := c) (by omega) (by omega)
  refine callV (Z := []) tabOK mixedOK Tryz.func14 rfl (by kernel_rfl) rfl rfl (by kernel_rfl) rfl ?_
  intro W0 w0 ρ0 hE
  conv => whnf
  (repeat ((first | refine And.intro (by first | decide | omega | (simp only [tiB5, tiB66, tiB3, tiB2, tiB9, tiB43, tiB87, tiB29, tiB33, tiB41, tiB35, tiB4, tiB83, tiB85, tiB121, tiB31, tiB82, tiB37, dlen, List.length_replicate, List.length_set, List.length_map, List.length_zipWith, List.length_take, List.length_append, List.length_cons, List.length_nil]; omega)) ?_ | refine g_c (by assumption) ?_ | rw [e2] | rw [e4]); conv => whnf)); (first | exact Recast.refl _ | exact Frz.recast (Recast.refl _) rfl | (refine Frz.one rfl rfl ?_; skip) | (refine Frz.tup ?_; skip))
end Go.Proofs.YtcincnngdohfnaaGreatDoor

namespace Go.Proofs.YtcincnngdohfnaaGreatDoor
open Go.Sx
set_option linter.unusedSimpArgs false
set_option linter.unusedVariables false
set_option maxRecDepth 100000
set_option maxHeartbeats 8000000

theorem same_turn {r c : Nat} {a T : List Rat} : sameF r c c r a T = (((r : Int) == (c : Int)) && sameF c r r c T a) := by
  unfold sameF
  by_cases h : r = c
  · subst h
    simp [eq_comm]
  · have h1 : ((r : Int) == (c : Int)) = false := by rw [beq_eq_false_iff_ne]; omega
    rw [h1]; rfl
theorem same_sym {n : Nat} {a : List Rat} (h : mturn n n a = a) : sameF n n n n a (mturn n n a) = true := by simp [sameF, h]
theorem c_Forms (a : MM) (v w l : List (Int × Int)) (ha : mOK a) (hv : v.length ≤ maxLen ∧ ∀ q ∈ v, qOK q) (hw : w.length ≤ maxLen ∧ ∀ q ∈ w, qOK q) (hl : l.length ≤ maxLen ∧ ∀ q ∈ l, qOK q) :
    CallOK Tryz.prog 3 [mQ a, mvec 2 qA v, mvec 2 qA w, mvec 2 qA l] [] (.val (.bool true)) [] [] := by
  have kw := l_works13
  have kf := c_fewL [a] (by simp) (by intro m hm; simp only [List.mem_cons, List.not_mem_nil, or_false] at hm; obtain rfl := hm; assumption)
  cases hF : [a].all fun m => decide (m.2.2.length ≤ 40)
  · rw [hF] at kf
    refine callV (Z := [4, 32]) tabOK mixedOK Tryz.func3 rfl (by kernel_rfl) rfl rfl (by kernel_rfl) rfl ?_
    intro W0 w0 ρ0 hE
    conv => whnf
    (repeat ((first | refine step_w1 rfl rfl ?_ | refine step_w2 rfl rfl ?_ | refine g_c (by assumption) ?_ | refine g_o (op_pickT rfl (ev_ok rfl) (ev_ok rfl)) ?_ | refine g_o (op_loadA rfl (ev_ok rfl) (tgt rfl) rfl (Nat.succ_ne_zero _) rfl) ?_); conv => whnf)); (first | exact Recast.refl _ | exact Frz.recast (Recast.refl _) rfl | (refine Frz.one rfl rfl ?_; skip) | (refine Frz.tup ?_; skip))
  rw [hF] at kf
  by_cases hl1 : v.length > 20
  · have t1 : decide ((v.length : Int) > 20) = true := decide_eq_true (by omega)
    refine callV (Z := [4, 32]) tabOK mixedOK Tryz.func3 rfl (by kernel_rfl) rfl rfl (by kernel_rfl) rfl ?_
    intro W0 w0 ρ0 hE
    conv => whnf
    (repeat ((first | refine step_w1 rfl rfl ?_ | refine step_w2 rfl rfl ?_ | refine g_c (by assumption) ?_ | refine g_o (op_pickT rfl (ev_ok rfl) (ev_ok rfl)) ?_ | refine g_o (op_pickF rfl (ev_ok rfl) (ev_ok rfl)) ?_ | refine g_o (op_lenM rfl rfl rfl (ev_ok rfl) (tgt rfl) rfl) ?_ | refine g_o (op_loadA rfl (ev_ok rfl) (tgt rfl) rfl (Nat.succ_ne_zero _) rfl) ?_ | rw [t1]); conv => whnf)); (first | exact Recast.refl _ | exact Frz.recast (Recast.refl _) rfl | (refine Frz.one rfl rfl ?_; skip) | (refine Frz.tup ?_; skip))
  have t1 : decide ((v.length : Int) > 20) = false := decide_eq_false (by omega)
  by_cases hl2 : w.length > 20
  · have t2 : decide ((w.length : Int) > 20) = true := decide_eq_true (by omega)
    refine callV (Z := [4, 32]) tabOK mixedOK Tryz.func3 rfl (by kernel_rfl) rfl rfl (by kernel_rfl) rfl ?_
    intro W0 w0 ρ0 hE
    conv => whnf
    (repeat ((first | refine step_w1 rfl rfl ?_ | refine step_w2 rfl rfl ?_ | refine g_c (by assumption) ?_ | refine g_o (op_pickT rfl (ev_ok rfl) (ev_ok rfl)) ?_ | refine g_o (op_pickF rfl (ev_ok rfl) (ev_ok rfl)) ?_ | refine g_o (op_lenM rfl rfl rfl (ev_ok rfl) (tgt rfl) rfl) ?_ | refine g_o (op_loadA rfl (ev_ok rfl) (tgt rfl) rfl (Nat.succ_ne_zero _) rfl) ?_ | rw [t1] | rw [t2]); conv => whnf)); (first | exact Recast.refl _ | exact Frz.recast (Recast.refl _) rfl | (refine Frz.one rfl rfl ?_; skip) | (refine Frz.tup ?_; skip))
  have t2 : decide ((w.length : Int) > 20) = false := decide_eq_false (by omega)
  by_cases hl3 : l.length > 40
  · have t3 : decide ((l.length : Int) > 40) = true := decide_eq_true (by omega)
    refine callV (Z := [4, 32]) tabOK mixedOK Tryz.func3 rfl (by kernel_rfl) rfl rfl (by kernel_rfl) rfl ?_
    intro W0 w0 ρ0 hE
    conv => whnf
    (repeat ((first | refine step_w1 rfl rfl ?_ | refine g_c (by assumption) ?_ | refine g_o (op_pickF rfl (ev_ok rfl) (ev_ok rfl)) ?_ | refine g_o (op_lenM rfl rfl rfl (ev_ok rfl) (tgt rfl) rfl) ?_ | refine g_o (op_loadA rfl (ev_ok rfl) (tgt rfl) rfl (Nat.succ_ne_zero _) rfl) ?_ | rw [t1] | rw [t2] | rw [t3]); conv => whnf)); (first | exact Recast.refl _ | exact Frz.recast (Recast.refl _) rfl | (refine Frz.one rfl rfl ?_; skip) | (refine Frz.tup ?_; skip))
  have t3 : decide ((l.length : Int) > 40) = false := decide_eq_false (by omega)
  have ks := c_Sides a ha
  have km := c_MOf a ha
  have n6 := side_le a.1
  have k6 := side_le a.2.1
  generalize (a.1 % 7).toNat = n at *
  generalize (a.2.1 % 7).toNat = k at *
  have v1 := c_vec v hv.1 hv.2 (n := n) (by omega)
  have v2 := c_vec w hw.1 hw.2 (n := k) (by omega)
  have v3 := c_vec w hw.1 hw.2 (n := n) (by omega)
  have ky := c_Symm l hl.1 hl.2 (n := n) (by omega)
  have hx := OKM_some a.2.2 (r := n) (c := k) (by omega) (by omega)
  have sx := Sm_some ha.2.2.2 (n * k)
  have l1 := someL_len v n
  have l2 := someL_len w k
  have l3 := someL_len w n
  have s1 := Sm_some hv.2 n
  have s2 := Sm_some hw.2 k
  have s3 := Sm_some hw.2 n
  obtain ⟨y1, y2, y3⟩ := symL_ok n hl.2
  generalize someL a.2.2 (n * k) = X at *
  generalize someL v n = vx at *
  generalize someL w k = vy at *
  generalize someL w n = z at *
  generalize symL l n = S at *
  have hy : OKM n n S := ⟨by omega, by omega, y1⟩
  have o1 := m_Form 6 hx l1 l2 sx s1 s2 k6 n6 (by decide) (by decide)
  have u1 := l_turnM hx
  have hT := OKM_turn hx
  have sT := Sm_turn hx.n sx
  have o2 := m_Form 6 hT l2 l1 sT s2 s1 n6 k6 (by decide) (by decide)
  rw [← form_turn l1 l2] at o2
  have o3 := m_Symmetric hx
  have o4 := m_Same k n n k (mturn n k X) X (by have := hT.small; omega) (by have := hx.small; omega)
  have g1 := l_mulM 6 hT hx sT sx n6 (by decide)
  have hG := OKM_mul hT hx
  have sG : Sm 1562 (mmul k n k (mturn n k X) X) := Sm_mul hT.n hx.n sT sx n6
  have o5 := m_Form 6 hG l2 l2 sG s2 s2 k6 k6 (by decide) (by decide)
  rw [gram_form l2] at o5
  have o6 := m_Apply 6 hx l2 sx s2 k6 (by decide)
  have sA : Sm 1562 (mapply n k X vy) := Sm_apply hx.n l2 sx s2 k6
  have lA : (mapply n k X vy).length = n := mapply_len
  have hs : fsL (vmul (mapply n k X vy) (mapply n k X vy)) ≤ _ := fsL_Sm (Sm_zip fs_mul sA sA rfl)
  rw [zip_len lA lA] at hs
  have hs2 := Nat.mul_le_mul_right (1562 + 1562) n6
  have o7 := v_Dot (mapply n k X vy) (mapply n k X vy) rfl (by omega) (Fit_Sm sA sA rfl (by decide)) (by omega)
  have o8 := m_Symmetric hG
  rw [same_sym gram_sym] at o8
  have hsg := sign_lt (self_nonneg lA)
  have o9 := c_fSign (vdot (mapply n k X vy) (mapply n k X vy))
  have o10 := m_Form 6 hy l1 l3 y3 s1 s3 n6 n6 (by decide) (by decide)
  have o11 := m_Form 6 hy l3 l1 y3 s3 s1 n6 n6 (by decide) (by decide)
  rw [sym_form y1 y2 l3 l1] at o11
  have o12 := m_Symmetric hy
  rw [same_sym (sym_turn y1 y2)] at o12
  have e1 : ((sameF n k k n X (mturn n k X)) != (((n : Int) == (k : Int)) && sameF k n n k (mturn n k X) X)) = false := by rw [same_turn]; exact bne_self_eq_false _
  clear hx sx l1 l2 l3 s1 s2 s3 y1 y2 y3 hy hT sT hG sG sA lA hs hs2 n6 k6 hF ha hv hw hl
  generalize mform n k X vx vy = f1 at *
  generalize mform n n S vx z = f2 at *
  generalize vdot (mapply n k X vy) (mapply n k X vy) = f3 at *
  generalize sameF n k k n X (mturn n k X) = b1 at *
  generalize sameF k n n k (mturn n k X) X = b2 at *
  generalize mmul k n k (mturn n k X) X = G at *
  generalize mapply n k X vy = A at *
  generalize mturn n k X = T at *
  have q1 : (!decide (f1 = f1)) = false := by rw [decide_eq_true rfl]; rfl
  have q2 : decide (f2 = f2) = true := decide_eq_true rfl
  have q3 : (!decide (f3 = f3)) = false := by rw [decide_eq_true rfl]; rfl
  refine callV (Z := [4, 32]) tabOK mixedOK Tryz.func3 rfl (by kernel_rfl) rfl rfl (by kernel_rfl) rfl ?_
  intro W0 w0 ρ0 hE
  conv => whnf
  cases hnk : ((n : Int) == (k : Int))
  · rw [hnk] at e1
    replace e1 : (b1 != false) = false := e1
    (repeat ((first | refine step_w1 rfl rfl ?_ | refine step_w2 rfl rfl ?_ | refine step_i (by kernel_rfl) ?_ | refine g_c (by assumption) ?_ | refine g_o (op_pickT rfl (ev_ok rfl) (ev_ok rfl)) ?_ | refine g_o (op_pickF rfl (ev_ok rfl) (ev_ok rfl)) ?_ | rw [beq_self_eq_true] | rw [bne_self_eq_false] | refine g_o (op_lenM rfl rfl rfl (ev_ok rfl) (tgt rfl) rfl) ?_ | refine g_o (op_loadA rfl (ev_ok rfl) (tgt rfl) rfl (Nat.succ_ne_zero _) rfl) ?_ | refine ⟨_, op_eqAgg tabOK goodOK rfl (ev_ok rfl) (ev_ok rfl) rfl rfl rfl rfl (q_same _ _) q_guard, ?_⟩ | refine ⟨_, op_neAgg tabOK goodOK rfl (ev_ok rfl) (ev_ok rfl) rfl rfl rfl rfl (q_same _ _) q_guard, ?_⟩ | rw [t1] | rw [t2] | rw [t3] | rw [q1] | rw [hnk] | rw [e1] | rw [q3] | rw [hsg] | rw [q2]); conv => whnf)); (first | exact Recast.refl _ | exact Frz.recast (Recast.refl _) rfl | (refine Frz.one rfl rfl ?_; skip) | (refine Frz.tup ?_; skip))
  · rw [hnk] at e1
    replace e1 : (b1 != b2) = false := e1
    (repeat ((first | refine step_w1 rfl rfl ?_ | refine step_w2 rfl rfl ?_ | refine step_i (by kernel_rfl) ?_ | refine g_c (by assumption) ?_ | refine g_o (op_pickT rfl (ev_ok rfl) (ev_ok rfl)) ?_ | refine g_o (op_pickF rfl (ev_ok rfl) (ev_ok rfl)) ?_ | rw [beq_self_eq_true] | rw [bne_self_eq_false] | refine g_o (op_lenM rfl rfl rfl (ev_ok rfl) (tgt rfl) rfl) ?_ | refine g_o (op_loadA rfl (ev_ok rfl) (tgt rfl) rfl (Nat.succ_ne_zero _) rfl) ?_ | refine ⟨_, op_eqAgg tabOK goodOK rfl (ev_ok rfl) (ev_ok rfl) rfl rfl rfl rfl (q_same _ _) q_guard, ?_⟩ | refine ⟨_, op_neAgg tabOK goodOK rfl (ev_ok rfl) (ev_ok rfl) rfl rfl rfl rfl (q_same _ _) q_guard, ?_⟩ | rw [t1] | rw [t2] | rw [t3] | rw [q1] | rw [hnk] | rw [e1] | rw [q3] | rw [hsg] | rw [q2]); conv => whnf)); (first | exact Recast.refl _ | exact Frz.recast (Recast.refl _) rfl | (refine Frz.one rfl rfl ?_; skip) | (refine Frz.tup ?_; skip))
theorem law_MatsForms (a0 : MM) (a1 a2 a3 : List (Int × Int)) (w0 : MWf a0) (w1 : QWf a1) (w2 : QWf a2) (w3 : QWf a3) :
    CallOK Tryz.prog 3 [mQ a0, mvec 2 qA a1, mvec 2 qA a2, mvec 2 qA a3] [] (.val (.bool true)) [] [] :=
  c_Forms a0 a1 a2 a3 (mOK_of w0) ⟨w1.1, qOK_of w1⟩ ⟨w2.1, qOK_of w2⟩ ⟨w3.1, qOK_of w3⟩
end Go.Proofs.YtcincnngdohfnaaGreatDoor

namespace Go.Proofs.YtcincnngdohfnaaGreatDoor.matsForms
open Go.ChangeShapes Go.WideShapes Go.ChangeAt Go.RowKit Go.Sx
set_option maxRecDepth 100000
set_option linter.unusedSimpArgs false

theorem own : ownKnob Tryz.prog.godebug = none := by kernel_rfl
theorem laidOut : laidOutB Tryz.prog = true := by kernel_rfl
theorem params : Tryz.f3.params.toList.all (fun t => Tryz.prog.readableRec t && decide (t < Tryz.prog.types.size)) = true := by kernel_rfl
theorem gTab0 : Tryz.prog.globalNamed "math/bits.deBruijn32tab" = some 3 := by kernel_rfl
theorem gTabType0 : (Tryz.prog.globals[3]?).map (·.type) = some 245 := by kernel_rfl
theorem cellsA0 : Tryz.prog.cellsOf 245 = 32 := by kernel_rfl
theorem cellsE0 : Tryz.prog.cellsOf 5 = 1 := by kernel_rfl
theorem gTab1 : Tryz.prog.globalNamed "math/bits.deBruijn64tab" = some 4 := by kernel_rfl
theorem gTabType1 : (Tryz.prog.globals[4]?).map (·.type) = some 246 := by kernel_rfl
theorem cellsA1 : Tryz.prog.cellsOf 246 = 64 := by kernel_rfl
theorem cellsE1 : Tryz.prog.cellsOf 5 = 1 := by kernel_rfl
theorem gTab2 : Tryz.prog.globalNamed "internal/strconv.uint64pow10" = some 2 := by kernel_rfl
theorem gTabType2 : (Tryz.prog.globals[2]?).map (·.type) = some 242 := by kernel_rfl
theorem cellsA2 : Tryz.prog.cellsOf 242 = 20 := by kernel_rfl
theorem cellsE2 : Tryz.prog.cellsOf 35 = 1 := by kernel_rfl
/-- What the row's list gives: the tables' cells hold their numbers. -/
theorem table {W : World} (h : laidMetH Tryz.prog Rows.matsFormsRow.laid W) : TabsW W := by
  intro g kd l hm
  have h0 : laidMet Tryz.prog Rows.matsFormsRow.laid W := h
  have ht0 : Lib.TabIs Tryz.prog W "math/bits.deBruijn32tab" .u8 [0, 1, 28, 2, 29, 14, 24, 3, 30, 22, 20, 15, 25, 17, 4, 8, 31, 27, 13, 23, 21, 19, 16, 7, 26, 12, 18, 6, 11, 5, 10, 9] := Lib.tabIs_of_head gTab0 gTabType0 Tryz.underlying245 Tryz.underlying5 cellsE0 cellsA0 h0
  have h1 := laid_tail h0
  have ht1 : Lib.TabIs Tryz.prog W "math/bits.deBruijn64tab" .u8 [0, 1, 56, 2, 57, 49, 28, 3, 61, 58, 42, 50, 38, 29, 17, 4, 62, 47, 59, 36, 45, 43, 51, 22, 53, 39, 33, 30, 24, 18, 12, 5, 63, 55, 48, 27, 60, 41, 37, 16, 46, 35, 44, 21, 52, 32, 23, 11, 54, 26, 40, 15, 34, 20, 31, 10, 25, 14, 19, 9, 13, 8, 7, 6] := Lib.tabIs_of_head gTab1 gTabType1 Tryz.underlying246 Tryz.underlying5 cellsE1 cellsA1 h1
  have h2 := laid_tail h1
  have ht2 : Lib.TabIs Tryz.prog W "internal/strconv.uint64pow10" .u64 [1, 10, 100, 1000, 10000, 100000, 1000000, 10000000, 100000000, 1000000000, 10000000000, 100000000000, 1000000000000, 10000000000000, 100000000000000, 1000000000000000, 10000000000000000, 100000000000000000, 1000000000000000000, 10000000000000000000] := Lib.tabIs_of_head gTab2 gTabType2 Tryz.underlying242 Tryz.underlying35 cellsE2 cellsA2 h2
  simp only [globTabs, List.mem_cons, List.not_mem_nil, or_false, Prod.mk.injEq] at hm
  rcases hm with ⟨rfl, rfl, rfl⟩ | ⟨rfl, rfl, rfl⟩ | ⟨rfl, rfl, rfl⟩
  · refine ⟨by simp, fun j x hx => by rw [ht0.cell gTab0 j (List.getElem?_eq_some_iff.1 hx).1, List.getD_eq_getElem?_getD, hx]; rfl, ?_⟩
    exact tab_heap gTab0 ht0
  · refine ⟨by simp, fun j x hx => by rw [ht1.cell gTab1 j (List.getElem?_eq_some_iff.1 hx).1, List.getD_eq_getElem?_getD, hx]; rfl, ?_⟩
    exact tab_heap gTab1 ht1
  · refine ⟨by simp, fun j x hx => by rw [ht2.cell gTab2 j (List.getElem?_eq_some_iff.1 hx).1, List.getD_eq_getElem?_getD, hx]; rfl, ?_⟩
    exact tab_heap gTab2 ht2

/-- The contract, over values. -/
theorem called (a0 : (Int) × (Int) × (List ((Int) × (Int)))) (a1 : List ((Int) × (Int))) (a2 : List ((Int) × (Int))) (a3 : List ((Int) × (Int))) (w0 : ((Lit.int .u8 a0.1).wf = true) ∧ ((Lit.int .u8 a0.2.1).wf = true) ∧ ((a0.2.2).length ≤ maxLen ∧ ∀ x ∈ a0.2.2, ((Lit.int .i64 x.1).wf = true) ∧ ((Lit.int .u32 x.2).wf = true))) (w1 : (a1).length ≤ maxLen ∧ ∀ x ∈ a1, ((Lit.int .i64 x.1).wf = true) ∧ ((Lit.int .u32 x.2).wf = true)) (w2 : (a2).length ≤ maxLen ∧ ∀ x ∈ a2, ((Lit.int .i64 x.1).wf = true) ∧ ((Lit.int .u32 x.2).wf = true)) (w3 : (a3).length ≤ maxLen ∧ ∀ x ∈ a3, ((Lit.int .i64 x.1).wf = true) ∧ ((Lit.int .u32 x.2).wf = true)) : CallOK Tryz.prog 3 [(ag3 (iel .u8) (iel .u8) (mvec 2 (ag2 (iel .i64) (iel .u32)))) a0, (mvec 2 (ag2 (iel .i64) (iel .u32))) a1, (mvec 2 (ag2 (iel .i64) (iel .u32))) a2, (mvec 2 (ag2 (iel .i64) (iel .u32))) a3] [] (.val (.bool true)) [] [] := law_MatsForms a0 a1 a2 a3 w0 w1 w2 w3

theorem contract (H : Type) (enc : TypeId × Value → H) (W : World) (base : Nat) (args : Array Value) (ds gs : List (DataW H)) (before : List MemPlace)
    (hval : ∀ (j : Nat) t v, Tryz.f3.params[j]? = some t → args[j]? = some v → Value.okWide Tryz.prog W .any base t v)
    (hW : DataW.Whole enc Tryz.prog Tryz.f3.params.toList Rows.matsFormsSpec.vars false W args.toList ds gs before) (hL : laidMetH Tryz.prog Rows.matsFormsRow.laid W) :
    Calls Tryz.prog 3 args W fun e W' => ∃ v, e = .returned v ∧ Rows.matsFormsSpec.post enc Tryz.prog Tryz.f3 false true false false W args v W' := by
  have hW' := hW
  obtain ⟨p, q, hA0, hV, rfl, hfz, hnd⟩ := hW
  have hA : DataW.TrodAll enc Tryz.prog W 0 (fun _ => true) true Tryz.f3.params.toList args.toList ds p := hA0
  rw [Tryz.params3] at hA hval
  obtain ⟨v0, vs0, d0, ds0, p0, q0, hargs, rfl, rfl, h0, r0⟩ := trodAll_cons hA
  obtain ⟨v1, vs1, d1, ds1, p1, q1, rfl, rfl, rfl, h1, r1⟩ := trodAll_cons r0
  obtain ⟨v2, vs2, d2, ds2, p2, q2, rfl, rfl, rfl, h2, r2⟩ := trodAll_cons r1
  obtain ⟨v3, vs3, d3, ds3, p3, q3, rfl, rfl, rfl, h3, r3⟩ := trodAll_cons r2
  obtain ⟨rfl, rfl, rfl⟩ := trodAll_nil r3
  obtain rfl : args = #[v0, v1, v2, v3] := by cases args; simp_all
  obtain ⟨rfl, rfl⟩ := trodVars_none hV
  have hg := table hL
  obtain ⟨n0, t0⟩ := h0
  obtain ⟨a0, w0, c0⟩ := (show Opens enc Tryz.prog hg 24 (ag3 (iel .u8) (iel .u8) (mvec 2 (ag2 (iel .i64) (iel .u32)))) (fun a => ((Lit.int .u8 a.1).wf = true) ∧ ((Lit.int .u8 a.2.1).wf = true) ∧ ((a.2.2).length ≤ maxLen ∧ ∀ x ∈ a.2.2, ((Lit.int .i64 x.1).wf = true) ∧ ((Lit.int .u32 x.2).wf = true))) from Opens.struct3 Tryz.underlying24 rfl (by kernel_rfl) (by kernel_rfl) (by kernel_rfl) (Opens.int Tryz.underlying5) (Opens.int Tryz.underlying5) (Opens.slice (w := 2) Tryz.underlying22 (by kernel_rfl) (by decide) (fun _ => rfl) (Opens.struct2 Tryz.underlying68 rfl (by kernel_rfl) (by kernel_rfl) (Opens.int Tryz.underlying2) (Opens.int Tryz.underlying66)))) _ _ _ t0
  have e0 : mkV ((ag3 (iel .u8) (iel .u8) (mvec 2 (ag2 (iel .i64) (iel .u32)))) a0) v0.cells.toList = v0 := by obtain ⟨cs, hc, _⟩ := okWide_struct Tryz.underlying24 (hval 0 24 v0 rfl rfl); exact mkV_agg rfl hc
  obtain ⟨n1, t1⟩ := h1
  obtain ⟨a1, w1, c1⟩ := (show Opens enc Tryz.prog hg 22 (mvec 2 (ag2 (iel .i64) (iel .u32))) (fun a => (a).length ≤ maxLen ∧ ∀ x ∈ a, ((Lit.int .i64 x.1).wf = true) ∧ ((Lit.int .u32 x.2).wf = true)) from Opens.slice (w := 2) Tryz.underlying22 (by kernel_rfl) (by decide) (fun _ => rfl) (Opens.struct2 Tryz.underlying68 rfl (by kernel_rfl) (by kernel_rfl) (Opens.int Tryz.underlying2) (Opens.int Tryz.underlying66))) _ _ _ t1
  have e1 : mkV ((mvec 2 (ag2 (iel .i64) (iel .u32))) a1) v1.cells.toList = v1 := by obtain ⟨_, _, _, rfl⟩ := okWide_slice Tryz.underlying22 (hval 1 22 v1 rfl rfl); exact mkV_one rfl (by simp [Value.cells])
  obtain ⟨n2, t2⟩ := h2
  obtain ⟨a2, w2, c2⟩ := (show Opens enc Tryz.prog hg 22 (mvec 2 (ag2 (iel .i64) (iel .u32))) (fun a => (a).length ≤ maxLen ∧ ∀ x ∈ a, ((Lit.int .i64 x.1).wf = true) ∧ ((Lit.int .u32 x.2).wf = true)) from Opens.slice (w := 2) Tryz.underlying22 (by kernel_rfl) (by decide) (fun _ => rfl) (Opens.struct2 Tryz.underlying68 rfl (by kernel_rfl) (by kernel_rfl) (Opens.int Tryz.underlying2) (Opens.int Tryz.underlying66))) _ _ _ t2
  have e2 : mkV ((mvec 2 (ag2 (iel .i64) (iel .u32))) a2) v2.cells.toList = v2 := by obtain ⟨_, _, _, rfl⟩ := okWide_slice Tryz.underlying22 (hval 2 22 v2 rfl rfl); exact mkV_one rfl (by simp [Value.cells])
  obtain ⟨n3, t3⟩ := h3
  obtain ⟨a3, w3, c3⟩ := (show Opens enc Tryz.prog hg 22 (mvec 2 (ag2 (iel .i64) (iel .u32))) (fun a => (a).length ≤ maxLen ∧ ∀ x ∈ a, ((Lit.int .i64 x.1).wf = true) ∧ ((Lit.int .u32 x.2).wf = true)) from Opens.slice (w := 2) Tryz.underlying22 (by kernel_rfl) (by decide) (fun _ => rfl) (Opens.struct2 Tryz.underlying68 rfl (by kernel_rfl) (by kernel_rfl) (Opens.int Tryz.underlying2) (Opens.int Tryz.underlying66))) _ _ _ t3
  have e3 : mkV ((mvec 2 (ag2 (iel .i64) (iel .u32))) a3) v3.cells.toList = v3 := by obtain ⟨_, _, _, rfl⟩ := okWide_slice Tryz.underlying22 (hval 3 22 v3 rfl rfl); exact mkV_one rfl (by simp [Value.cells])
  have hz : HasZ (allRho hg) [(ag3 (iel .u8) (iel .u8) (mvec 2 (ag2 (iel .i64) (iel .u32)))) a0, (mvec 2 (ag2 (iel .i64) (iel .u32))) a1, (mvec 2 (ag2 (iel .i64) (iel .u32))) a2, (mvec 2 (ag2 (iel .i64) (iel .u32))) a3] [v0.cells.toList, v1.cells.toList, v2.cells.toList, v3.cells.toList] := by simp only [HasZ]; exact ⟨_, _, rfl, c0, _, _, rfl, c1, _, _, rfl, c2, _, _, rfl, c3, rfl⟩
  have hr := law_runA ⟨Tryz.f3, Tryz.func3, rfl, by kernel_rfl⟩ (called a0 a1 a2 a3 w0 w1 w2 w3) hg hz
  simp only [List.zipWith_cons_cons, List.zipWith_nil_left, List.zipWith_nil_right, e0, e1, e2, e3] at hr
  refine hr.mono fun e W' ⟨he, hb⟩ => ?_
  subst he
  exact ⟨_, rfl, law_post laidOut params rfl rfl Tryz.underlying4 hW' ⟨rfl, rfl, rfl⟩ hb⟩

/-- A world for the witness: the settled one, the tables holding what their texts lay. -/
noncomputable def laidWorld (os : Os) : World :=
  { World.holding Tryz.prog os ⟨#[], #[], []⟩ with heap := ((World.holding Tryz.prog os ⟨#[], #[], []⟩).heap |>.modify 3 (fun | .cells _ t frozen => .cells #[.int .u8 0, .int .u8 1, .int .u8 28, .int .u8 2, .int .u8 29, .int .u8 14, .int .u8 24, .int .u8 3, .int .u8 30, .int .u8 22, .int .u8 20, .int .u8 15, .int .u8 25, .int .u8 17, .int .u8 4, .int .u8 8, .int .u8 31, .int .u8 27, .int .u8 13, .int .u8 23, .int .u8 21, .int .u8 19, .int .u8 16, .int .u8 7, .int .u8 26, .int .u8 12, .int .u8 18, .int .u8 6, .int .u8 11, .int .u8 5, .int .u8 10, .int .u8 9] t frozen | o => o) |>.modify 4 (fun | .cells _ t frozen => .cells #[.int .u8 0, .int .u8 1, .int .u8 56, .int .u8 2, .int .u8 57, .int .u8 49, .int .u8 28, .int .u8 3, .int .u8 61, .int .u8 58, .int .u8 42, .int .u8 50, .int .u8 38, .int .u8 29, .int .u8 17, .int .u8 4, .int .u8 62, .int .u8 47, .int .u8 59, .int .u8 36, .int .u8 45, .int .u8 43, .int .u8 51, .int .u8 22, .int .u8 53, .int .u8 39, .int .u8 33, .int .u8 30, .int .u8 24, .int .u8 18, .int .u8 12, .int .u8 5, .int .u8 63, .int .u8 55, .int .u8 48, .int .u8 27, .int .u8 60, .int .u8 41, .int .u8 37, .int .u8 16, .int .u8 46, .int .u8 35, .int .u8 44, .int .u8 21, .int .u8 52, .int .u8 32, .int .u8 23, .int .u8 11, .int .u8 54, .int .u8 26, .int .u8 40, .int .u8 15, .int .u8 34, .int .u8 20, .int .u8 31, .int .u8 10, .int .u8 25, .int .u8 14, .int .u8 19, .int .u8 9, .int .u8 13, .int .u8 8, .int .u8 7, .int .u8 6] t frozen | o => o) |>.modify 2 (fun | .cells _ t frozen => .cells #[.int .u64 1, .int .u64 10, .int .u64 100, .int .u64 1000, .int .u64 10000, .int .u64 100000, .int .u64 1000000, .int .u64 10000000, .int .u64 100000000, .int .u64 1000000000, .int .u64 10000000000, .int .u64 100000000000, .int .u64 1000000000000, .int .u64 10000000000000, .int .u64 100000000000000, .int .u64 1000000000000000, .int .u64 10000000000000000, .int .u64 100000000000000000, .int .u64 1000000000000000000, .int .u64 10000000000000000000] t frozen | o => o)) }
theorem laid_met (os : Os) : laidMet Tryz.prog Rows.matsFormsRow.laid ((laidWorld os).forCall (fun _ _ => 0) ⟨#[], #[.agg #[.int .u8 0, .int .u8 0, .slice none 0 0], .slice none 0 0, .slice none 0 0, .slice none 0 0], []⟩).memory :=
  laidMet_of_run' 8 (by kernel_rfl) (by kernel_rfl)
theorem reads (os : Os) {H : Type} (enc : TypeId × Value → H) : ∃ places, DataW.whole enc Tryz.prog ((laidWorld os).forCall (fun _ _ => 0) ⟨#[], #[.agg #[.int .u8 0, .int .u8 0, .slice none 0 0], .slice none 0 0, .slice none 0 0, .slice none 0 0], []⟩).memory Tryz.f3.params.toList Rows.matsFormsSpec.vars false #[.agg #[.int .u8 0, .int .u8 0, .slice none 0 0], .slice none 0 0, .slice none 0 0, .slice none 0 0].toList 8 = some ([.agg [.lit (.int .u8 0), .lit (.int .u8 0), .nil], .nil, .nil, .nil], [], places) :=
  ⟨[], by kernel_rfl⟩

theorem lifted (os : Os) (started : os.Started) (H : Type) (enc : TypeId × Value → H) (F : Stop.Interp) :
    ReturnsInHanded {} Tryz.checked os 3 .any ((OpenSpec.ofChange Rows.matsFormsSpec).preRow enc Tryz.prog Tryz.f3 Rows.matsFormsRow.domain false Rows.matsFormsRow.laid) (((OpenSpec.ofChange Rows.matsFormsSpec).at F).post enc Tryz.prog Tryz.f3 false true false false) := by
  obtain ⟨places, hx⟩ := reads os enc
  refine returnsInHanded_of_row (C := Tryz.checked) (s := OpenSpec.ofChange Rows.matsFormsSpec) own started (by kernel_rfl) Tryz.func3
    (witness_row_at (enc := enc) (C := Tryz.checked) false (laidWorld os) #[.agg #[.int .u8 0, .int .u8 0, .slice none 0 0], .slice none 0 0, .slice none 0 0, .slice none 0 0] rfl (by kernel_rfl) (by kernel_rfl) (by kernel_rfl)
      (OpenSpec.preRow_of_cond 8 hx (by kernel_rfl) (fun k hk => by cases hk) (by kernel_rfl) (laid_met os))) ?_
  intro W base args ds gs before hval hW _ _ _ hL _ _
  exact contract H enc W base args ds gs before hval hW hL

theorem said : Rows.MatsFormsSaid :=
  OpenClaim.holds_of_cond 3 Tryz.f3 rfl rfl rfl rfl rfl rfl rfl ⟨rfl, rfl, rfl, rfl, rfl⟩ rfl rfl rfl rfl rfl (by kernel_rfl) Tryz.func3 (by kernel_rfl)
    (of_decide_eq_true (by kernel_rfl)) (by unfold Func.isWrapper; first | (rw [if_pos (by decide +kernel)]; kernel_rfl) | (rw [if_neg (by decide +kernel)]; exact ⟨rfl, rfl⟩))
    (fun os started H enc _ F => by rw [OpenClaim.pre_eq_preRow]; exact lifted os started H enc F)

/-- No parameter wants a stand-in; the program's own looks are off. -/
theorem plain (f : FuncId) (fn : Func) (hf : Tryz.pinned.checked.prog.funcNamed "gusset/gussetlaw13.MatsForms" = some f) (hfn : Tryz.pinned.checked.prog.funcs[f]? = some fn) :
    false = Tryz.pinned.checked.prog.looks [] ∧ ∀ (j : Nat) t, fn.params[j]? = some t → Tryz.pinned.checked.prog.wantsStandIn t = false := by
  obtain rfl : f = 3 := Option.some.inj ((show Tryz.prog.funcNamed "gusset/gussetlaw13.MatsForms" = some 3 by kernel_rfl).symm.trans hf) |>.symm
  obtain rfl : fn = Tryz.f3 := (Option.some.inj (Tryz.func3.symm.trans hfn)).symm
  refine ⟨by kernel_rfl, fun j t ht => ?_⟩
  have hall : (Tryz.f3.params.toList.all fun t => !Tryz.prog.wantsStandIn t) = true := by kernel_rfl
  have := List.all_eq_true.1 hall t (by simpa using Array.mem_of_getElem? ht)
  exact (show Tryz.prog.wantsStandIn t = false by simpa using this)

/-- The card. -/
theorem card : Rows.MatsFormsCardSaid :=
  Claim7.holds_tied_plain_at .later [] _ _ _ _ said (fun _ h => by cases h) (by kernel_rfl) (fun _ h => by cases h) matsForms_row_tie rfl ⟨rfl, rfl⟩ (by kernel_rfl) rfl plain (by kernel_rfl)
#print axioms card
end Go.Proofs.YtcincnngdohfnaaGreatDoor.matsForms
