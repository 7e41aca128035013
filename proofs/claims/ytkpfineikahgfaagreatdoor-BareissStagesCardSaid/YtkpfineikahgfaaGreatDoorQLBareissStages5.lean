/- The texts Rc, Rd, Aa, Re, Rf, Td, Te, Tf, Rg, Kk, Kl, Ki, Km, Kn, Ko, Kp, Kq, Kr, Kw, Ia, Os, Fb, Oa, Ob, Of, Oh, Oc, Od, Oe, Og, Oj, Oi. -/
import Derived.Test.YtkpfineikahgfaaGreatDoorQLBareissStages4
namespace Go.Proofs.YtkpfineikahgfaaGreatDoor
open Go.Sx
set_option linter.unusedSimpArgs false
set_option linter.unusedVariables false
set_option maxRecDepth 100000
set_option maxHeartbeats 4000000

theorem valT_diff {xs ys : List Int} {j : Nat} : ∀ {n : Nat}, j ≤ n → (∀ i, j ≤ i → i < n → xs.getD i 0 = ys.getD i 0) → valT xs n - valT ys n = valT xs j - valT ys j
  | 0, h, _ => by obtain rfl : j = 0 := by omega
                  rfl
  | n + 1, h, he => by
    by_cases hj : j = n + 1
    · rw [hj]
    · have := valT_diff (n := n) (by omega) (fun i h1 h2 => he i h1 (by omega))
      rw [valT, valT, he n (by omega) (by omega)]; omega
theorem valT_lt_of {xs ys : List Int} (hx : W4 xs) (hy : W4 ys) {j : Nat} (h : xs.getD j 0 < ys.getD j 0) : valT xs (j + 1) < valT ys (j + 1) := by
  have h1 := valT_lt hx j
  have h2 := valT_nonneg hy j
  have h3 : (xs.getD j 0 + 1) * 10000 ^ j ≤ ys.getD j 0 * 10000 ^ j := Int.mul_le_mul_of_nonneg_right (by omega) (Int.le_of_lt (powT_pos j))
  rw [Int.add_mul, Int.one_mul] at h3
  rw [valT, valT]; omega

theorem r_Cmp (a b : Nat) (ha : (td a).length < 1099511627776) (hb : (td b).length < 1099511627776) : CallOK Tryz.prog 289 [nN a, nN b] [] (.val (.int .i64 ((a : Int) - b).sign)) [] [] := by
  refine callV (Z := []) tabOK mixedOK Tryz.func289 rfl (by kernel_rfl) rfl rfl (by kernel_rfl) rfl ?_
  intro W0 w0 ρ0 hE
  conv => whnf
  by_cases h1 : (td a).length < (td b).length
  · have t1 : decide (((td a).length : Int) < ((td b).length : Int)) = true := decide_eq_true (by omega)
    have := td_len_lt h1
    rw [Int.sign_eq_neg_one_of_neg (show (a : Int) - b < 0 by omega)]
    (repeat (first | (refine step_w1 rfl rfl ?_; conv => whnf) | (refine g_o (op_lenM rfl rfl rfl (ev_ok rfl) (tgt rfl) rfl) ?_; conv => whnf) | (rw [t1]; conv => whnf))); (first | exact Recast.refl _ | exact Frz.recast (Recast.refl _) rfl | (refine Frz.one rfl rfl ?_; skip) | (refine Frz.tup ?_; skip))
  have t1 : decide (((td a).length : Int) < ((td b).length : Int)) = false := decide_eq_false (by omega)
  by_cases h2 : (td b).length < (td a).length
  · have t2 : decide (((td a).length : Int) > ((td b).length : Int)) = true := decide_eq_true (by omega)
    have := td_len_lt h2
    rw [Int.sign_eq_one_of_pos (show 0 < (a : Int) - b by omega)]
    (repeat ((first | refine step_w1 rfl rfl ?_ | refine step_w2 rfl rfl ?_ | refine g_o (op_lenM rfl rfl rfl (ev_ok rfl) (tgt rfl) rfl) ?_ | rw [t1] | rw [t2]); conv => whnf)); (first | exact Recast.refl _ | exact Frz.recast (Recast.refl _) rfl | (refine Frz.one rfl rfl ?_; skip) | (refine Frz.tup ?_; skip))
  have t2 : decide (((td a).length : Int) > ((td b).length : Int)) = false := decide_eq_false (by omega)
  have e0 : IntKind.i64.wrap (((td a).length : Int) - 1) = ((td a).length : Int) - 1 := wrap_i64 (by omega) (by omega)
  have va := td_valN a (td a).length (Nat.le_refl _)
  have vb := td_valN b (td a).length (by omega)
  have wa := td_w32 a
  have wb := td_w32 b
  (repeat ((first | refine step_w2 rfl rfl ?_ | refine g_o (op_lenM rfl rfl rfl (ev_ok rfl) (tgt rfl) rfl) ?_ | rw [t1] | rw [t2] | rw [e0]); conv => whnf))
  refine SW_loopN hE (fun k => k) [0, 1, 5] [] (fun m fr hp => m ≤ (td a).length ∧ (∀ i, m ≤ i → i < (td a).length → (td a).getD i 0 = (td b).getD i 0) ∧ fr = [(0, nN a), (1, nN b), (5, .val (.int .i64 ((m : Int) - 1)))] ∧ hp = []) (td a).length ?_ ?_ ?_
  · kernel_rfl
  · exact ⟨Nat.le_refl _, (fun i h1 h2 => by omega), rfl, rfl⟩
  rintro j _ _ ⟨hj, heq, rfl, rfl⟩
  have hd := valT_diff hj heq
  rw [va, vb] at hd
  conv => whnf
  by_cases h0 : j = 0
  · subst h0
    have t3 : decide (((0 : Nat) : Int) - 1 ≥ 0) = false := rfl
    have e : ((a : Int) - b).sign = 0 := by rw [hd]; rfl
    rw [e]
    (repeat (first | (refine step_w2 rfl rfl ?_; conv => whnf))); (first | exact Recast.refl _ | exact Frz.recast (Recast.refl _) rfl | (refine Frz.one rfl rfl ?_; skip) | (refine Frz.tup ?_; skip))
  · obtain ⟨i, rfl⟩ : ∃ i, j = i + 1 := ⟨j - 1, by omega⟩
    have ei : (((i + 1 : Nat) : Int) - 1) = (i : Int) := by omega
    rw [ei]
    have hib : i < (td b).length := by omega
    have t3 : decide ((i : Int) ≥ 0) = true := decide_eq_true (by omega)
    have e2 : IntKind.i64.wrap ((i : Int) - 1) = (i : Int) - 1 := wrap_i64 (by omega) (by omega)
    by_cases hlt : (td a).getD i 0 < (td b).getD i 0
    · have t4 : decide ((td a).getD i 0 < (td b).getD i 0) = true := decide_eq_true hlt
      have := valT_lt_of wa wb hlt
      rw [Int.sign_eq_neg_one_of_neg (show (a : Int) - b < 0 by omega)]
      (repeat ((first | refine step_w1 rfl rfl ?_ | refine step_i (by kernel_rfl) ?_ | refine g_o (op_loadA rfl (ev_ok rfl) (tgt rfl) rfl (Nat.succ_ne_zero _) rfl) ?_ | refine g_o (op_indexN (α := Int) (d := 0) rfl (ev_ok rfl) (ev_ok rfl) (tgt rfl) rfl (tgt rfl) rfl (by omega)) ?_ | rw [t3] | rw [t4]); conv => whnf)); (first | exact Recast.refl _ | exact Frz.recast (Recast.refl _) rfl | (refine Frz.one rfl rfl ?_; skip) | (refine Frz.tup ?_; skip))
    · have t4 : decide ((td a).getD i 0 < (td b).getD i 0) = false := decide_eq_false hlt
      by_cases hgt : (td b).getD i 0 < (td a).getD i 0
      · have t5 : decide ((td a).getD i 0 > (td b).getD i 0) = true := decide_eq_true hgt
        have := valT_lt_of wb wa hgt
        rw [Int.sign_eq_one_of_pos (show 0 < (a : Int) - b by omega)]
        (repeat ((first | refine step_w1 rfl rfl ?_ | refine step_w2 rfl rfl ?_ | refine step_i (by kernel_rfl) ?_ | refine g_o (op_loadA rfl (ev_ok rfl) (tgt rfl) rfl (Nat.succ_ne_zero _) rfl) ?_ | refine g_o (op_indexN (α := Int) (d := 0) rfl (ev_ok rfl) (ev_ok rfl) (tgt rfl) rfl (tgt rfl) rfl (by omega)) ?_ | rw [t3] | rw [t4] | rw [t5]); conv => whnf)); (first | exact Recast.refl _ | exact Frz.recast (Recast.refl _) rfl | (refine Frz.one rfl rfl ?_; skip) | (refine Frz.tup ?_; skip))
      · have t5 : decide ((td a).getD i 0 > (td b).getD i 0) = false := decide_eq_false hgt
        (repeat ((first | refine step_w1 rfl rfl ?_ | refine step_w2 rfl rfl ?_ | refine step_i (by kernel_rfl) ?_ | refine g_o (op_loadA rfl (ev_ok rfl) (tgt rfl) rfl (Nat.succ_ne_zero _) rfl) ?_ | refine g_o (op_indexN (α := Int) (d := 0) rfl (ev_ok rfl) (ev_ok rfl) (tgt rfl) rfl (tgt rfl) rfl (by omega)) ?_ | rw [t3] | rw [t4] | rw [t5] | rw [e2]); conv => whnf))
        exact ⟨i, fun k => k, [0, 1, 5], [], by omega, by kernel_rfl, by omega, (fun q h1 h2 => by
          by_cases hq : q = i
          · rw [hq]; omega
          · exact heq q (by omega) h2), rfl, rfl⟩

theorem add_carry {P vL va vb c x y D C : Int} (h : vL + c * P = va + vb) (hD : x + y + c = D + 10000 * C) : vL + D * P + C * (P * 10000) = va + x * P + (vb + y * P) := by
  have h2 : (x + y + c) * P = (D + 10000 * C) * P := by rw [hD]
  grind

theorem r_Add (a b : Nat) (ha : (td a).length < 1073741824) (hb : (td b).length < 1073741824) : CallOK Tryz.prog 240 [nN a, nN b] [] (nN (a + b)) [] [] := by
  have wa := td_w32 a
  have wb := td_w32 b
  refine callF (Z := []) tabOK mixedOK Tryz.func240 rfl (by kernel_rfl) (by first | rfl | (simp [keylessL, keyless, keylessL_map, *]; done)) (by first | rfl | (simp [keylessL, keyless, keylessL_map, *]; done)) (by kernel_rfl) rfl ?_
  intro w0 ρ0 hE
  conv => whnf
  skip
  generalize hM : max (td a).length (td b).length = M
  refine SWx_adopt (t := 5) (k := 2001) (s := 1) (blk := zblk []) rfl rfl rfl ?_
  refine SW_loopS hE (fun k => k) [0, 1, 5, 6, 7] [2001] (fun m fr hp => ∃ (i : Nat) (L : List Int) (c : Int), m = M + 2 - i ∧ i ≤ M + 1 ∧ L.length = i ∧ W4 L ∧ 0 ≤ c ∧ c ≤ 1 ∧ (M < i → c = 0) ∧ valT L i + c * 10000 ^ i = valT (td a) i + valT (td b) i ∧
    fr = [(0, nN a), (1, nN b), (5, .slc 2001 1 0 i), (6, .val (.int .i64 c)), (7, .val (.int .i64 (i : Nat)))] ∧ hp = [(2001, zblk L)]) (M + 2) ?_ ?_ ?_
  · kernel_rfl
  · exact ⟨0, [], 0, rfl, by omega, rfl, (fun i => by simp), by omega, by omega, (fun _ => rfl), rfl, rfl, rfl⟩
  rintro m _ _ ⟨i, L, c, rfl, hi, hl, hw, hc0, hc1, hcM, hv, rfl, rfl⟩
  by_cases hgo : i < (td a).length ∨ i < (td b).length ∨ 0 < c
  · have hiM : i ≤ M := by
      rcases hgo with h | h | h
      · omega
      · omega
      · rcases Nat.lt_or_ge M i with g | g
        · have := hcM g; omega
        · exact g
    have k1 := r_at a i (by omega)
    have k2 := r_at b i (by omega)
    have hx := wa i
    have hy := wb i
    have hxz : (td a).length ≤ i → (td a).getD i 0 = 0 := fun h => getD_ge h
    have hyz : (td b).length ≤ i → (td b).getD i 0 = 0 := fun h => getD_ge h
    generalize hxe : (td a).getD i 0 = x at *
    generalize hye : (td b).getD i 0 = y at *
    have e1 : IntKind.i64.wrap (x + y) = x + y := wrap_i64 (by omega) (by omega)
    have e2 : IntKind.i64.wrap (x + y + c) = x + y + c := wrap_i64 (by omega) (by omega)
    have e3 : (x + y + c).tmod 10000 = (x + y + c) % 10000 := Int.tmod_eq_emod_of_nonneg (by omega)
    have e4 : IntKind.i64.wrap ((x + y + c).tdiv 10000) = (x + y + c) / 10000 := by rw [Int.tdiv_eq_ediv_of_nonneg (by omega)]; exact wrap_i64 (by omega) (by omega)
    have e5 : (x + y + c).tdiv 10000 = (x + y + c) / 10000 := Int.tdiv_eq_ediv_of_nonneg (by omega)
    have e6 := winc (i := i) (by omega)
    have hc2 : M < i + 1 → (x + y + c) / 10000 = 0 := fun h => by
      have := hxz (by omega); have := hyz (by omega); omega
    have hiA : i < 1099511627776 := by omega
    clear hxz hyz
    have hstep : valT (L ++ [(x + y + c) % 10000]) (i + 1) + (x + y + c) / 10000 * 10000 ^ (i + 1) = valT (td a) (i + 1) + valT (td b) (i + 1) := by
      have h1 := valT_snoc L ((x + y + c) % 10000)
      rw [hl] at h1
      rw [h1, valT, valT, Int.pow_succ, hxe, hye]
      exact add_carry hv (by omega)
    have hw2 : W4 (L ++ [(x + y + c) % 10000]) := W4_snoc hw (by omega) (by omega)
    have hl2 : (L ++ [(x + y + c) % 10000]).length = i + 1 := by rw [List.length_append, hl]; rfl
    have hhp := snoc_end (d := (x + y + c) % 10000) hl
    refine SWx.of hE ?_
    conv => whnf
    by_cases g1 : i < (td a).length
    · have t1 : decide ((i : Int) < ((td a).length : Int)) = true := decide_eq_true (by omega)
      (repeat ((first | refine step_w1 rfl rfl ?_ | refine step_w2 rfl rfl ?_ | refine step_oA (by first | omega | decide | (simp only [tl0, dlen, List.length_replicate, List.length_set, List.length_map, List.length_zipWith, List.length_take, List.length_append, List.length_cons, List.length_nil]; omega)) ?_ | refine step_oN (by first | omega | decide | (simp only [tl0, dlen, List.length_replicate, List.length_set, List.length_map, List.length_zipWith, List.length_take, List.length_append, List.length_cons, List.length_nil]; omega)) ?_ | refine g_c (by assumption) ?_ | refine g_o (op_pickT rfl (ev_ok rfl) (ev_ok rfl)) ?_ | refine g_o (op_lenM rfl rfl rfl (ev_ok rfl) (tgt rfl) rfl) ?_ | rw [t1] | rw [e1] | rw [e2] | rw [e3] | rw [e4] | rw [e6]); conv => whnf))
      exact ⟨M + 2 - (i + 1), renBy [(38, 2001)], [0, 1, 5, 6, 7], [38], by omega, by kernel_rfl, i + 1, _, _, rfl, by omega, hl2, hw2, by omega, by omega, hc2, hstep, rfl, by rw [← hhp]; rfl⟩
    · have t1 : decide ((i : Int) < ((td a).length : Int)) = false := decide_eq_false (by omega)
      by_cases g2 : i < (td b).length
      · have t2 : decide ((i : Int) < ((td b).length : Int)) = true := decide_eq_true (by omega)
        (repeat ((first | refine step_w1 rfl rfl ?_ | refine step_w2 rfl rfl ?_ | refine step_oA (by first | omega | decide | (simp only [tl0, dlen, List.length_replicate, List.length_set, List.length_map, List.length_zipWith, List.length_take, List.length_append, List.length_cons, List.length_nil]; omega)) ?_ | refine step_oN (by first | omega | decide | (simp only [tl0, dlen, List.length_replicate, List.length_set, List.length_map, List.length_zipWith, List.length_take, List.length_append, List.length_cons, List.length_nil]; omega)) ?_ | refine g_c (by assumption) ?_ | refine g_o (op_pickT rfl (ev_ok rfl) (ev_ok rfl)) ?_ | refine g_o (op_pickF rfl (ev_ok rfl) (ev_ok rfl)) ?_ | refine g_o (op_lenM rfl rfl rfl (ev_ok rfl) (tgt rfl) rfl) ?_ | rw [t1] | rw [t2] | rw [e1] | rw [e2] | rw [e3] | rw [e4] | rw [e6]); conv => whnf))
        exact ⟨M + 2 - (i + 1), renBy [(38, 2001)], [0, 1, 5, 6, 7], [38], by omega, by kernel_rfl, i + 1, _, _, rfl, by omega, hl2, hw2, by omega, by omega, hc2, hstep, rfl, by rw [← hhp]; rfl⟩
      · have t2 : decide ((i : Int) < ((td b).length : Int)) = false := decide_eq_false (by omega)
        have t3 : decide (c > 0) = true := decide_eq_true (by omega)
        (repeat ((first | refine step_w1 rfl rfl ?_ | refine step_oA (by first | omega | decide | (simp only [tl0, dlen, List.length_replicate, List.length_set, List.length_map, List.length_zipWith, List.length_take, List.length_append, List.length_cons, List.length_nil]; omega)) ?_ | refine step_oN (by first | omega | decide | (simp only [tl0, dlen, List.length_replicate, List.length_set, List.length_map, List.length_zipWith, List.length_take, List.length_append, List.length_cons, List.length_nil]; omega)) ?_ | refine g_c (by assumption) ?_ | refine g_o (op_pickF rfl (ev_ok rfl) (ev_ok rfl)) ?_ | refine g_o (op_lenM rfl rfl rfl (ev_ok rfl) (tgt rfl) rfl) ?_ | rw [t1] | rw [t2] | rw [t3] | rw [e1] | rw [e2] | rw [e3] | rw [e4] | rw [e6]); conv => whnf))
        exact ⟨M + 2 - (i + 1), renBy [(38, 2001)], [0, 1, 5, 6, 7], [38], by omega, by kernel_rfl, i + 1, _, _, rfl, by omega, hl2, hw2, by omega, by omega, hc2, hstep, rfl, by rw [← hhp]; rfl⟩
  · have t1 : decide ((i : Int) < ((td a).length : Int)) = false := decide_eq_false (by omega)
    have t2 : decide ((i : Int) < ((td b).length : Int)) = false := decide_eq_false (by omega)
    have t3 : decide (c > 0) = false := decide_eq_false (by omega)
    have hc : c = 0 := by omega
    subst hc
    rw [td_valN a i (by omega), td_valN b i (by omega)] at hv
    have k1 := r_trim L (by omega) hw
    rw [show (valT L L.length).toNat = a + b by rw [hl]; omega] at k1
    refine SWx_frzI 5 2001 (fun _ h => h) rfl rfl hl.symm ?_
    refine SWx.of hE ?_
    conv => whnf
    (repeat ((first | refine step_w1 rfl rfl ?_ | refine step_w2 rfl rfl ?_ | refine g_c (by assumption) ?_ | refine g_o (op_pickF rfl (ev_ok rfl) (ev_ok rfl)) ?_ | refine g_o (op_lenM rfl rfl rfl (ev_ok rfl) (tgt rfl) rfl) ?_ | rw [t1] | rw [t2]); conv => whnf)); (first | exact Recast.refl _ | exact Frz.recast (Recast.refl _) rfl | (refine Frz.one rfl rfl ?_; skip) | (refine Frz.tup ?_; skip))

theorem sub_lend {P vL va vb c x y D C : Int} (h : vL - c * P = va - vb) (hD : x - y - c = D - 10000 * C) : vL + D * P - C * (P * 10000) = va + x * P - (vb + y * P) := by
  have h2 : (x - y - c) * P = (D - 10000 * C) * P := by rw [hD]
  grind
theorem r_Sub (a b : Nat) (hab : b ≤ a) (ha : (td a).length < 1073741824) : CallOK Tryz.prog 288 [nN a, nN b] [] (nN (a - b)) [] [] := by
  have wa := td_w32 a
  have wb := td_w32 b
  have hlb := td_len_mono hab
  refine callF (Z := []) tabOK mixedOK Tryz.func288 rfl (by kernel_rfl) (by first | rfl | (simp [keylessL, keyless, keylessL_map, *]; done)) (by first | rfl | (simp [keylessL, keyless, keylessL_map, *]; done)) (by kernel_rfl) rfl ?_
  intro w0 ρ0 hE
  conv => whnf
  skip
  refine SWx_adopt (t := 5) (k := 2001) (s := 1) (blk := zblk []) rfl rfl rfl ?_
  refine SW_loopS hE (fun k => k) [0, 1, 5, 6, 7] [2001] (fun m fr hp => ∃ (i : Nat) (L : List Int) (c : Int), m = (td a).length - i ∧ i ≤ (td a).length ∧ L.length = i ∧ W4 L ∧ 0 ≤ c ∧ c ≤ 1 ∧ valT L i - c * 10000 ^ i = valT (td a) i - valT (td b) i ∧
    fr = [(0, nN a), (1, nN b), (5, .slc 2001 1 0 i), (6, .val (.int .i64 c)), (7, .val (.int .i64 (i : Nat)))] ∧ hp = [(2001, zblk L)]) (td a).length ?_ ?_ ?_
  · kernel_rfl
  · exact ⟨0, [], 0, rfl, by omega, rfl, (fun i => by simp), by omega, by omega, rfl, rfl, rfl⟩
  rintro m _ _ ⟨i, L, c, rfl, hi, hl, hw, hc0, hc1, hv, rfl, rfl⟩
  by_cases hlt : i < (td a).length
  · have t1 : decide ((i : Int) < ((td a).length : Int)) = true := decide_eq_true (by omega)
    have k2 := r_at b i (by omega)
    have hx := wa i
    have hy := wb i
    generalize hxe : (td a).getD i 0 = x at *
    generalize hye : (td b).getD i 0 = y at *
    have e1 : IntKind.i64.wrap (x - y) = x - y := wrap_i64 (by omega) (by omega)
    have e2 : IntKind.i64.wrap (x - y - c) = x - y - c := wrap_i64 (by omega) (by omega)
    have e6 := winc (i := i) (by omega)
    have hst : ∀ D C, x - y - c = D - 10000 * C → valT (L ++ [D]) (i + 1) - C * 10000 ^ (i + 1) = valT (td a) (i + 1) - valT (td b) (i + 1) := fun D C hD => by
      have h1 := valT_snoc L D
      rw [hl] at h1
      rw [h1, valT, valT, Int.pow_succ, hxe, hye]
      exact sub_lend hv hD
    have hl2 : ∀ D : Int, (L ++ [D]).length = i + 1 := fun D => by rw [List.length_append, hl]; rfl
    have hhp := fun D => snoc_end (d := D) hl
    refine SWx.of hE ?_
    conv => whnf
    by_cases hn : x - y - c < 0
    · have t2 : decide (x - y - c < 0) = true := decide_eq_true hn
      have e3 : IntKind.i64.wrap (x - y - c + 10000) = x - y - c + 10000 := wrap_i64 (by omega) (by omega)
      (repeat ((first | refine step_w1 rfl rfl ?_ | refine step_i (by kernel_rfl) ?_ | refine step_oA (by first | omega | decide | (simp only [tl0, dlen, List.length_replicate, List.length_set, List.length_map, List.length_zipWith, List.length_take, List.length_append, List.length_cons, List.length_nil]; omega)) ?_ | refine g_c (by assumption) ?_ | refine g_o (op_lenM rfl rfl rfl (ev_ok rfl) (tgt rfl) rfl) ?_ | refine g_o (op_loadA rfl (ev_ok rfl) (tgt rfl) rfl (Nat.succ_ne_zero _) rfl) ?_ | refine g_o (op_indexN (α := Int) (d := 0) rfl (ev_ok rfl) (ev_ok rfl) (tgt rfl) rfl (tgt rfl) rfl (by omega)) ?_ | rw [t1] | rw [hxe] | rw [e1] | rw [e2] | rw [t2] | rw [e3] | rw [e6]); conv => whnf))
      exact ⟨(td a).length - (i + 1), renBy [(32, 2001)], [0, 1, 5, 6, 7], [32], by omega, by kernel_rfl, i + 1, _, 1, rfl, by omega, hl2 _, W4_snoc hw (show 0 ≤ x - y - c + 10000 by omega) (by omega), by omega, by omega, hst _ _ (by omega), rfl, by rw [← hhp]; rfl⟩
    · have t2 : decide (x - y - c < 0) = false := decide_eq_false hn
      (repeat ((first | refine step_w1 rfl rfl ?_ | refine step_w2 rfl rfl ?_ | refine step_i (by kernel_rfl) ?_ | refine step_oA (by first | omega | decide | (simp only [tl0, dlen, List.length_replicate, List.length_set, List.length_map, List.length_zipWith, List.length_take, List.length_append, List.length_cons, List.length_nil]; omega)) ?_ | refine g_c (by assumption) ?_ | refine g_o (op_lenM rfl rfl rfl (ev_ok rfl) (tgt rfl) rfl) ?_ | refine g_o (op_loadA rfl (ev_ok rfl) (tgt rfl) rfl (Nat.succ_ne_zero _) rfl) ?_ | refine g_o (op_indexN (α := Int) (d := 0) rfl (ev_ok rfl) (ev_ok rfl) (tgt rfl) rfl (tgt rfl) rfl (by omega)) ?_ | rw [t1] | rw [hxe] | rw [e1] | rw [e2] | rw [t2] | rw [e6]); conv => whnf))
      exact ⟨(td a).length - (i + 1), renBy [(32, 2001)], [0, 1, 5, 6, 7], [32], by omega, by kernel_rfl, i + 1, _, 0, rfl, by omega, hl2 _, W4_snoc hw (show 0 ≤ x - y - c by omega) (by omega), by omega, by omega, hst _ _ (by omega), rfl, by rw [← hhp]; rfl⟩
  · have t1 : decide ((i : Int) < ((td a).length : Int)) = false := decide_eq_false (by omega)
    rw [td_valN a i (by omega), td_valN b i (by omega)] at hv
    have h1 := valT_lt hw i
    have hc : c = 0 := by
      rcases (show c = 0 ∨ c = 1 by omega) with h | h
      · exact h
      · subst h; omega
    subst hc
    have k1 := r_trim L (by omega) hw
    rw [show (valT L L.length).toNat = a - b by rw [hl]; omega] at k1
    refine SWx_frzI 5 2001 (fun _ h => h) rfl rfl hl.symm ?_
    refine SWx.of hE ?_
    conv => whnf
    (repeat ((first | refine step_w2 rfl rfl ?_ | refine g_c (by assumption) ?_ | refine g_o (op_lenM rfl rfl rfl (ev_ok rfl) (tgt rfl) rfl) ?_ | rw [t1]); conv => whnf)); (first | exact Recast.refl _ | exact Frz.recast (Recast.refl _) rfl | (refine Frz.one rfl rfl ?_; skip) | (refine Frz.tup ?_; skip))
end Go.Proofs.YtkpfineikahgfaaGreatDoor

namespace Go.Proofs.YtkpfineikahgfaaGreatDoor
open Go.Sx
set_option linter.unusedSimpArgs false
set_option linter.unusedVariables false
set_option maxRecDepth 100000
set_option maxHeartbeats 4000000

theorem mul_carry {V P c x y o D C R : Int} (hV : V + c * P = R) (hD : o + x * y + c = D + 10000 * C) : V + (D - o) * P + C * (P * 10000) = R + x * y * P := by
  have h2 : (o + x * y + c) * P = (D + 10000 * C) * P := by rw [hD]
  grind
theorem pow_lt_of {i k l : Nat} (h : (10000 : Int) ^ i < 10000 ^ k) : i < k := by
  rcases Nat.lt_or_ge i k with g | g
  · exact g
  · have : (10000 : Nat) ^ k ≤ 10000 ^ i := Nat.pow_le_pow_right (by decide) g
    have h2 : ((10000 ^ k : Nat) : Int) ≤ ((10000 ^ i : Nat) : Int) := Int.ofNat_le.2 this
    rw [natPowT, natPowT] at h2
    omega

theorem r_Mul (a b : Nat) (ha : (td a).length < 536870912) (hb : (td b).length < 536870912) : CallOK Tryz.prog 273 [nN a, nN b] [] (nN (a * b)) [] [] := by
  have wa := td_w32 a
  have wb := td_w32 b
  have ela : IntKind.i64.wrap (((td a).length : Int) + ((td b).length : Int)) = (((td a).length + (td b).length : Nat) : Int) := by rw [wrap_i64 (by omega) (by omega)]; omega
  refine callF (Z := []) tabOK mixedOK Tryz.func273 rfl (by kernel_rfl) (by first | rfl | (simp [keylessL, keyless, keylessL_map, *]; done)) (by first | rfl | (simp [keylessL, keyless, keylessL_map, *]; done)) (by kernel_rfl) rfl ?_
  intro w0 ρ0 hE
  conv => whnf
  (repeat ((first | refine step_oA (by first | omega | decide | (simp only [tl0, dlen, List.length_replicate, List.length_set, List.length_map, List.length_zipWith, List.length_take, List.length_append, List.length_cons, List.length_nil]; omega)) ?_ | refine g_o (op_lenM rfl rfl rfl (ev_ok rfl) (tgt rfl) rfl) ?_ | rw [ela] | rw [Int.toNat_natCast]); conv => whnf))
  generalize hla : (td a).length = la at *
  generalize hlb : (td b).length = lb at *
  refine SW_loopS hE (fun k => k) [0, 1, 5, 6] [15] (fun m fr hp => ∃ (i : Nat) (out : List Int), m = la - i ∧ i ≤ la ∧ out.length = la + lb ∧ W4 out ∧ valT out (la + lb) = valT (td a) i * b ∧
    fr = [(0, nN a), (1, nN b), (5, .slc 15 1 0 (la + lb)), (6, .val (.int .i64 (i : Nat)))] ∧ hp = [(15, zblk out)]) la ?_ ?_ ?_
  · kernel_rfl
  · refine ⟨0, List.replicate (la + lb) 0, rfl, Nat.zero_le _, List.length_replicate, W4_of (fun x hx => by rw [(List.mem_replicate.1 hx).2]; omega), ?_, rfl, rfl⟩
    rw [valT_zeros (k := 0) (fun i _ _ => getD_replicate) (Nat.zero_le _)]; simp [valT]
  rintro m _ _ ⟨i, out, rfl, hi, hol, how, hov, rfl, rfl⟩
  by_cases hlt : i < la
  · have t1 : decide ((i : Int) < (la : Int)) = true := decide_eq_true (by omega)
    have e9 := winc (i := i) (by omega)
    have hx := wa i
    have hbnd : valT (td a) (i + 1) * b < 10000 ^ (i + 1 + lb) := by
      have h1 := valT_lt wa (i + 1)
      have h2 : (b : Int) < 10000 ^ lb := by rw [← natPowT]; exact Int.ofNat_lt.2 (td_lt_pow (by omega))
      have h3 := valT_nonneg wa (i + 1)
      have h4 : valT (td a) (i + 1) * b ≤ valT (td a) (i + 1) * 10000 ^ lb := Int.mul_le_mul_of_nonneg_left (by omega) h3
      have h5 : valT (td a) (i + 1) * 10000 ^ lb < 10000 ^ (i + 1) * 10000 ^ lb := Int.mul_lt_mul_of_pos_right h1 (powT_pos lb)
      rw [Int.pow_add]; omega
    have hva1 : valT (td a) (i + 1) = valT (td a) i + (td a).getD i 0 * 10000 ^ i := rfl
    have hila : i < (td a).length := by omega
    generalize hxe : (td a).getD i 0 = x at *
    refine SWx.of hE ?_
    conv => whnf
    (repeat ((first | refine step_w1 rfl rfl ?_ | refine g_o (op_lenM rfl rfl rfl (ev_ok rfl) (tgt rfl) rfl) ?_ | rw [hla] | rw [t1]); conv => whnf))
    refine SW_loopN hE (fun k => k) [0, 1, 5, 6, 7, 8] [15] (fun m fr hp => ∃ (k : Nat) (out : List Int) (c : Int), m = lb + 2 - k ∧ k ≤ lb + 1 ∧ out.length = la + lb ∧ W4 out ∧ 0 ≤ c ∧ c ≤ 9999 ∧ valT out (la + lb) + c * 10000 ^ (i + k) = valT (td a) i * b + x * valT (td b) k * 10000 ^ i ∧
      fr = [(0, nN a), (1, nN b), (5, .slc 15 1 0 (la + lb)), (6, .val (.int .i64 (i : Nat))), (7, .val (.int .i64 c)), (8, .val (.int .i64 (k : Nat)))] ∧ hp = [(15, zblk out)]) (lb + 2) ?_ ?_ ?_
    · kernel_rfl
    · exact ⟨0, out, 0, rfl, by omega, hol, how, by omega, by omega, by rw [hov]; simp [valT], rfl, rfl⟩
    clear hov how hol out
    rintro m _ _ ⟨k, out, c, rfl, hk, hol, how, hc0, hc1, hov, rfl, rfl⟩
    have hend : lb ≤ k → valT out (la + lb) + c * 10000 ^ (i + k) = valT (td a) (i + 1) * b := fun h => by
      rw [hov, td_valN b k (by omega), hva1]; grind
    have hck : 0 < c → k ≤ lb := fun h => by
      rcases Nat.lt_or_ge lb k with g | g
      · have h1 := hend (by omega)
        have h2 := valT_nonneg how (la + lb)
        have h3 : 1 * (10000 : Int) ^ (i + k) ≤ c * 10000 ^ (i + k) := Int.mul_le_mul_of_nonneg_right (by omega) (Int.le_of_lt (powT_pos _))
        have h4 : (10000 : Int) ^ (i + k) < 10000 ^ (i + 1 + lb) := by omega
        have := pow_lt_of (l := 0) h4
        omega
      · exact g
    by_cases hgo : k < lb ∨ 0 < c
    · have hkb : k ≤ lb := by
        rcases hgo with h | h
        · omega
        · exact hck h
      have hik : i + k < out.length := by omega
      have k2 := r_at b k (by omega)
      have hy := wb k
      have ho := how (i + k)
      generalize hye : (td b).getD k 0 = y at *
      generalize hoe : out.getD (i + k) 0 = o at *
      have hxy : 0 ≤ x * y := Int.mul_nonneg hx.1 hy.1
      have hxy2 : x * y ≤ 9999 * 9999 := by
        have h1 : x * y ≤ 9999 * y := Int.mul_le_mul_of_nonneg_right (by omega) hy.1
        omega
      have e1 : IntKind.i64.wrap ((i : Int) + (k : Int)) = ((i + k : Nat) : Int) := by rw [wrap_i64 (by omega) (by omega)]; omega
      have e2 : IntKind.i64.wrap (x * y) = x * y := wrap_i64 (by omega) (by omega)
      have e3 : IntKind.i64.wrap (o + x * y) = o + x * y := wrap_i64 (by omega) (by omega)
      have e4 : IntKind.i64.wrap (o + x * y + c) = o + x * y + c := wrap_i64 (by omega) (by omega)
      have e5 : (o + x * y + c).tmod 10000 = (o + x * y + c) % 10000 := Int.tmod_eq_emod_of_nonneg (by omega)
      have e6 : IntKind.i64.wrap ((o + x * y + c).tdiv 10000) = (o + x * y + c) / 10000 := by rw [Int.tdiv_eq_ediv_of_nonneg (by omega)]; exact wrap_i64 (by omega) (by omega)
      have e7 : (o + x * y + c).tdiv 10000 = (o + x * y + c) / 10000 := Int.tdiv_eq_ediv_of_nonneg (by omega)
      have e8 := winc (i := k) (by omega)
      have hD : o + x * y + c = (o + x * y + c) % 10000 + 10000 * ((o + x * y + c) / 10000) := (Int.emod_add_mul_ediv _ _).symm
      have hC0 : 0 ≤ (o + x * y + c) / 10000 := by omega
      have hC1 : (o + x * y + c) / 10000 ≤ 9999 := by omega
      have hD0 : 0 ≤ (o + x * y + c) % 10000 := by omega
      have hD1 : (o + x * y + c) % 10000 < 10000 := by omega
      have hnew : valT (out.set (i + k) ((o + x * y + c) % 10000)) (la + lb) + (o + x * y + c) / 10000 * 10000 ^ (i + (k + 1)) = valT (td a) i * b + x * valT (td b) (k + 1) * 10000 ^ i := by
        rw [valT_set (by omega) hik, hoe, show i + (k + 1) = i + k + 1 from rfl, Int.pow_succ, valT, hye]
        have := mul_carry hov hD
        have e : x * (valT (td b) k + y * 10000 ^ k) * 10000 ^ i = x * valT (td b) k * 10000 ^ i + x * y * 10000 ^ (i + k) := by rw [Int.pow_add]; grind
        rw [e]; omega
      have hl2 : (out.set (i + k) ((o + x * y + c) % 10000)).length = la + lb := by rw [List.length_set]; exact hol
      have hw2 := how.set (i := i + k) hD0 hD1
      clear hend hck hov hxy hxy2 hD
      conv => whnf
      by_cases g1 : k < lb
      · have t2 : decide ((k : Int) < (lb : Int)) = true := decide_eq_true (by omega)
        (repeat ((first | refine step_w1 rfl rfl ?_ | refine step_w2 rfl rfl ?_ | refine step_i (by kernel_rfl) ?_ | refine step_oL (by first | omega | decide | (simp only [tl0, dlen, List.length_replicate, List.length_set, List.length_map, List.length_zipWith, List.length_take, List.length_append, List.length_cons, List.length_nil]; omega)) ?_ | refine step_oA (by first | omega | decide | (simp only [tl0, dlen, List.length_replicate, List.length_set, List.length_map, List.length_zipWith, List.length_take, List.length_append, List.length_cons, List.length_nil]; omega)) ?_ | refine step_oN (by first | omega | decide | (simp only [tl0, dlen, List.length_replicate, List.length_set, List.length_map, List.length_zipWith, List.length_take, List.length_append, List.length_cons, List.length_nil]; omega)) ?_ | refine g_c (by assumption) ?_ | refine g_o (op_pickT rfl (ev_ok rfl) (ev_ok rfl)) ?_ | refine g_o (op_lenM rfl rfl rfl (ev_ok rfl) (tgt rfl) rfl) ?_ | refine g_o (op_loadA rfl (ev_ok rfl) (tgt rfl) rfl (Nat.succ_ne_zero _) rfl) ?_ | refine g_o (op_indexN (α := Int) (d := 0) rfl (ev_ok rfl) (ev_ok rfl) (tgt rfl) rfl (tgt rfl) rfl (by omega)) ?_ | rw [hlb] | rw [t2] | rw [hxe] | rw [e1] | rw [hoe] | rw [e2] | rw [e3] | rw [e4] | rw [e5] | rw [e6] | rw [e8] | rw [Int.toNat_natCast] | rw [Nat.zero_add]); conv => whnf))
        exact ⟨lb + 2 - (k + 1), fun k => k, [0, 1, 5, 6, 7, 8], [15], by omega, by kernel_rfl, k + 1, _, _, rfl, by omega, hl2, hw2, hC0, hC1, hnew, rfl, rfl⟩
      · have t2 : decide ((k : Int) < (lb : Int)) = false := decide_eq_false (by omega)
        have t3 : decide (c > 0) = true := decide_eq_true (by omega)
        (repeat ((first | refine step_w1 rfl rfl ?_ | refine step_i (by kernel_rfl) ?_ | refine step_oL (by first | omega | decide | (simp only [tl0, dlen, List.length_replicate, List.length_set, List.length_map, List.length_zipWith, List.length_take, List.length_append, List.length_cons, List.length_nil]; omega)) ?_ | refine step_oA (by first | omega | decide | (simp only [tl0, dlen, List.length_replicate, List.length_set, List.length_map, List.length_zipWith, List.length_take, List.length_append, List.length_cons, List.length_nil]; omega)) ?_ | refine step_oN (by first | omega | decide | (simp only [tl0, dlen, List.length_replicate, List.length_set, List.length_map, List.length_zipWith, List.length_take, List.length_append, List.length_cons, List.length_nil]; omega)) ?_ | refine g_c (by assumption) ?_ | refine g_o (op_pickF rfl (ev_ok rfl) (ev_ok rfl)) ?_ | refine g_o (op_lenM rfl rfl rfl (ev_ok rfl) (tgt rfl) rfl) ?_ | refine g_o (op_loadA rfl (ev_ok rfl) (tgt rfl) rfl (Nat.succ_ne_zero _) rfl) ?_ | refine g_o (op_indexN (α := Int) (d := 0) rfl (ev_ok rfl) (ev_ok rfl) (tgt rfl) rfl (tgt rfl) rfl (by omega)) ?_ | rw [hlb] | rw [t2] | rw [t3] | rw [hxe] | rw [e1] | rw [hoe] | rw [e2] | rw [e3] | rw [e4] | rw [e5] | rw [e6] | rw [e8] | rw [Int.toNat_natCast] | rw [Nat.zero_add]); conv => whnf))
        exact ⟨lb + 2 - (k + 1), fun k => k, [0, 1, 5, 6, 7, 8], [15], by omega, by kernel_rfl, k + 1, _, _, rfl, by omega, hl2, hw2, hC0, hC1, hnew, rfl, rfl⟩
    · have t2 : decide ((k : Int) < (lb : Int)) = false := decide_eq_false (by omega)
      have t3 : decide (c > 0) = false := decide_eq_false (by omega)
      have hc : c = 0 := by omega
      have hv := hend (by omega)
      rw [hc, Int.zero_mul, Int.add_zero] at hv
      conv => whnf
      (repeat ((first | refine step_w1 rfl rfl ?_ | refine step_w2 rfl rfl ?_ | refine g_o (op_pickF rfl (ev_ok rfl) (ev_ok rfl)) ?_ | refine g_o (op_lenM rfl rfl rfl (ev_ok rfl) (tgt rfl) rfl) ?_ | rw [hlb] | rw [t2] | rw [t3] | rw [e9]); conv => whnf))
      exact ⟨la - (i + 1), fun k => k, [0, 1, 5, 6], [15], by omega, by kernel_rfl, i + 1, out, rfl, by omega, hol, how, hv, rfl, rfl⟩
  · have t1 : decide ((i : Int) < (la : Int)) = false := decide_eq_false (by omega)
    have hI : i = la := by omega
    subst hI
    rw [td_valN a i (by omega)] at hov
    have k1 := r_trim out (by omega) how
    rw [show (valT out out.length).toNat = a * b by rw [hol, hov, ← Int.natCast_mul]; exact Int.toNat_natCast _] at k1
    refine SWx_frzI 5 15 (fun _ h => h) rfl rfl hol.symm ?_
    refine SWx.of hE ?_
    conv => whnf
    (repeat ((first | refine step_w2 rfl rfl ?_ | refine g_c (by assumption) ?_ | refine g_o (op_lenM rfl rfl rfl (ev_ok rfl) (tgt rfl) rfl) ?_ | rw [hla] | rw [t1]); conv => whnf)); (first | exact Recast.refl _ | exact Frz.recast (Recast.refl _) rfl | (refine Frz.one rfl rfl ?_; skip) | (refine Frz.tup ?_; skip))
end Go.Proofs.YtkpfineikahgfaaGreatDoor

namespace Go.Proofs.YtkpfineikahgfaaGreatDoor
open Go.Sx
set_option linter.unusedSimpArgs false
set_option linter.unusedVariables false
set_option maxRecDepth 100000
set_option maxHeartbeats 4000000

/-- What is loaded from a slice that is a value. -/
theorem run_firstV {P : Program} {ρ : Rho} {w : World} {s n : Nat} {vs : List SV} {d : Sx.Data} {v : Value} (hv : Has ρ (vecA s vs) v) (himm : ∀ b o, ρ.imm b = some o → w.heap[b]? = some o)
    (hr : ∀ z, HasZ (bareR ρ.imm ρ.glob) vs z → (∀ x ∈ vs, x.width = s) → Go.Sx.Rows ρ s d z) (hn : n = vs.length) :
    ∃ z, Go.Sx.Rows ρ s d z ∧ (∀ w', (∀ b, b < w.heap.size → w'.heap[b]? = w.heap[b]?) → (Builtin.firstCells s n v).run P w' = .ok (((z.drop 0).take n).flatten).toArray w') ∧ Builtin.lenOf v = Pure.pure n := by
  subst hn
  rcases has_vec hv with ⟨rfl, a, rfl⟩ | ⟨b, cap, z, pre, ex, ty, fz, h1, h2, h3, h4, h5, h6⟩
  · refine ⟨[], hr [] (by simp only [HasZ]) (fun x hx => by cases hx), fun w' _ => ?_, rfl⟩
    cases a with
    | none => simp [Builtin.firstCells]
    | some a => simp [Builtin.firstCells, loadCells, loadCellsFrom]
  · have hzr := hr z h2 h3
    obtain ⟨zl, zw⟩ := hzr.len
    have hzl : z.length = vs.length := HasZ_length h2
    subst h6
    refine ⟨z, hzr, fun w' hw' => ?_, rfl⟩
    have hh0 := himm _ _ h1
    have hblt : b < w.heap.size := by
      rcases Nat.lt_or_ge b w.heap.size with h' | h'
      · exact h'
      · simp [Array.getElem?_eq_none h'] at hh0
    have hh : w'.heap[b]? = some (.cells (pre ++ (z.flatten ++ ex)).toArray ty fz) := by rw [hw' b hblt]; exact hh0
    have e0 : (z.drop 0).take vs.length = z := by rw [List.drop_zero, List.take_of_length_le (by omega)]
    rw [e0]
    have hlen : z.flatten.length = vs.length * s := by rw [flatten_len (s := s) _ zw, hzl]
    refine run_firstCells_some (P := P) w' s vs.length _ vs.length cap _ hlen ?_
    intro j u hj
    have hadd : (⟨b, pre.length, none⟩ : Addr).add j = ⟨b, pre.length + j, none⟩ := by unfold Addr.add; split <;> simp_all
    rw [hadd, cell_of_row w' b (pre.length + j) _ ty fz hh]
    have hlt : j < z.flatten.length := (List.getElem?_eq_some_iff.1 hj).1
    simp only [List.getElem?_toArray]
    rw [List.getElem?_append_right (by omega), Nat.add_sub_cancel_left, List.getElem?_append_left hlt]
    exact hj

theorem HasZ_intsU {ρ : Rho} {kd : IntKind} : ∀ (xs : List Int) (z : List (List Value)), HasZ ρ (xs.map (iel kd)) z → z = xs.map fun x => [.int kd x]
  | [], z, h => by simpa only [List.map_nil, HasZ] using h
  | x :: xs, z, h => by
    simp only [List.map_cons, HasZ] at h
    obtain ⟨y, r, rfl, h1, h2⟩ := h
    rw [HasZ_intsU xs r h2]
    simp only [iel, HasC] at h1
    rw [h1.1, List.map_cons]
theorem rows_ints {kd : IntKind} (xs : List Int) : ∀ (ρ : Rho) z, HasZ (bareR ρ.imm ρ.glob) (xs.map (iel kd)) z → (∀ x ∈ xs.map (iel kd), x.width = 1) → Go.Sx.Rows ρ 1 (.ints kd xs) z :=
  fun ρ z h _ => ⟨rfl, HasZ_intsU xs z h⟩

theorem op_appendV {P : Program} {o : Oper} {fr : List (Nat × SV)} {fk : List (Nat × Blk)} {t t2 e : TypeId} {x y : Operand} {xs : Array Operand} {ts : Array TypeId} {ti t0 te : TI} {k kn n m : Nat} {d d' d2 : Sx.Data} {vs : List SV} (ho : o.op = .call ⟨.builtin .append, xs, ts⟩) (hxs : xs = #[x, y]) (hts : ts = #[t, t2])
    (hx : EvOK fr x (.slc k te.size 0 n)) (hy : EvOK fr y (vecA te.size vs)) (hr2 : ∀ (ρ : Rho) z, HasZ (bareR ρ.imm ρ.glob) vs z → (∀ x ∈ vs, x.width = te.size) → Go.Sx.Rows ρ te.size d2 z) (ht : TOK P t ti) (hk : ti.kind = .slc e) (ht2 : TOK P t2 t0) (hk2 : t0.kind = .slc e) (he : TOK P e te)
    (hf : (k, ⟨e, true, d⟩) ∈ fk) (hl : d.live = true) (hw : dwidth d = some te.size)
    (hn : n ≤ dlen d) (hmv : m = vs.length) (hm : 0 + m ≤ dlen d2) (hd : dapp d n d2 0 m = some d') (hbytes : (n + m) * te.bytes ≤ 140737488355328) (h63 : n + m ≤ 9223372036854775807) :
    OpOK P o fr fk (.slc kn te.size 0 (n + m)) [(kn, ⟨e, true, d'⟩)] [(k, ⟨e, true, .dead⟩)] :=
  ok_value fun ρ a w hp => by
    have hvx := hx ρ a hp.hft
    have hvy := hy ρ a hp.hft
    obtain ⟨i, zv, i1, i2', i3, i4, i5, i6, i7, _⟩ := he.info
    have hu := ht.kind; rw [hk] at hu
    have hu2 := ht2.kind; rw [hk2] at hu2
    obtain ⟨z, hz, hzc⟩ := blk_rows (hp.hfk k _ hf) hl hw
    obtain ⟨z2, hz2, hrun2, hlen2⟩ := run_firstV (P := P) (d := d2) hvy hp.imm (hr2 ρ) hmv
    obtain ⟨zl, zw⟩ := hz.len
    obtain ⟨zl2, zw2⟩ := hz2.len
    have hrows := (dapp_rows hd hz hz2).1
    have hfresh := hp.fresh kn _ (List.mem_cons_self ..)
    simp only at zl
    have hsegw : ∀ u ∈ (z2.drop 0).take m, u.length = te.size := fun u hu => zw2 u (List.mem_of_mem_drop (List.mem_of_mem_take hu))
    have hsegl : ((z2.drop 0).take m).length = m := by rw [List.length_take, List.length_drop]; omega
    have hnews : (((z2.drop 0).take m).flatten).length = m * te.size := by rw [flatten_len _ hsegw, hsegl]
    have hnone : ∀ u ∈ (((z2.drop 0).take m).flatten), u.oneCell' = true := fun u hu => by
      obtain ⟨q, hq, hu⟩ := List.mem_flatten.1 hu
      exact hz2.one' q (List.mem_of_mem_drop (List.mem_of_mem_take hq)) u hu
    have hcall : ∀ v w', (Builtin.append_ ts o.type #[a.eval x, a.eval y]).run P w = .ok v w' → (execOp a.eval o).run P w = .ok (.value v) w' := by
      intro v w' h
      simp only [execOp, ho, resolve, invoke, builtin, hxs, Sem.run_bind, Sem.run_pure, Result.andThen_ok, List.map_toArray, List.map_cons, List.map_nil]
      rw [h]
      rfl
    have zone : ∀ v ∈ zv.cells.toList, v.oneCell' = true := by
      have h1 := (HasZ.len (ρ := ρ) te.zero _ (zero_has i6)).2
      rw [i5, List.flatMap_def]; exact h1
    have h63' : ¬ ((n + m : Nat) : Int) > IntKind.i64.max := by
      have : IntKind.i64.max = 9223372036854775807 := by decide
      omega
    -- the growing way
    have grow : ∀ (base : Option Addr) (cap : Nat), a.eval x = .slice base n cap → cap < n + m → (∀ w', (∀ b, b < w.heap.size → w'.heap[b]? = w.heap[b]?) → (Builtin.firstCells te.size n (.slice base n cap)).run P w' = .ok ((z.take n).flatten).toArray w') →
        ∃ v w' ρ', (execOp a.eval o).run P w = .ok (.value v) w' ∧ Post ρ w (.slc kn te.size 0 (n + m)) [(kn, ⟨e, true, d'⟩)] [(k, ⟨e, true, .dead⟩)] v ρ' w' := by
      intro base cap hbx hcap hfirst
      have hfit : ¬ Builtin.nextslicecap (n + m) cap * i.bytes > 2 ^ 48 := by
        have := growslice_fits (bytes := te.bytes) hcap hbytes
        rw [i3]; simpa using this
      have hgc : n + m ≤ grownCap w (n + m) cap e := by
        simp only [grownCap, Question.cut]
        omega
      have hpost := post_row (hL := hrows.notLoop) (ρ := ρ) (w := w.drew) (k := kn) (s := te.size) (n := n + m) (cap := grownCap w (n + m) cap e) (ty := e) (d := d') (vs := (z.take n ++ (z2.drop 0).take m).flatten) (ex := (Builtin.zeroCells zv.cells (grownCap w (n + m) cap e - (n + m))).toList) hfresh hrows.data hgc
        (by
          have h1 : ((z.take n ++ (z2.drop 0).take m).flatten).length = (n + m) * te.size := by
            rw [flatten_len (s := te.size) _ (fun u hu => (List.mem_append.1 hu).elim (fun h => zw u (List.mem_of_mem_take h)) (hsegw u)), List.length_append, hsegl, List.length_take]
            congr 1
            omega
          rw [List.length_append, h1, Array.length_toList]
          have h2 : (Builtin.zeroCells zv.cells (grownCap w (n + m) cap e - (n + m))).size = (grownCap w (n + m) cap e - (n + m)) * te.size := by simp [Builtin.zeroCells, i7]
          rw [h2, ← Nat.add_mul, show n + m + (grownCap w (n + m) cap e - (n + m)) = grownCap w (n + m) cap e from by omega]
          exact Nat.le_refl _) (zeroCells_one zone _)
      refine ⟨_, _, _, hcall _ _ ?_, { hpost with
        pres := ⟨hpost.pres.os, hpost.pres.tape, hpost.pres.output, hpost.pres.size, fun b hb hn => hpost.pres.block b hb (fun hh => by obtain ⟨_, _, _, hh, _⟩ := hh; cases hh)⟩
        blk := fun j b hj => by
          rcases hj with hj | hj
          · simp only [List.mem_singleton, Prod.mk.injEq] at hj
            obtain ⟨rfl, rfl⟩ := hj
            exact .inl rfl
          · exact hpost.blk j b (.inr hj)
        once := fun j b b' h1 h2 h3 h4 => by
          simp only [List.mem_singleton, Prod.mk.injEq] at h1 h2
          rw [h2.2] at h4
          cases h4
        newb := fun j b q hj hq => .inl ((hpost.newb j b q hj hq).elim id (fun hh => by obtain ⟨_, _, _, hh, _⟩ := hh; cases hh)) }⟩
      have hz0 : (if false = true then (Pure.pure 0 : Sem Nat) else Builtin.lenOf (a.eval y)).run P w = .ok m w := by rw [hlen2]; rfl
      have hcap' : ¬ n + m ≤ cap := by omega
      have hnb : (w.drew).heap = w.heap := rfl
      have hr1 := hfirst w.drew (fun b _ => rfl)
      have hr2 := hrun2 w.drew (fun b _ => rfl)
      simp only [Builtin.append_, hts, hbx, List.getElem?_toArray, List.getElem?_cons_zero, List.getElem?_cons_succ, Sem.run_bind, run_underlying hu, run_underlying hu2, Result.andThen_ok, he.sizeOf, Sem.run_pure, Bool.false_eq_true, if_false, hlen2]
      have hti : ∀ w', (typeInfo e).run P w' = .ok i w' := fun w' => by simp [typeInfo, i1]
      have hzv : ∀ w', (Go.zeroValue e).run P w' = .ok zv w' := fun w' => by simp [Go.zeroValue, typeInfo, i1, i4]
      have hcond : ¬ (((n + m : Nat) : Int) > IntKind.i64.max ∧ (False ∨ i.bytes = 0)) := fun h => h63' h.1
      have hforced : (Question.appendCap (n + m) cap e).forced = false := rfl
      simp only [hcap', if_false, Sem.run_bind, hti, Result.andThen_ok, hcond, hfit, run_choose, hforced, Bool.false_eq_true, World.drew_eq, run_askRoom, hr1, Bool.not_false, if_true, hr2, hzv, newRow, run_newObj, Sem.run_pure, World.alloc_eq]
      have harr : ((z.take n).flatten.toArray ++ ((z2.drop 0).take m).flatten.toArray ++ Builtin.zeroCells zv.cells (grownCap w (n + m) cap e - (n + m))) = ((z.take n ++ (z2.drop 0).take m).flatten ++ (Builtin.zeroCells zv.cells (grownCap w (n + m) cap e - (n + m))).toList).toArray := by
        apply Array.ext'
        simp
      show Result.ok (Value.slice (some ⟨w.drew.heap.size, 0, none⟩) (n + m) (grownCap w (n + m) cap e)) (w.drew.alloc (.cells ((z.take n).flatten.toArray ++ ((z2.drop 0).take m).flatten.toArray ++ Builtin.zeroCells zv.cells (grownCap w (n + m) cap e - (n + m))) e)) = _
      rw [harr]
    -- the ways
    rcases has_slc hvx with ⟨b, tt, cap, e1, e2, e3, e4⟩ | ⟨rfl, ad, e4⟩
    · rcases hzc with ⟨b', tt', ex, c1, c2, c3, c4⟩ | ⟨c1, _⟩
      · rw [e1] at c1
        cases c1
        simp only at c2
        rcases Nat.lt_or_ge cap (n + m) with hlt | hge
        · refine grow _ cap e4 hlt ?_
          obtain ⟨z3, hz3, hrun3, _⟩ := run_first (P := P) hvx (hp.hfk k _ hf) hl hw (by simpa using hn)
          intro w' hw'
          have h0 := run_firstCells_some (P := P) w' te.size n ⟨b, 0 * te.size, none⟩ n cap ((z.take n).flatten) (by
            rw [flatten_len (s := te.size) _ (fun u hu => zw u (List.mem_of_mem_take hu)), List.length_take]; congr 1; omega) (by
            intro j u hj
            have hblt : b < w.heap.size := by
              rcases Nat.lt_or_ge b w.heap.size with h' | h'
              · exact h'
              · simp [Array.getElem?_eq_none h'] at c2
            have hh : w'.heap[b]? = some (.cells (z.flatten ++ ex).toArray e (0, 0)) := by rw [hw' b hblt]; exact c2
            have hadd : (⟨b, 0 * te.size, none⟩ : Addr).add j = ⟨b, j, none⟩ := addr_add0 b te.size j
            rw [hadd, cell_of_row w' b j _ e (0, 0) hh]
            rw [flatten_take (s := te.size) _ _ zw] at hj
            have h6 : z.flatten[j]? = some u := by
              rw [List.getElem?_take] at hj
              split at hj
              · exact hj
              · cases hj
            have hlt2 : j < z.flatten.length := (List.getElem?_eq_some_iff.1 h6).1
            simp only [List.getElem?_toArray]
            rw [List.getElem?_append_left hlt2]
            exact h6)
          exact h0
        · -- in place
          have hblt : b < w.heap.size := by
            rcases Nat.lt_or_ge b w.heap.size with h' | h'
            · exact h'
            · simp [Array.getElem?_eq_none h'] at c2
          have hr2 := hrun2 w (fun b _ => rfl)
          have hfitc : 0 * te.size + n * te.size + (((z2.drop 0).take m).flatten).length ≤ (z.flatten ++ ex).length := by
            rw [hnews, c3, Nat.zero_mul, Nat.zero_add, ← Nat.add_mul]
            exact Nat.le_trans (Nat.mul_le_mul_right _ hge) (by simpa using e3)
          have hsc := run_storeCells_at (P := P) b (n * te.size) e (((z2.drop 0).take m).flatten) 0 (z.flatten ++ ex).toArray w c2 (by simp only [List.size_toArray]; simpa using hfitc) hnone
          have hadd : (⟨b, 0 * te.size, none⟩ : Addr).add (n * te.size) = ⟨b, n * te.size, none⟩ := addr_add0 b te.size _
          have hcells : ((z.flatten ++ ex).take (n * te.size + 0) ++ (((z2.drop 0).take m).flatten) ++ (z.flatten ++ ex).drop (n * te.size + 0 + (((z2.drop 0).take m).flatten).length)) =
              (z.take n ++ (z2.drop 0).take m).flatten ++ (z.flatten ++ ex).drop (n * te.size + m * te.size) := by
            rw [Nat.add_zero, hnews, List.flatten_append, flatten_take (s := te.size) _ _ zw, List.take_append_of_le_length (by rw [flatten_len (s := te.size) _ zw]; exact Nat.mul_le_mul_right _ (by omega))]
          rw [hcells] at hsc
          let ρ' : Rho := ⟨fun j => if j = kn then some (b, tt) else ρ.key j, ρ.imm, ρ.glob⟩
          have hle : ρ.Le ρ' := ⟨fun j q hq => by
            show (if j = kn then _ else _) = _
            by_cases hj : j = kn
            · subst hj; rw [hfresh] at hq; cases hq
            · rw [if_neg hj]; exact hq, fun b o hb => hb⟩
          refine ⟨.slice (some ⟨b, 0 * te.size, none⟩) (n + m) cap, w.setRow b ((z.take n ++ (z2.drop 0).take m).flatten ++ (z.flatten ++ ex).drop (n * te.size + m * te.size)).toArray, ρ', hcall _ _ ?_, ?_⟩
          · simp only [Builtin.append_, hts, e4, List.getElem?_toArray, List.getElem?_cons_zero, List.getElem?_cons_succ, Sem.run_bind, run_underlying hu, run_underlying hu2, Result.andThen_ok, he.sizeOf, Sem.run_pure, Bool.false_eq_true, if_false, hlen2, hge, if_true, Bool.not_false, hr2, hadd, hsc]
          · refine ⟨hle, slc_has (.inl ⟨b, tt, cap, ?_, hge, e3, rfl⟩), ?_, ⟨rfl, rfl, rfl, by simp [World.setRow], ?_⟩, ?_, ?_, ?_, ?_, fun b o hb => .inl hb⟩
            · show (if kn = kn then _ else _) = _
              rw [if_pos rfl]
            · intro j hj
              show (if j = kn then _ else _) = _
              rw [if_neg]
              rintro rfl
              exact hj _ (List.mem_cons_self ..)
            · intro q hq hnq
              refine heap_setRow_other fun hqb => hnq ⟨k, _, tt, List.mem_cons_self .., ?_⟩
              rw [hqb]; exact e1
            · intro j bj hj
              rcases hj with hj | hj
              · simp only [List.mem_singleton, Prod.mk.injEq] at hj
                obtain ⟨rfl, rfl⟩ := hj
                exact .inl rfl
              · simp only [List.mem_singleton, Prod.mk.injEq] at hj
                obtain ⟨rfl, rfl⟩ := hj
                refine .inr (.inl ⟨b, tt, _, (z.flatten ++ ex).drop (n * te.size + m * te.size), ?_, by rw [Data.obj_cells hrows.notLoop]; exact heap_setRow_same c2, hrows.data.mono hle, ?_, ?_⟩)
                · show (if j = j then _ else _) = _
                  rw [if_pos rfl]
                · have h1 : ((z.take n ++ (z2.drop 0).take m).flatten).length = (n + m) * te.size := by
                    rw [flatten_len (s := te.size) _ (fun u hu => (List.mem_append.1 hu).elim (fun h => zw u (List.mem_of_mem_take h)) (hsegw u)), List.length_append, hsegl, List.length_take]
                    congr 1
                    omega
                  rw [List.length_append, h1, List.length_drop, c3, Nat.add_mul]
                  rw [hnews, c3] at hfitc
                  omega
                · intro u hu
                  have := List.mem_of_mem_drop hu
                  rcases List.mem_append.1 this with h | h
                  · obtain ⟨q, hq, hu'⟩ := List.mem_flatten.1 h
                    exact hz.one' q hq u hu'
                  · exact c4 u h
            · intro j c c' h1 h2 h3 h4
              simp only [List.mem_singleton, Prod.mk.injEq] at h1 h2
              rw [h2.2] at h4
              cases h4
            · intro j bj q hj hq
              simp only [List.mem_singleton, Prod.mk.injEq] at hj
              obtain ⟨rfl, rfl⟩ := hj
              have hq' : (if j = j then some (b, tt) else ρ.key j) = some q := hq
              rw [if_pos rfl] at hq'
              cases hq'
              exact .inr ⟨k, _, tt, List.mem_cons_self .., rfl, e1⟩
            · intro j bj j' bj' q q' hj hj' hne
              simp only [List.mem_singleton, Prod.mk.injEq] at hj hj'
              exact absurd (hj.1.trans hj'.1.symm) hne
      · rw [e1] at c1; cases c1
    · rcases Nat.eq_zero_or_pos m with rfl | hm0
      · -- nothing onto nothing
        have hr2 := hrun2 w (fun b _ => rfl)
        refine ⟨.slice ad 0 0, w, ρ, hcall _ _ ?_, ?_⟩
        · have hst : ∀ q : Addr, (storeCells q ([] : List Value)).run P w = .ok () w := fun q => rfl
          have hseg0 : ((z2.drop 0).take 0).flatten = [] := by simp
          rw [hseg0] at hr2
          cases ad <;> simp only [Builtin.append_, hts, e4, List.getElem?_toArray, List.getElem?_cons_zero, List.getElem?_cons_succ, Sem.run_bind, run_underlying hu, run_underlying hu2, Result.andThen_ok, he.sizeOf, Sem.run_pure, Bool.false_eq_true, if_false, hlen2, Nat.add_zero, Nat.le_refl, if_true, Bool.not_false, hr2, hst]
        · have hemp : d'.empty ∨ True := .inr trivial
          have hd0 : d'.empty := by
            unfold dapp at hd
            split at hd
            · split at hd
              · simp only [Option.some.injEq] at hd; subst hd; simp [Data.empty]
              · simp at hd
            · simp only [Option.some.injEq] at hd; subst hd; simp [Data.empty]
            · split at hd
              · simp only [Option.some.injEq] at hd; subst hd; simp [Data.empty]
              · simp at hd
            · simp at hd
          refine ⟨.refl ρ, slc_has (.inr ⟨rfl, ad, rfl⟩), fun _ _ => rfl, .refl _ _, ?_, ?_, ?_, ?_, fun b o hb => .inl hb⟩
          · intro j bj hj
            rcases hj with hj | hj
            · simp only [List.mem_singleton, Prod.mk.injEq] at hj
              obtain ⟨rfl, rfl⟩ := hj
              exact .inl rfl
            · simp only [List.mem_singleton, Prod.mk.injEq] at hj
              obtain ⟨rfl, rfl⟩ := hj
              exact .inr (.inr ⟨hfresh, hd0⟩)
          · intro j c c' h1 h2 h3 h4
            simp only [List.mem_singleton, Prod.mk.injEq] at h1 h2
            rw [h2.2] at h4
            cases h4
          · intro j bj q hj hq
            simp only [List.mem_singleton, Prod.mk.injEq] at hj
            obtain ⟨rfl, rfl⟩ := hj
            rw [hfresh] at hq; cases hq
          · intro j bj j' bj' q q' hj hj' hne
            simp only [List.mem_singleton, Prod.mk.injEq] at hj hj'
            exact absurd (hj.1.trans hj'.1.symm) hne
      · refine grow ad 0 e4 (by omega) ?_
        intro w' _
        cases ad with
        | none => simp [Builtin.firstCells]
        | some q => simp [Builtin.firstCells, loadCells, loadCellsFrom]

end Go.Proofs.YtkpfineikahgfaaGreatDoor

namespace Go.Proofs.YtkpfineikahgfaaGreatDoor
open Go.Sx
set_option linter.unusedSimpArgs false
set_option linter.unusedVariables false
set_option maxRecDepth 100000
set_option maxHeartbeats 4000000

theorem SWx_frzP {E : Env} (t k : Nat) {c : Code} {K : Post'} {fr : List (Nat × SV)} {hp : List (Nat × Blk)} {ty : TypeId} {n : Nat} {kd : IntKind} {xs ys : List Int} (hW : ∀ b, ¬ E.W0 b) (ht : lk fr t = some (.slc k 1 0 n)) (hk : find hp k = some ⟨ty, true, .ints kd xs⟩)
    (hn : n ≤ xs.length) (hy : xs.take n = ys) (hs : SWx E c K ((t, ivec kd ys) :: fr) (setB hp k ⟨ty, true, .dead⟩)) : SWx E c K fr hp := by
  refine SWx_freeze t k (xs := xs.map (iel kd)) hW ht hk rfl rfl (keylessL_map (fun _ => rfl) xs) (by simp; omega) ?_
  have e : cutL (xs.map (iel kd)) 0 (0 + n) = ys.map (iel kd) := by
    rw [cutL, List.drop_zero, Nat.sub_zero, Nat.zero_add, ← List.map_take, hy]
  rw [e]
  exact hs

theorem r_trimM (xs : List Int) (n : Nat) (hn : n ≤ xs.length) (hl : xs.length < 1099511627776) (K : Nat) (wr : Bool) :
    CallOK Tryz.prog 269 [.slc K 1 0 n] [(K, ⟨3, wr, .ints .i64 xs⟩)] (.slc K 1 0 (cutN xs n)) [] [] := by
  refine CallOK.anyWr ?_
  refine callK (Z := []) tabOK mixedOK Tryz.func269 rfl (by kernel_rfl) (args := [.slc 1001 1 0 n]) (fk := [(1001, ⟨3, false, .ints .i64 xs⟩)]) (c := .slc 1001 1 0 (cutN xs n)) (new := []) (upd := []) (ShapeOK.of rfl rfl rfl rfl rfl rfl rfl rfl rfl rfl rfl) rfl (fun _ => K) (NamesOK.ro rfl) ?_
  intro W0 w0 ρ0 hE
  conv => whnf
  skip
  refine SW_loopN hE (fun k => k) [0] [1001] (fun m fr hp => m ≤ n ∧ cutN xs m = cutN xs n ∧ fr = [(0, .slc 1001 1 0 m)] ∧ hp = [(1001, ⟨3, false, .ints .i64 xs⟩)]) n ?_ ?_ ?_
  · kernel_rfl
  · exact ⟨by omega, rfl, rfl, rfl⟩
  rintro m _ _ ⟨hm, hc, rfl, rfl⟩
  conv => whnf
  by_cases h0 : m = 0
  · subst h0
    have t1 : decide (((0 : Nat) : Int) > 0) = false := rfl
    have e : cutN xs n = 0 := hc.symm
    rw [e]
    (repeat (first | (refine step_w2 rfl rfl ?_; conv => whnf) | (refine g_o (op_pickF rfl (ev_ok rfl) (ev_ok rfl)) ?_; conv => whnf)))
    exact ⟨Recast.refl _, (fun _ _ h => by cases h), (fun _ _ h => by cases h)⟩
  · obtain ⟨m, rfl⟩ : ∃ k, m = k + 1 := ⟨m - 1, by omega⟩
    have t1 : decide (((m + 1 : Nat) : Int) > 0) = true := decide_eq_true (by omega)
    have e1 : IntKind.i64.wrap (((m + 1 : Nat) : Int) - 1) = (m : Int) := by rw [wrap_i64 (by omega) (by omega)]; omega
    by_cases hx : xs.getD m 0 = 0
    · have t2 : (xs.getD m 0 == 0) = true := beq_iff_eq.2 hx
      rw [cutN, if_pos hx] at hc
      (repeat ((first | refine step_w1 rfl rfl ?_ | refine step_oL (by first | omega | decide | (simp only [tl0, dlen, List.length_replicate, List.length_set, List.length_map, List.length_zipWith, List.length_take, List.length_append, List.length_cons, List.length_nil]; omega)) ?_ | refine step_oA (by first | omega | decide | (simp only [tl0, dlen, List.length_replicate, List.length_set, List.length_map, List.length_zipWith, List.length_take, List.length_append, List.length_cons, List.length_nil]; omega)) ?_ | refine g_o (op_pickT rfl (ev_ok rfl) (ev_ok rfl)) ?_ | rw [t1] | rw [e1] | rw [show 0 + (m : Int).toNat = m from by omega] | rw [t2] | rw [show ((m : Int) - 0).toNat = m from by omega] | rw [Nat.zero_add]); conv => whnf))
      exact ⟨m, fun k => k, [0], [1001], by omega, by kernel_rfl, by omega, hc, rfl, rfl⟩
    · have t2 : (xs.getD m 0 == 0) = false := beq_false_of_ne hx
      rw [cutN, if_neg hx] at hc
      rw [← hc]
      (repeat ((first | refine step_w1 rfl rfl ?_ | refine step_w2 rfl rfl ?_ | refine step_oL (by first | omega | decide | (simp only [tl0, dlen, List.length_replicate, List.length_set, List.length_map, List.length_zipWith, List.length_take, List.length_append, List.length_cons, List.length_nil]; omega)) ?_ | refine step_oA (by first | omega | decide | (simp only [tl0, dlen, List.length_replicate, List.length_set, List.length_map, List.length_zipWith, List.length_take, List.length_append, List.length_cons, List.length_nil]; omega)) ?_ | refine g_o (op_pickT rfl (ev_ok rfl) (ev_ok rfl)) ?_ | rw [t1] | rw [e1] | rw [show 0 + (m : Int).toNat = m from by omega] | rw [t2]); conv => whnf))
      exact ⟨Recast.refl _, (fun _ _ h => by cases h), (fun _ _ h => by cases h)⟩

/-- Dividing by a power, one place more. -/
theorem div_pow_step (R i : Nat) : R / 10000 ^ i = 10000 * (R / 10000 ^ (i + 1)) + R / 10000 ^ i % 10000 := by
  have := Nat.div_add_mod (R / 10000 ^ i) 10000
  rw [Nat.div_div_eq_div_mul, ← Nat.pow_succ] at this
  exact this.symm

theorem r_leading (R F : Nat) (hR : (td R).length < 1099511627776) (hF : F < 1099511627776) (hb : R / 10000 ^ F < 100000000000000000) : CallOK Tryz.prog 295 [nN R, .val (.int .i64 (F : Nat))] [] (.val (.int .i64 ((R / 10000 ^ F : Nat) : Int))) [] [] := by
  have e0 : IntKind.i64.wrap (((td R).length : Int) - 1) = ((td R).length : Int) - 1 := wrap_i64 (by omega) (by omega)
  refine callV (Z := []) tabOK mixedOK Tryz.func295 rfl (by kernel_rfl) rfl rfl (by kernel_rfl) rfl ?_
  intro W0 w0 ρ0 hE
  conv => whnf
  (repeat (first | (refine g_o (op_lenM rfl rfl rfl (ev_ok rfl) (tgt rfl) rfl) ?_; conv => whnf) | (rw [e0]; conv => whnf)))
  refine SW_loopN hE (fun k => k) [0, 1, 5, 6] [] (fun q fr hp => ∃ j : Nat, q = j - F ∧ j ≤ (td R).length ∧ (F ≤ j ∨ j = (td R).length) ∧ fr = [(0, nN R), (1, .val (.int .i64 (F : Nat))), (5, .val (.int .i64 ((R / 10000 ^ j : Nat) : Int))), (6, .val (.int .i64 ((j : Int) - 1)))] ∧ hp = []) ((td R).length - F) ?_ ?_ ?_
  · kernel_rfl
  · exact ⟨(td R).length, rfl, Nat.le_refl _, .inr rfl, by rw [Nat.div_eq_of_lt (tlt_len R)]; rfl, rfl⟩
  rintro q _ _ ⟨j, rfl, hj, hjF, rfl, rfl⟩
  conv => whnf
  by_cases hgo : F < j
  · obtain ⟨i, rfl⟩ : ∃ i, j = i + 1 := ⟨j - 1, by omega⟩
    have ei : (((i + 1 : Nat) : Int) - 1) = (i : Int) := by omega
    rw [ei]
    have hs := div_pow_step R i
    have hle : R / 10000 ^ i ≤ R / 10000 ^ F := Nat.div_le_div_left (Nat.pow_le_pow_right (by decide) (by omega)) (Nat.pow_pos (by decide))
    have hg := td_get R i
    have t1 : decide ((i : Int) ≥ (F : Int)) = true := decide_eq_true (by omega)
    generalize hA : R / 10000 ^ (i + 1) = A at *
    generalize hB : R / 10000 ^ i = B at *
    have e1 : IntKind.i64.wrap (10000 * (A : Int)) = 10000 * (A : Int) := wrap_i64 (by omega) (by omega)
    have e2 : IntKind.i64.wrap (10000 * (A : Int) + ((B % 10000 : Nat) : Int)) = (B : Int) := by rw [wrap_i64 (by omega) (by omega)]; omega
    have e3 : IntKind.i64.wrap ((i : Int) - 1) = (i : Int) - 1 := wrap_i64 (by omega) (by omega)
    have hiT : i < (td R).length := by omega
    clear hs hle
    (repeat ((first | refine step_w1 rfl rfl ?_ | refine g_o (op_loadA rfl (ev_ok rfl) (tgt rfl) rfl (Nat.succ_ne_zero _) rfl) ?_ | refine g_o (op_indexN (α := Int) (d := 0) rfl (ev_ok rfl) (ev_ok rfl) (tgt rfl) rfl (tgt rfl) rfl (by omega)) ?_ | rw [t1] | rw [hg] | rw [e1] | rw [e2] | rw [e3]); conv => whnf))
    exact ⟨i - F, fun k => k, [0, 1, 5, 6], [], by omega, by kernel_rfl, i, rfl, by omega, by omega, by rw [hB]; rfl, rfl⟩
  · have t1 : decide ((j : Int) - 1 ≥ (F : Int)) = false := decide_eq_false (by omega)
    have e : R / 10000 ^ F = R / 10000 ^ j := by
      rcases hjF with h | h
      · rw [show j = F by omega]
      · rw [h, Nat.div_eq_of_lt (tlt_len R), Nat.div_eq_of_lt (td_lt_pow (by omega))]
    rw [e]
    (repeat (first | (refine step_w2 rfl rfl ?_; conv => whnf) | (rw [t1]; conv => whnf))); (first | exact Recast.refl _ | exact Frz.recast (Recast.refl _) rfl | (refine Frz.one rfl rfl ?_; skip) | (refine Frz.tup ?_; skip))
theorem r_leadingM (L : List Int) (R F : Nat) (hL : L.take (td R).length = td R) (hLl : (td R).length ≤ L.length) (hR : (td R).length < 1099511627776) (hF : F < 1099511627776) (hb : R / 10000 ^ F < 100000000000000000) (K : Nat) (wr : Bool) :
    CallOK Tryz.prog 295 [.slc K 1 0 (td R).length, .val (.int .i64 (F : Nat))] [(K, ⟨3, wr, .ints .i64 L⟩)] (.val (.int .i64 ((R / 10000 ^ F : Nat) : Int))) [] [] := by
  have e0 : IntKind.i64.wrap (((td R).length : Int) - 1) = ((td R).length : Int) - 1 := wrap_i64 (by omega) (by omega)
  have hLg : ∀ i, i < (td R).length → L.getD i 0 = ((R / 10000 ^ i % 10000 : Nat) : Int) := fun i hi => by rw [← td_get, ← hL, getD_take, if_pos hi]
  refine CallOK.anyWr ?_
  refine callK (Z := []) tabOK mixedOK Tryz.func295 rfl (by kernel_rfl) (args := [.slc 1001 1 0 (td R).length, .val (.int .i64 (F : Nat))]) (fk := [(1001, ⟨3, false, .ints .i64 L⟩)]) (c := .val (.int .i64 ((R / 10000 ^ F : Nat) : Int))) (new := []) (upd := []) (ShapeOK.of rfl rfl rfl rfl rfl rfl rfl rfl rfl rfl rfl) rfl (fun _ => K) (NamesOK.ro rfl) ?_
  intro W0 w0 ρ0 hE
  conv => whnf
  (repeat (first | (rw [e0]; conv => whnf)))
  refine SW_loopN hE (fun k => k) [0, 1, 5, 6] [1001] (fun q fr hp => ∃ j : Nat, q = j - F ∧ j ≤ (td R).length ∧ (F ≤ j ∨ j = (td R).length) ∧ fr = [(0, .slc 1001 1 0 (td R).length), (1, .val (.int .i64 (F : Nat))), (5, .val (.int .i64 ((R / 10000 ^ j : Nat) : Int))), (6, .val (.int .i64 ((j : Int) - 1)))] ∧ hp = [(1001, ⟨3, false, .ints .i64 L⟩)]) ((td R).length - F) ?_ ?_ ?_
  · kernel_rfl
  · exact ⟨(td R).length, rfl, Nat.le_refl _, .inr rfl, by rw [Nat.div_eq_of_lt (tlt_len R)]; rfl, rfl⟩
  rintro q _ _ ⟨j, rfl, hj, hjF, rfl, rfl⟩
  conv => whnf
  by_cases hgo : F < j
  · obtain ⟨i, rfl⟩ : ∃ i, j = i + 1 := ⟨j - 1, by omega⟩
    have ei : (((i + 1 : Nat) : Int) - 1) = (i : Int) := by omega
    rw [ei]
    have hs := div_pow_step R i
    have hle : R / 10000 ^ i ≤ R / 10000 ^ F := Nat.div_le_div_left (Nat.pow_le_pow_right (by decide) (by omega)) (Nat.pow_pos (by decide))
    have hg := hLg i (by omega)
    have t1 : decide ((i : Int) ≥ (F : Int)) = true := decide_eq_true (by omega)
    generalize hA : R / 10000 ^ (i + 1) = A at *
    generalize hB : R / 10000 ^ i = B at *
    have e1 : IntKind.i64.wrap (10000 * (A : Int)) = 10000 * (A : Int) := wrap_i64 (by omega) (by omega)
    have e2 : IntKind.i64.wrap (10000 * (A : Int) + ((B % 10000 : Nat) : Int)) = (B : Int) := by rw [wrap_i64 (by omega) (by omega)]; omega
    have e3 : IntKind.i64.wrap ((i : Int) - 1) = (i : Int) - 1 := wrap_i64 (by omega) (by omega)
    have hiT : i < (td R).length := by omega
    clear hs hle
    (repeat ((first | refine step_w1 rfl rfl ?_ | refine step_oL (by first | omega | decide | (simp only [tl0, dlen, List.length_replicate, List.length_set, List.length_map, List.length_zipWith, List.length_take, List.length_append, List.length_cons, List.length_nil]; omega)) ?_ | refine step_oA (by first | omega | decide | (simp only [tl0, dlen, List.length_replicate, List.length_set, List.length_map, List.length_zipWith, List.length_take, List.length_append, List.length_cons, List.length_nil]; omega)) ?_ | rw [t1] | rw [hg] | rw [e1] | rw [e2] | rw [e3] | rw [Int.toNat_natCast] | rw [Nat.zero_add]); conv => whnf))
    exact ⟨i - F, fun k => k, [0, 1, 5, 6], [1001], by omega, by kernel_rfl, i, rfl, by omega, by omega, by rw [hB]; rfl, rfl⟩
  · have t1 : decide ((j : Int) - 1 ≥ (F : Int)) = false := decide_eq_false (by omega)
    have e : R / 10000 ^ F = R / 10000 ^ j := by
      rcases hjF with h | h
      · rw [show j = F by omega]
      · rw [h, Nat.div_eq_of_lt (tlt_len R), Nat.div_eq_of_lt (td_lt_pow (by omega))]
    rw [e]
    (repeat (first | (refine step_w2 rfl rfl ?_; conv => whnf) | (rw [t1]; conv => whnf)))
    exact ⟨Recast.refl _, (fun _ _ h => by cases h), (fun _ _ h => by cases h)⟩

section
variable {a b R d P F T lb : Nat}
theorem guess_lo {R b P T : Nat} (hb : 0 < b) (hP : 0 < P) (hT : b < (T + 1) * P) : R / P / (T + 1) ≤ R / b := by
  rw [Nat.le_div_iff_mul_le hb]
  have h1 : R / P / (T + 1) * (T + 1) ≤ R / P := Nat.div_mul_le_self _ _
  have h2 : R / P * P ≤ R := Nat.div_mul_le_self _ _
  have h3 : R / P / (T + 1) * b ≤ R / P / (T + 1) * ((T + 1) * P) := Nat.mul_le_mul_left _ (Nat.le_of_lt hT)
  have h4 : R / P / (T + 1) * (T + 1) * P ≤ R / P * P := Nat.mul_le_mul_right P h1
  rw [Nat.mul_assoc] at h4
  omega
theorem guess_hi {R b P T : Nat} (hT0 : 0 < T) (hP : 0 < P) (hT : T * P ≤ b) : R / b ≤ R / P / T := by
  rw [Nat.le_div_iff_mul_le hT0, Nat.le_div_iff_mul_le hP]
  have h1 : R / b * b ≤ R := Nat.div_mul_le_self _ _
  have h2 : R / b * (T * P) ≤ R / b * b := Nat.mul_le_mul_left _ hT
  rw [Nat.mul_assoc]
  omega
end
theorem step_div {A b d : Nat} (hb : 0 < b) : (10000 * A + d) / b = 10000 * (A / b) + (A % b * 10000 + d) / b := by
  have h : 10000 * A + d = A % b * 10000 + d + b * (10000 * (A / b)) := by
    have := Nat.div_add_mod A b
    have e : b * (10000 * (A / b)) = 10000 * (b * (A / b)) := by rw [← Nat.mul_assoc, Nat.mul_comm b 10000, Nat.mul_assoc]
    omega
  rw [h, Nat.add_mul_div_left _ _ hb]; omega
theorem step_mod {A b d : Nat} : (10000 * A + d) % b = (A % b * 10000 + d) % b := by
  have h : 10000 * A + d = A % b * 10000 + d + b * (10000 * (A / b)) := by
    have := Nat.div_add_mod A b
    have e : b * (10000 * (A / b)) = 10000 * (b * (A / b)) := by rw [← Nat.mul_assoc, Nat.mul_comm b 10000, Nat.mul_assoc]
    omega
  rw [h, Nat.add_mul_mod_self_left]
theorem digit_lt {r b d : Nat} (hb : 0 < b) (hr : r < b) (hd : d < 10000) : (r * 10000 + d) / b < 10000 := by
  rw [Nat.div_lt_iff_lt_mul hb]
  have : (r + 1) * 10000 ≤ b * 10000 := Nat.mul_le_mul_right _ hr
  rw [Nat.add_mul] at this
  rw [Nat.mul_comm 10000 b]; omega
/-- The first digits of a number. -/
theorem top_pos {b : Nat} (hb : 0 < b) : 0 < b / 10000 ^ ((td b).length - 3) := by
  refine Nat.div_pos (Nat.le_trans (Nat.pow_le_pow_right (by decide) (by omega)) (td_ge_pow (by omega))) (Nat.pow_pos (by decide))
theorem top_lt {b : Nat} : b / 10000 ^ ((td b).length - 3) < 1000000000000 := by
  rw [Nat.div_lt_iff_lt_mul (Nat.pow_pos (by decide)), show 1000000000000 = 10000 ^ 3 from rfl, ← Nat.pow_add]
  exact td_lt_pow (by omega)
theorem td_cons {d R : Nat} (hd : d < 10000) (h : R * 10000 + d ≠ 0) : td (R * 10000 + d) = (d : Int) :: td R := by
  rw [td_succ h, show (R * 10000 + d) % 10000 = d by omega, show (R * 10000 + d) / 10000 = R by omega]
theorem td_drop : ∀ (k n : Nat), (td n).drop k = td (n / 10000 ^ k)
  | 0, n => by simp
  | k + 1, n => by
    by_cases h : n = 0
    · subst h; rw [td_zero, Nat.zero_div]; rfl
    · rw [td_succ h, List.drop_succ_cons, td_drop k, Nat.div_div_eq_div_mul, Nat.pow_succ, Nat.mul_comm]
/-- A digit in front of a number's. -/
theorem cut_cons {d R : Nat} (hd : d < 10000) : cutN ((d : Int) :: td R) ((td R).length + 1) = (td (R * 10000 + d)).length ∧ ((d : Int) :: td R).take (td (R * 10000 + d)).length = td (R * 10000 + d) := by
  by_cases h : R * 10000 + d = 0
  · obtain rfl : R = 0 := by omega
    obtain rfl : d = 0 := by omega
    exact ⟨rfl, rfl⟩
  · have e := td_cons hd h
    have hl : (td (R * 10000 + d)).length = (td R).length + 1 := by rw [e]; rfl
    have ht := (td_top h).2
    rw [hl, e, Nat.add_sub_cancel] at ht
    refine ⟨?_, ?_⟩
    · rw [hl, cutN, if_neg ht]
    · rw [← e, List.take_length]

theorem wrap_nat {n : Nat} (h : n < 9223372036854775808) : IntKind.i64.wrap (n : Int) = n := wrap_i64 (by omega) (by omega)
theorem r_Div (a b : Nat) (hb : 0 < b) (ha : (td a).length < 268435456) (hbl : (td b).length < 268435456) : CallOK Tryz.prog 287 [nN a, nN b] [] (.tup [nN (a / b), nN (a % b)]) [] [] := by
  have k1 := r_Cmp a b (by omega) (by omega)
  by_cases hlt : a < b
  · have t1 : decide (((a : Int) - b).sign < 0) = true := decide_eq_true (by rw [Int.sign_eq_neg_one_of_neg (by omega)]; omega)
    have e0 : nN (a / b) = vecA 1 [] := by rw [Nat.div_eq_of_lt hlt]; rfl
    have e1 : nN (a % b) = nN a := by rw [Nat.mod_eq_of_lt hlt]
    rw [e0, e1]
    refine callF (Z := []) tabOK mixedOK Tryz.func287 rfl (by kernel_rfl) (by first | rfl | (simp [keylessL, keyless, keylessL_map, *]; done)) (by first | rfl | (simp [keylessL, keyless, keylessL_map, *]; done)) (by kernel_rfl) rfl ?_
    intro w0 ρ0 hE
    conv => whnf
    (repeat (first | (refine step_w1 rfl rfl ?_; conv => whnf) | (refine g_c (by assumption) ?_; conv => whnf) | (rw [t1]; conv => whnf))); (first | exact Recast.refl _ | exact Frz.recast (Recast.refl _) rfl | (refine Frz.one rfl rfl ?_; skip) | (refine Frz.tup ?_; (repeat (first | exact FrzC.keyless rfl | exact FrzL.nil | refine FrzL.cons ?_ ?_ | exact FrzC.nilS))))
  have t1 : decide (((a : Int) - b).sign < 0) = false := decide_eq_false (by have := Int.sign_nonneg_iff.2 (show 0 ≤ (a : Int) - b by omega); omega)
  have hle := td_len_mono (show b ≤ a by omega)
  have hlb0 : 0 < (td b).length := by have := (td_len_zero (n := b)); omega
  have hT0 := top_pos hb
  have hT1 := top_lt (b := b)
  have hPos : 0 < 10000 ^ ((td b).length - 3) := Nat.pow_pos (by decide)
  have hTb : b / 10000 ^ ((td b).length - 3) * 10000 ^ ((td b).length - 3) ≤ b := Nat.div_mul_le_self _ _
  have hbT : b < (b / 10000 ^ ((td b).length - 3) + 1) * 10000 ^ ((td b).length - 3) := by rw [Nat.mul_comm]; exact Nat.lt_mul_div_succ b hPos
  have k2 := r_leading b ((td b).length - 3) (by omega) (by omega) (by omega)
  generalize hF : (td b).length - 3 = F at *
  generalize hT : b / 10000 ^ F = T at *
  have e1 : IntKind.i64.wrap (((td b).length : Int) - 3) = ((td b).length : Int) - 3 := wrap_i64 (by omega) (by omega)
  have e2 : (if ((td b).length : Int) - 3 > 0 then ((td b).length : Int) - 3 else 0) = (F : Int) := by split <;> omega
  generalize hD : (td a).length - (td b).length = D
  have e3 : IntKind.i64.wrap (((td a).length : Int) - ((td b).length : Int)) = (D : Int) := by rw [wrap_i64 (by omega) (by omega)]; omega
  have e4 : IntKind.i64.wrap ((D : Int) + 1) = ((D + 1 : Nat) : Int) := by rw [wrap_i64 (by omega) (by omega)]; omega
  have hA0 : a / 10000 ^ (D + 1) < b := by
    have h1 := tlt_len a
    have h2 := td_ge_pow (n := b) (by omega)
    rw [Nat.div_lt_iff_lt_mul (Nat.pow_pos (by decide))]
    refine Nat.lt_of_lt_of_le h1 (Nat.le_trans (m := 10000 ^ ((td b).length - 1) * 10000 ^ (D + 1)) ?_ (Nat.mul_le_mul_right _ h2))
    rw [← Nat.pow_add]
    exact Nat.pow_le_pow_right (by decide) (by omega)
  have hdrop : ((td a).drop (D + 1)).take ((td a).length - (D + 1)) = td (a / 10000 ^ (D + 1)) := by
    rw [td_drop, List.take_of_length_le]
    rw [← td_drop, List.length_drop]; omega
  have wb := td_w32 b
  refine callF (Z := []) tabOK mixedOK Tryz.func287 rfl (by kernel_rfl) (by first | rfl | (simp [keylessL, keyless, keylessL_map, *]; done)) (by first | rfl | (simp [keylessL, keyless, keylessL_map, *]; done)) (by kernel_rfl) rfl ?_
  intro w0 ρ0 hE
  conv => whnf
  have hR0l : (td (a / 10000 ^ (D + 1))).length < 1099511627776 := by have := td_len_mono (Nat.div_le_self a (10000 ^ (D + 1))); omega
  generalize hR0 : a / 10000 ^ (D + 1) = R0 at *
  (repeat (first | (refine step_w2 rfl rfl ?_; conv => whnf) | (refine step_oA (by first | omega | decide | (simp only [tl0, dlen, List.length_replicate, List.length_set, List.length_map, List.length_zipWith, List.length_take, List.length_append, List.length_cons, List.length_nil]; omega)) ?_; conv => whnf) | (refine g_c (by assumption) ?_; conv => whnf) | (refine g_o (op_lenM rfl rfl rfl (ev_ok rfl) (tgt rfl) rfl) ?_; conv => whnf) | (refine g_o (op_sliceM rfl (ev_ok rfl) (bound_spec rfl) (bound_spec rfl) (.inl rfl) (tgt rfl) rfl (tgt rfl) rfl (by omega)) ?_; conv => whnf) | (refine ⟨.slc 40 1 0 (0 + (td R0).length), [(35, ⟨3, true, .ints .i64 []⟩)], [(40, ⟨3, true, .ints .i64 (td R0)⟩)], [(35, ⟨3, true, .dead⟩)], op_appendV rfl rfl rfl (ev_ok rfl) (ev_ok rfl) (rows_ints (td R0)) (tabOK.get (t := 70) rfl) rfl (tabOK.get (t := 70) rfl) rfl (tabOK.get (t := 3) rfl) (List.mem_cons_self ..) rfl rfl (by simp [dlen]) (by simp) (by simp [dlen]) (by simp [dapp]) (by show (0 + _) * ti3.bytes ≤ _; simp only [tiB3]; omega) (by omega), one_fk rfl, one_new rfl, one_upd (List.mem_cons_self ..) rfl rfl rfl, ?_⟩; conv => whnf) | (rw [t1]; conv => whnf) | (rw [e1]; conv => whnf) | (rw [e2]; conv => whnf) | (rw [e3]; conv => whnf) | (rw [e4]; conv => whnf) | (rw [hdrop]; conv => whnf) | (rw [Int.toNat_natCast]; conv => whnf) | (rw [Nat.zero_add]; conv => whnf)))
  refine SWx_frzP 10 40 (fun _ h => h) rfl rfl (Nat.le_refl _) (List.take_length) ?_
  have e5 : ((D + 1 : Nat) : Int) - 1 = (D : Int) := by omega
  refine SW_loopS hE (fun k => k) [0, 1, 6, 7, 8, 9, 10] [34] (fun m fr hp => ∃ Q : List Int, m ≤ D + 1 ∧ Q.length = D + 1 ∧ W4 Q ∧ (∀ k, k < m → Q.getD k 0 = 0) ∧ valT Q (D + 1) = ((a / 10000 ^ m / b : Nat) : Int) * 10000 ^ m ∧
    fr = [(0, nN a), (1, nN b), (6, .val (.int .i64 (F : Nat))), (7, .val (.int .i64 (T : Nat))), (8, .val (.int .i64 ((m : Int) - 1))), (9, .slc 34 1 0 (D + 1)), (10, nN (a / 10000 ^ m % b))] ∧ hp = [(34, zblk Q)]) (D + 1) ?_ ?_ ?_
  · kernel_rfl
  · refine ⟨List.replicate (D + 1) 0, Nat.le_refl _, List.length_replicate, W4_of (fun x hx => by rw [(List.mem_replicate.1 hx).2]; omega), (fun k _ => getD_replicate), ?_, ?_, rfl⟩
    · rw [valT_zeros (k := 0) (fun i _ _ => getD_replicate) (Nat.zero_le _), hR0, Nat.div_eq_of_lt hA0]; simp [valT]
    · rw [e5, hR0, Nat.mod_eq_of_lt hA0]; rfl
  rintro m _ _ ⟨Q, hm, hQl, hQw, hQ0, hQv, rfl, rfl⟩
  by_cases h0 : m = 0
  · subst h0
    rw [Nat.pow_zero, Nat.div_one, Int.pow_zero, Int.mul_one] at hQv
    have hz : nN (a / 10000 ^ 0 % b) = nN (a % b) := by rw [Nat.pow_zero, Nat.div_one]
    rw [hz]
    have t2 : decide (((0 : Nat) : Int) - 1 ≥ 0) = false := rfl
    have kt := r_trim Q (by omega) hQw
    rw [show (valT Q Q.length).toNat = a / b by rw [hQl, hQv]; exact Int.toNat_natCast _] at kt
    refine SWx_frzI 9 34 (fun _ h => h) rfl rfl hQl.symm ?_
    refine SWx.of hE ?_
    conv => whnf
    (repeat (first | (refine step_w2 rfl rfl ?_; conv => whnf) | (refine g_c (by assumption) ?_; conv => whnf))); (first | exact Recast.refl _ | exact Frz.recast (Recast.refl _) rfl | (refine Frz.one rfl rfl ?_; skip) | (refine Frz.tup ?_; skip))
  · obtain ⟨i, rfl⟩ : ∃ i, m = i + 1 := ⟨m - 1, by omega⟩
    have ei : (((i + 1 : Nat) : Int) - 1) = (i : Int) := by omega
    rw [ei]
    have hst := div_pow_step a i
    have hdig : (td a).getD i 0 = ((a / 10000 ^ i % 10000 : Nat) : Int) := td_get a i
    have hdlt : a / 10000 ^ i % 10000 < 10000 := Nat.mod_lt _ (by decide)
    have hia : i < (td a).length := by omega
    have hAle := td_len_mono (Nat.le_trans (Nat.mod_le (a / 10000 ^ (i + 1)) b) (Nat.div_le_self a _))
    have hq1 := hQv
    have hfin : ((a / 10000 ^ i / b : Nat) : Int) = 10000 * ((a / 10000 ^ (i + 1) / b : Nat) : Int) + (((a / 10000 ^ (i + 1) % b * 10000 + a / 10000 ^ i % 10000) / b : Nat) : Int) := by
      rw [hst, step_div hb]
      have : (10000 * (a / 10000 ^ (i + 1)) + a / 10000 ^ i % 10000) % 10000 = a / 10000 ^ i % 10000 := by rw [← hst]
      rw [this]; omega
    have hfinr : a / 10000 ^ i % b = (a / 10000 ^ (i + 1) % b * 10000 + a / 10000 ^ i % 10000) % b := by
      have h := step_mod (A := a / 10000 ^ (i + 1)) (b := b) (d := a / 10000 ^ i % 10000)
      rw [← hst] at h; exact h
    have hRb : a / 10000 ^ (i + 1) % b < b := Nat.mod_lt _ hb
    clear hst
    generalize hd : a / 10000 ^ i % 10000 = d at *
    generalize hR : a / 10000 ^ (i + 1) % b = R at *
    obtain ⟨hc1, hc2⟩ := cut_cons (R := R) hdlt
    have hR'l : (td (R * 10000 + d)).length ≤ (td R).length + 1 := tlen_le (by have := tlt_len R; rw [Nat.pow_succ]; omega)
    have hqlt := digit_lt (d := d) hb hRb hdlt
    have hR'b : (td (R * 10000 + d)).length ≤ (td b).length + 1 := tlen_le (by have := tlt_len b; rw [Nat.pow_succ]; omega)
    have kt := r_trimM ((d : Int) :: td R) (1 + (td R).length) (by rw [List.length_cons]; omega) (by rw [List.length_cons]; omega) 51 true
    rw [Nat.add_comm 1, hc1, Nat.add_comm] at kt
    have hfst : (R * 10000 + d) / 10000 ^ F < 10000 ^ 4 := by
      rw [Nat.div_lt_iff_lt_mul (Nat.pow_pos (by decide)), ← Nat.pow_add]
      exact td_lt_pow (by omega)
    have kl := r_leadingM ((d : Int) :: td R) (R * 10000 + d) F hc2 (by rw [List.length_cons]; omega) (by omega) (by omega) (by omega) 51 true
    have glo := guess_lo (R := R * 10000 + d) hb hPos hbT
    have ghi := guess_hi (R := R * 10000 + d) hT0 hPos hTb
    have hsub : R * 10000 + d - b * ((R * 10000 + d) / b) = a / 10000 ^ i % b := by
      rw [hfinr]; have := Nat.div_add_mod (R * 10000 + d) b; omega
    have hmulle : b * ((R * 10000 + d) / b) ≤ R * 10000 + d := Nat.mul_div_le _ _
    have hqle : ∀ x, b * x ≤ R * 10000 + d ↔ x ≤ (R * 10000 + d) / b := fun x => by rw [Nat.le_div_iff_mul_le hb, Nat.mul_comm]
    generalize hR' : R * 10000 + d = R' at *
    generalize hfe : R' / 10000 ^ F = fst at *
    generalize hqd : R' / b = qd at *
    have e6 : IntKind.i64.wrap ((T : Int) + 1) = ((T + 1 : Nat) : Int) := by rw [wrap_i64 (by omega) (by omega)]; omega
    have e7 : IntKind.i64.wrap ((fst : Int).tdiv ((T + 1 : Nat) : Int)) = ((fst / (T + 1) : Nat) : Int) := by
      rw [Int.tdiv_eq_ediv_of_nonneg (by omega), ← Int.natCast_ediv]
      exact wrap_nat (Nat.lt_of_le_of_lt (Nat.div_le_self fst (T + 1)) (by omega))
    have e8 : IntKind.i64.wrap ((fst : Int).tdiv (T : Int)) = ((fst / T : Nat) : Int) := by
      rw [Int.tdiv_eq_ediv_of_nonneg (by omega), ← Int.natCast_ediv]
      exact wrap_nat (Nat.lt_of_le_of_lt (Nat.div_le_self fst T) (by omega))
    have e9 : (if (9999 : Int) < ((fst / T : Nat) : Int) then (9999 : Int) else ((fst / T : Nat) : Int)) = ((min (fst / T) 9999 : Nat) : Int) := by split <;> omega
    have t2 : decide ((i : Int) ≥ 0) = true := decide_eq_true (by omega)
    have hRl : (td R).length < 1099511627776 := by omega
    refine SWx.of hE ?_
    conv => whnf
    (repeat (first | (refine step_w1 rfl rfl ?_; conv => whnf) | (refine step_i (by kernel_rfl) ?_; conv => whnf) | (refine step_oN (by first | omega | decide | (simp only [tl0, dlen, List.length_replicate, List.length_set, List.length_map, List.length_zipWith, List.length_take, List.length_append, List.length_cons, List.length_nil]; omega)) ?_; conv => whnf) | (refine g_c1 (by assumption) rfl ?_; conv => whnf) | (refine g_o (op_loadA rfl (ev_ok rfl) (tgt rfl) rfl (Nat.succ_ne_zero _) rfl) ?_; conv => whnf) | (refine g_o (op_indexN (α := Int) (d := 0) rfl (ev_ok rfl) (ev_ok rfl) (tgt rfl) rfl (tgt rfl) rfl (by omega)) ?_; conv => whnf) | (refine ⟨.slc 51 1 0 (1 + (td R).length), [(49, ⟨3, true, .ints .i64 [(d : Int)]⟩)], [(51, ⟨3, true, .ints .i64 ((d : Int) :: td R)⟩)], [(49, ⟨3, true, .dead⟩)], op_appendV rfl rfl rfl (ev_ok rfl) (ev_ok rfl) (rows_ints (td R)) (tabOK.get (t := 70) rfl) rfl (tabOK.get (t := 70) rfl) rfl (tabOK.get (t := 3) rfl) (List.mem_cons_self ..) rfl rfl (by simp [dlen]) (by simp) (by simp [dlen]) (by simp [dapp]) (by show (1 + _) * ti3.bytes ≤ _; simp only [tiB3]; omega) (by omega), one_fk rfl, one_new rfl, one_upd (List.mem_cons_self ..) rfl rfl rfl, ?_⟩; conv => whnf) | (rw [t2]; conv => whnf) | (rw [hdig]; conv => whnf) | (rw [e6]; conv => whnf) | (rw [e7]; conv => whnf) | (rw [e8]; conv => whnf) | (rw [e9]; conv => whnf)))
    refine SWx_frzP 10 51 (fun _ h => h) rfl rfl (by rw [List.length_cons]; omega) hc2 ?_
    have hmin1 : fst / (T + 1) ≤ qd := glo
    have hmin2 : qd ≤ min (fst / T) 9999 := by omega
    have hmin3 : min (fst / T) 9999 ≤ 9999 := Nat.min_le_right _ _
    clear kl kt hc1 hc2 glo ghi hbT hTb e9 e8 e7 e6 hfst
    generalize fst / (T + 1) = lo0 at *
    generalize min (fst / T) 9999 = hi0 at *
    refine SW_loopN hE (fun k => k) [0, 1, 6, 7, 8, 9, 10, 12, 13] [34] (fun q fr hp => ∃ lo hi : Nat, q = hi - lo ∧ lo ≤ qd ∧ qd ≤ hi ∧ hi ≤ 9999 ∧
      fr = [(0, nN a), (1, nN b), (6, .val (.int .i64 (F : Nat))), (7, .val (.int .i64 (T : Nat))), (8, .val (.int .i64 (i : Nat))), (9, .slc 34 1 0 (D + 1)), (10, nN R'), (12, .val (.int .i64 (lo : Nat))), (13, .val (.int .i64 (hi : Nat)))] ∧ hp = [(34, zblk Q)]) (hi0 - lo0) ?_ ?_ ?_
    · kernel_rfl
    · exact ⟨lo0, hi0, rfl, hmin1, hmin2, hmin3, rfl, rfl⟩
    rintro q _ _ ⟨lo, hi, rfl, hlo, hhi, hhi2, rfl, rfl⟩
    conv => whnf
    by_cases hl : lo < hi
    · have t3 : decide ((lo : Int) < (hi : Int)) = true := decide_eq_true (by omega)
      have e10 : IntKind.i64.wrap ((lo : Int) + (hi : Int)) = ((lo + hi : Nat) : Int) := by rw [wrap_i64 (by omega) (by omega)]; omega
      have e11 : IntKind.i64.wrap (((lo + hi : Nat) : Int) + 1) = ((lo + hi + 1 : Nat) : Int) := by rw [wrap_i64 (by omega) (by omega)]; omega
      have e12 : IntKind.i64.wrap (((lo + hi + 1 : Nat) : Int).tdiv 2) = (((lo + hi + 1) / 2 : Nat) : Int) := by
        rw [Int.tdiv_eq_ediv_of_nonneg (by omega)]
        exact wrap_i64 (by omega) (by omega)
      have e12' : (((lo + hi + 1 : Nat) : Int).tdiv 2) = (((lo + hi + 1) / 2 : Nat) : Int) := by rw [Int.tdiv_eq_ediv_of_nonneg (by omega)]; rfl
      have hmid : lo < (lo + hi + 1) / 2 ∧ (lo + hi + 1) / 2 ≤ hi := by omega
      generalize (lo + hi + 1) / 2 = mid at *
      have e13 : IntKind.u64.wrap (mid : Int) = (mid : Int) := wrap_u64 (by omega) (by omega)
      have hbm : (td (b * mid)).length ≤ (td b).length + 1 := tlen_le (by
        have h1 := tlt_len b
        have h2 : b * mid ≤ b * 10000 := Nat.mul_le_mul_left _ (by omega)
        rw [Nat.pow_succ]; omega)
      have hml : (td mid).length ≤ 1 := tlen_le (by omega)
      have o1 := r_Of mid (by omega)
      have o2 := r_Mul b mid (by omega) (by omega)
      have o3 := r_Cmp (b * mid) R' (by omega) (by omega)
      by_cases hc : b * mid ≤ R'
      · have t4 : decide ((((b * mid : Nat) : Int) - R').sign ≤ 0) = true := decide_eq_true (by
          have := Int.sign_nonpos_iff.2 (show ((b * mid : Nat) : Int) - R' ≤ 0 by omega); omega)
        have := (hqle mid).1 hc
        (repeat ((first | refine step_w1 rfl rfl ?_ | refine step_oN (by first | omega | decide | (simp only [tl0, dlen, List.length_replicate, List.length_set, List.length_map, List.length_zipWith, List.length_take, List.length_append, List.length_cons, List.length_nil]; omega)) ?_ | refine g_c (by assumption) ?_ | rw [t3] | rw [e10] | rw [e11] | rw [e12] | rw [e13] | rw [t4]); conv => whnf))
        exact ⟨hi - mid, fun k => k, [0, 1, 6, 7, 8, 9, 10, 12, 13], [34], by omega, by kernel_rfl, mid, hi, rfl, this, hhi, hhi2, rfl, rfl⟩
      · have t4 : decide ((((b * mid : Nat) : Int) - R').sign ≤ 0) = false := decide_eq_false (by
          rw [Int.sign_eq_one_of_pos (show 0 < ((b * mid : Nat) : Int) - R' by omega)]; omega)
        have : ¬ mid ≤ qd := fun h => hc ((hqle mid).2 h)
        have e14 : IntKind.i64.wrap ((mid : Int) - 1) = ((mid - 1 : Nat) : Int) := by rw [wrap_i64 (by omega) (by omega)]; omega
        (repeat ((first | refine step_w1 rfl rfl ?_ | refine step_w2 rfl rfl ?_ | refine step_oN (by first | omega | decide | (simp only [tl0, dlen, List.length_replicate, List.length_set, List.length_map, List.length_zipWith, List.length_take, List.length_append, List.length_cons, List.length_nil]; omega)) ?_ | refine g_c (by assumption) ?_ | rw [t3] | rw [e10] | rw [e11] | rw [e12] | rw [e13] | rw [t4] | rw [e14]); conv => whnf))
        exact ⟨mid - 1 - lo, fun k => k, [0, 1, 6, 7, 8, 9, 10, 12, 13], [34], by omega, by kernel_rfl, lo, mid - 1, rfl, hlo, by omega, by omega, rfl, rfl⟩
    · have t3 : decide ((lo : Int) < (hi : Int)) = false := decide_eq_false (by omega)
      obtain rfl : lo = qd := by omega
      have e13 : IntKind.u64.wrap (lo : Int) = (lo : Int) := wrap_u64 (by omega) (by omega)
      have e14 : IntKind.i64.wrap ((i : Int) - 1) = (i : Int) - 1 := wrap_i64 (by omega) (by omega)
      have hbm : (td (b * lo)).length ≤ (td b).length + 1 := tlen_le (by
        have h1 := tlt_len b
        have h2 : b * lo ≤ b * 10000 := Nat.mul_le_mul_left _ (by omega)
        rw [Nat.pow_succ]; omega)
      have hml : (td lo).length ≤ 1 := tlen_le (by omega)
      have o1 := r_Of lo (by omega)
      have o2 := r_Mul b lo (by omega) (by omega)
      have o3 := r_Sub R' (b * lo) hmulle (by omega)
      rw [hsub] at o3
      have hiQ : i < Q.length := by omega
      have hQs : (Q.set i (lo : Int)).length = D + 1 := by rw [List.length_set]; exact hQl
      have hQw2 := hQw.set (i := i) (show (0 : Int) ≤ lo by omega) (by omega)
      have hQ02 : ∀ k, k < i → (Q.set i (lo : Int)).getD k 0 = 0 := fun k hk => by rw [getD_set, if_neg (by omega)]; exact hQ0 k (by omega)
      have hQv2 : valT (Q.set i (lo : Int)) (D + 1) = ((a / 10000 ^ i / b : Nat) : Int) * 10000 ^ i := by
        rw [valT_set (by omega) hiQ, hQ0 i (by omega), hQv, hfin, Int.pow_succ]; grind
      (repeat ((first | refine step_w2 rfl rfl ?_ | refine step_oL (by first | omega | decide | (simp only [tl0, dlen, List.length_replicate, List.length_set, List.length_map, List.length_zipWith, List.length_take, List.length_append, List.length_cons, List.length_nil]; omega)) ?_ | refine step_oA (by first | omega | decide | (simp only [tl0, dlen, List.length_replicate, List.length_set, List.length_map, List.length_zipWith, List.length_take, List.length_append, List.length_cons, List.length_nil]; omega)) ?_ | refine g_c (by assumption) ?_ | rw [t3] | rw [show 0 + (i : Int).toNat = i from by omega] | rw [e13] | rw [e14]); conv => whnf))
      exact ⟨i, fun k => k, [0, 1, 6, 7, 8, 9, 10], [34], by omega, by kernel_rfl, Q.set i (lo : Int), by omega, hQs, hQw2, hQ02, hQv2, rfl, rfl⟩

theorem td_lt_len {a b : Nat} (h : a ≤ b) {M : Nat} (hb : (td b).length < M) : (td a).length < M := Nat.lt_of_le_of_lt (td_len_mono h) hb
theorem r_Gcd (a b : Nat) (ha : (td a).length < 268435456) (hb : (td b).length < 268435456) : CallOK Tryz.prog 286 [nN a, nN b] [] (nN (Nat.gcd a b)) [] [] := by
  refine callV (Z := []) tabOK mixedOK Tryz.func286 rfl (by kernel_rfl) rfl rfl (by kernel_rfl) rfl ?_
  intro W0 w0 ρ0 hE
  conv => whnf
  skip
  refine SW_loopN hE (fun k => k) [0, 1] [] (fun q fr hp => ∃ x y : Nat, q = y ∧ Nat.gcd x y = Nat.gcd a b ∧ (td x).length < 268435456 ∧ (td y).length < 268435456 ∧ fr = [(0, nN x), (1, nN y)] ∧ hp = []) b ?_ ?_ ?_
  · kernel_rfl
  · exact ⟨a, b, rfl, rfl, ha, hb, rfl, rfl⟩
  rintro q _ _ ⟨x, y, rfl, hg, hx, hy, rfl, rfl⟩
  conv => whnf
  by_cases h0 : 0 < q
  · have t1 : decide (((td q).length : Int) > 0) = true := decide_eq_true (by have := td_len_zero (n := q); omega)
    have k1 := r_Div x q h0 hx hy
    have hlt := Nat.mod_lt x h0
    (repeat ((first | refine step_w1 rfl rfl ?_ | refine g_c (by assumption) ?_ | refine g_o (op_lenM rfl rfl rfl (ev_ok rfl) (tgt rfl) rfl) ?_ | rw [t1]); conv => whnf))
    exact ⟨x % q, fun k => k, [0, 1], [], hlt, by kernel_rfl, q, x % q, rfl, by rw [← hg, Nat.gcd_comm x q, Nat.gcd_rec q x]; exact Nat.gcd_comm _ _, hy, td_lt_len (Nat.le_of_lt hlt) hy, rfl, rfl⟩
  · obtain rfl : q = 0 := by omega
    rw [Nat.gcd_zero_right] at hg
    subst hg
    have t1 : decide (((td 0).length : Int) > 0) = false := rfl
    (repeat (first | (refine step_w2 rfl rfl ?_; conv => whnf) | (refine g_o (op_lenM rfl rfl rfl (ev_ok rfl) (tgt rfl) rfl) ?_; conv => whnf))); (first | exact Recast.refl _ | exact Frz.recast (Recast.refl _) rfl | (refine Frz.one rfl rfl ?_; skip) | (refine Frz.tup ?_; skip))
end Go.Proofs.YtkpfineikahgfaaGreatDoor

namespace Go.Proofs.YtkpfineikahgfaaGreatDoor
open Go.Sx
set_option linter.unusedSimpArgs false
set_option linter.unusedVariables false
set_option maxRecDepth 100000
set_option maxHeartbeats 4000000

/-- A reference integer, a reference fraction. -/
abbrev zZ (z : Int) : SV := .agg [.val (.bool (decide (z < 0))), nN z.natAbs]
abbrev fF (q : Rat) : SV := .agg [zZ q.num, nN (q.den - 1)]

theorem tl_sz {n M : Nat} (h : sz n ≤ M) : (td n).length ≤ M := tlen_le (Nat.lt_of_lt_of_le (sz_le.1 h) (Nat.pow_le_pow_left (by decide) M))

theorem r2_From (neg : Bool) (n : Nat) (hn : (td n).length < 1099511627776) : CallOK Tryz.prog 234 [.val (.bool neg), nN n] [] (zZ (signed neg n)) [] [] := by
  refine callV (Z := []) tabOK mixedOK Tryz.func234 rfl (by kernel_rfl) rfl rfl (by kernel_rfl) rfl ?_
  intro W0 w0 ρ0 hE
  conv => whnf
  cases neg with
  | false =>
    have e : zZ (signed false n) = .agg [.val (.bool false), nN n] := by
      have h : ¬ (signed false n < 0) := by show ¬ ((n : Int) < 0); omega
      rw [zZ, decide_eq_false h, signed_abs]
    rw [e]
    (repeat (first | (refine step_w2 rfl rfl ?_; conv => whnf) | (refine g_o (op_pickF rfl (ev_ok rfl) (ev_ok rfl)) ?_; conv => whnf)))
    exact Recast.refl _
  | true =>
    by_cases h0 : 0 < n
    · have t1 : decide (((td n).length : Int) > 0) = true := decide_eq_true (by have := td_len_zero (n := n); omega)
      have e : zZ (signed true n) = .agg [.val (.bool true), nN n] := by
        have h : signed true n < 0 := by show -(n : Int) < 0; omega
        rw [zZ, decide_eq_true h, signed_abs]
      rw [e]
      (repeat ((first | refine step_w1 rfl rfl ?_ | refine g_o (op_pickT rfl (ev_ok rfl) (ev_ok rfl)) ?_ | refine g_o (op_lenM rfl rfl rfl (ev_ok rfl) (tgt rfl) rfl) ?_ | rw [t1]); conv => whnf))
      exact Recast.refl _
    · obtain rfl : n = 0 := by omega
      have t1 : decide (((td 0).length : Int) > 0) = false := rfl
      have e : zZ (signed true 0) = .agg [.val (.bool false), nN 0] := rfl
      rw [e]
      (repeat ((first | refine step_w1 rfl rfl ?_ | refine g_o (op_pickT rfl (ev_ok rfl) (ev_ok rfl)) ?_ | refine g_o (op_lenM rfl rfl rfl (ev_ok rfl) (tgt rfl) rfl) ?_ | rw [t1]); conv => whnf))
      exact Recast.refl _
/-- From, where the sign and the size are known. -/
theorem r2_From' {neg : Bool} {n : Nat} {z : Int} (hz : signed neg n = z) (hn : (td n).length < 1099511627776) : CallOK Tryz.prog 234 [.val (.bool neg), nN n] [] (zZ z) [] [] := by
  rw [← hz]; exact r2_From neg n hn

theorem r2_Sign (z : Int) (hz : (td z.natAbs).length < 1099511627776) : CallOK Tryz.prog 270 [zZ z] [] (.val (.int .i64 z.sign)) [] [] := by
  refine callV (Z := [1]) tabOK mixedOK Tryz.func270 rfl (by kernel_rfl) rfl rfl (by kernel_rfl) rfl ?_
  intro W0 w0 ρ0 hE
  conv => whnf
  by_cases h0 : z = 0
  · subst h0
    have t1 : (((td (Int.natAbs 0)).length : Int) == 0) = true := rfl
    (repeat ((first | refine step_w1 rfl rfl ?_ | refine g_o (op_lenM rfl rfl rfl (ev_ok rfl) (tgt rfl) rfl) ?_ | refine g_o (op_loadA rfl (ev_ok rfl) (tgt rfl) rfl (Nat.succ_ne_zero _) rfl) ?_ | refine g_o (op_fieldA rfl (ev_ok rfl) (tgt rfl) rfl rfl (Nat.succ_ne_zero _) rfl) ?_); conv => whnf)); (first | exact Recast.refl _ | exact Frz.recast (Recast.refl _) rfl | (refine Frz.one rfl rfl ?_; skip) | (refine Frz.tup ?_; skip))
  · have t1 : (((td z.natAbs).length : Int) == 0) = false := beq_false_of_ne (by have := td_len_zero (n := z.natAbs); omega)
    by_cases hn : z < 0
    · have t2 : decide (z < 0) = true := decide_eq_true hn
      rw [Int.sign_eq_neg_one_of_neg hn]
      (repeat ((first | refine step_w1 rfl rfl ?_ | refine step_w2 rfl rfl ?_ | refine g_o (op_lenM rfl rfl rfl (ev_ok rfl) (tgt rfl) rfl) ?_ | refine g_o (op_loadA rfl (ev_ok rfl) (tgt rfl) rfl (Nat.succ_ne_zero _) rfl) ?_ | refine g_o (op_fieldA rfl (ev_ok rfl) (tgt rfl) rfl rfl (Nat.succ_ne_zero _) rfl) ?_ | rw [t1] | rw [t2]); conv => whnf)); (first | exact Recast.refl _ | exact Frz.recast (Recast.refl _) rfl | (refine Frz.one rfl rfl ?_; skip) | (refine Frz.tup ?_; skip))
    · have t2 : decide (z < 0) = false := decide_eq_false hn
      rw [Int.sign_eq_one_of_pos (by omega)]
      (repeat ((first | refine step_w2 rfl rfl ?_ | refine g_o (op_lenM rfl rfl rfl (ev_ok rfl) (tgt rfl) rfl) ?_ | refine g_o (op_loadA rfl (ev_ok rfl) (tgt rfl) rfl (Nat.succ_ne_zero _) rfl) ?_ | refine g_o (op_fieldA rfl (ev_ok rfl) (tgt rfl) rfl rfl (Nat.succ_ne_zero _) rfl) ?_ | rw [t1] | rw [t2]); conv => whnf)); (first | exact Recast.refl _ | exact Frz.recast (Recast.refl _) rfl | (refine Frz.one rfl rfl ?_; skip) | (refine Frz.tup ?_; skip))

theorem r2_Neg (z : Int) (hz : (td z.natAbs).length < 1099511627776) : CallOK Tryz.prog 196 [zZ z] [] (zZ (-z)) [] [] := by
  have k1 := r2_From' (neg := !decide (z < 0)) (n := z.natAbs) (z := -z) (by by_cases h : z < 0 <;> simp [signed, h] <;> omega) hz
  refine callV (Z := [1]) tabOK mixedOK Tryz.func196 rfl (by kernel_rfl) rfl rfl (by kernel_rfl) rfl ?_
  intro W0 w0 ρ0 hE
  conv => whnf
  (repeat (first | (refine g_c (by assumption) ?_; conv => whnf) | (refine g_o (op_loadA rfl (ev_ok rfl) (tgt rfl) rfl (Nat.succ_ne_zero _) rfl) ?_; conv => whnf) | (refine g_o (op_fieldA rfl (ev_ok rfl) (tgt rfl) rfl rfl (Nat.succ_ne_zero _) rfl) ?_; conv => whnf)))
  exact Recast.refl _

theorem r2_Add (a b : Int) (ha : (td a.natAbs).length < 536870912) (hb : (td b.natAbs).length < 536870912) : CallOK Tryz.prog 274 [zZ a, zZ b] [] (zZ (a + b)) [] [] := by
  refine callV (Z := [2, 3]) tabOK mixedOK Tryz.func274 rfl (by kernel_rfl) rfl rfl (by kernel_rfl) rfl ?_
  intro W0 w0 ρ0 hE
  conv => whnf
  by_cases hs : a < 0 ↔ b < 0
  · have t1 : (decide (a < 0) == decide (b < 0)) = true := by rw [decide_eq_decide.2 hs]; exact beq_self_eq_true _
    have k1 := r_Add a.natAbs b.natAbs (by omega) (by omega)
    have hl : (td (a.natAbs + b.natAbs)).length < 1099511627776 := by
      have h1 : (td (a.natAbs + b.natAbs)).length ≤ max ((td a.natAbs).length) ((td b.natAbs).length) + 1 := tlen_le (by
        have h2 := td_lt_pow (n := a.natAbs) (k := max ((td a.natAbs).length) ((td b.natAbs).length)) (Nat.le_max_left _ _)
        have h3 := td_lt_pow (n := b.natAbs) (k := max ((td a.natAbs).length) ((td b.natAbs).length)) (Nat.le_max_right _ _)
        rw [Nat.pow_succ]; omega)
      omega
    have k2 := r2_From' (neg := decide (a < 0)) (n := a.natAbs + b.natAbs) (z := a + b) (by unfold signed; by_cases h : a < 0 <;> simp [h] <;> omega) hl
    (repeat ((first | refine step_w1 rfl rfl ?_ | refine step_i (by kernel_rfl) ?_ | refine g_c (by assumption) ?_ | refine g_o (op_loadA rfl (ev_ok rfl) (tgt rfl) rfl (Nat.succ_ne_zero _) rfl) ?_ | refine g_o (op_fieldA rfl (ev_ok rfl) (tgt rfl) rfl rfl (Nat.succ_ne_zero _) rfl) ?_ | rw [t1]); conv => whnf))
    exact Recast.refl _
  · have t1 : (decide (a < 0) == decide (b < 0)) = false := beq_false_of_ne (fun h => hs (decide_eq_decide.1 h))
    have k1 := r_Cmp a.natAbs b.natAbs (by omega) (by omega)
    by_cases hab : b.natAbs ≤ a.natAbs
    · have t2 : decide (((a.natAbs : Int) - b.natAbs).sign ≥ 0) = true := decide_eq_true (by have := Int.sign_nonneg_iff.2 (show 0 ≤ (a.natAbs : Int) - b.natAbs by omega); omega)
      have k2 := r_Sub a.natAbs b.natAbs hab (by omega)
      have k3 := r2_From' (neg := decide (a < 0)) (n := a.natAbs - b.natAbs) (z := a + b) (by unfold signed; by_cases h : a < 0 <;> simp [h] <;> omega) (td_lt_len (Nat.sub_le _ b.natAbs) (by omega))
      (repeat ((first | refine step_w1 rfl rfl ?_ | refine step_w2 rfl rfl ?_ | refine step_i (by kernel_rfl) ?_ | refine g_c (by assumption) ?_ | refine g_o (op_loadA rfl (ev_ok rfl) (tgt rfl) rfl (Nat.succ_ne_zero _) rfl) ?_ | refine g_o (op_fieldA rfl (ev_ok rfl) (tgt rfl) rfl rfl (Nat.succ_ne_zero _) rfl) ?_ | rw [t1] | rw [t2]); conv => whnf))
      exact Recast.refl _
    · have t2 : decide (((a.natAbs : Int) - b.natAbs).sign ≥ 0) = false := decide_eq_false (by rw [Int.sign_eq_neg_one_of_neg (show (a.natAbs : Int) - b.natAbs < 0 by omega)]; omega)
      have k2 := r_Sub b.natAbs a.natAbs (by omega) (by omega)
      have k3 := r2_From' (neg := decide (b < 0)) (n := b.natAbs - a.natAbs) (z := a + b) (by unfold signed; by_cases h : b < 0 <;> simp [h] <;> omega) (td_lt_len (Nat.sub_le _ a.natAbs) (by omega))
      (repeat ((first | refine step_w2 rfl rfl ?_ | refine step_i (by kernel_rfl) ?_ | refine g_c (by assumption) ?_ | refine g_o (op_loadA rfl (ev_ok rfl) (tgt rfl) rfl (Nat.succ_ne_zero _) rfl) ?_ | refine g_o (op_fieldA rfl (ev_ok rfl) (tgt rfl) rfl rfl (Nat.succ_ne_zero _) rfl) ?_ | rw [t1] | rw [t2]); conv => whnf))
      exact Recast.refl _

theorem tl_mul {a b : Nat} : (td (a * b)).length ≤ (td a).length + (td b).length := tlen_le (by
  rcases Nat.eq_zero_or_pos b with h | h
  · subst h; rw [Nat.mul_zero]; exact Nat.pow_pos (by decide)
  · rw [Nat.pow_add]
    exact Nat.lt_of_lt_of_le (Nat.mul_lt_mul_of_pos_right (tlt_len a) h) (Nat.mul_le_mul_left _ (Nat.le_of_lt (tlt_len b))))
theorem r2_Mul (a b : Int) (ha : (td a.natAbs).length < 134217728) (hb : (td b.natAbs).length < 134217728) : CallOK Tryz.prog 272 [zZ a, zZ b] [] (zZ (a * b)) [] [] := by
  have k1 := r_Mul a.natAbs b.natAbs (by omega) (by omega)
  have k2 := r2_From' (signed_mul a b) (Nat.lt_of_le_of_lt tl_mul (by omega))
  refine callV (Z := [2, 3]) tabOK mixedOK Tryz.func272 rfl (by kernel_rfl) rfl rfl (by kernel_rfl) rfl ?_
  intro W0 w0 ρ0 hE
  conv => whnf
  (repeat ((first | refine step_i (by kernel_rfl) ?_ | refine g_c (by assumption) ?_ | refine g_o (op_loadA rfl (ev_ok rfl) (tgt rfl) rfl (Nat.succ_ne_zero _) rfl) ?_ | refine g_o (op_fieldA rfl (ev_ok rfl) (tgt rfl) rfl rfl (Nat.succ_ne_zero _) rfl) ?_); conv => whnf))
  exact Recast.refl _

theorem r2_Of (n : Int) (h0 : -9223372036854775808 ≤ n) (h1 : n < 9223372036854775808) : CallOK Tryz.prog 195 [.val (.int .i64 n)] [] (zZ n) [] [] := by
  have k1 := r_Of n.natAbs (by omega)
  have hl : (td n.natAbs).length < 1099511627776 := Nat.lt_of_le_of_lt (tlen_le (k := 5) (by omega)) (by decide)
  refine callV (Z := []) tabOK mixedOK Tryz.func195 rfl (by kernel_rfl) rfl rfl (by kernel_rfl) rfl ?_
  intro W0 w0 ρ0 hE
  conv => whnf
  by_cases hn : n < 0
  · have t1 : decide (n < 0) = true := decide_eq_true hn
    have e1 : IntKind.i64.wrap (n + 1) = n + 1 := wrap_i64 (by omega) (by omega)
    have e2 : IntKind.i64.wrap (0 - (n + 1)) = -(n + 1) := by rw [Int.zero_sub]; exact wrap_i64 (by omega) (by omega)
    have e3 : IntKind.u64.wrap (-(n + 1)) = -(n + 1) := wrap_u64 (by omega) (by omega)
    have e4 : IntKind.u64.wrap (-(n + 1) + 1) = (n.natAbs : Int) := by rw [wrap_u64 (by omega) (by omega)]; omega
    have k2 := r2_From' (neg := true) (n := n.natAbs) (z := n) (by show -(n.natAbs : Int) = n; omega) hl
    have e : zZ n = .agg [.val (.bool true), nN n.natAbs] := by rw [zZ, t1]
    rw [e] at *
    (repeat ((first | refine step_w1 rfl rfl ?_ | refine g_c (by assumption) ?_ | rw [t1] | rw [e1] | rw [e2] | rw [e3] | rw [e4]); conv => whnf))
    exact Recast.refl _
  · have t1 : decide (n < 0) = false := decide_eq_false hn
    have e1 : IntKind.u64.wrap n = (n.natAbs : Int) := by rw [wrap_u64 (by omega) (by omega)]; omega
    have k2 := r2_From' (neg := false) (n := n.natAbs) (z := n) (by show (n.natAbs : Int) = n; omega) hl
    have e : zZ n = .agg [.val (.bool false), nN n.natAbs] := by rw [zZ, t1]
    rw [e] at *
    (repeat ((first | refine step_w2 rfl rfl ?_ | refine g_c (by assumption) ?_ | rw [t1] | rw [e1]); conv => whnf))
    exact Recast.refl _

theorem r3_one : CallOK Tryz.prog 241 [] [] (nN 1) [] [] := by
  have k1 := r_Of 1 (by decide)
  refine callV (Z := []) tabOK mixedOK Tryz.func241 rfl (by kernel_rfl) rfl rfl (by kernel_rfl) rfl ?_
  intro W0 w0 ρ0 hE
  conv => whnf
  (repeat (first | (refine g_c (by assumption) ?_; conv => whnf))); (first | exact Recast.refl _ | exact Frz.recast (Recast.refl _) rfl | (refine Frz.one rfl rfl ?_; skip) | (refine Frz.tup ?_; skip))
theorem r3_Den (q : Rat) (h : (td q.den).length < 134217728) : CallOK Tryz.prog 201 [fF q] [] (nN q.den) [] [] := by
  have k0 := r3_one
  have k1 := r_Add (q.den - 1) 1 (Nat.lt_of_le_of_lt (td_len_mono (Nat.sub_le q.den 1)) (by omega)) (by decide)
  rw [den_pred] at k1
  refine callV (Z := [1]) tabOK mixedOK Tryz.func201 rfl (by kernel_rfl) rfl rfl (by kernel_rfl) rfl ?_
  intro W0 w0 ρ0 hE
  conv => whnf
  (repeat ((first | refine step_i (by kernel_rfl) ?_ | refine g_c (by assumption) ?_ | refine g_o (op_loadA rfl (ev_ok rfl) (tgt rfl) rfl (Nat.succ_ne_zero _) rfl) ?_ | refine g_o (op_fieldA rfl (ev_ok rfl) (tgt rfl) rfl rfl (Nat.succ_ne_zero _) rfl) ?_); conv => whnf)); (first | exact Recast.refl _ | exact Frz.recast (Recast.refl _) rfl | (refine Frz.one rfl rfl ?_; skip) | (refine Frz.tup ?_; skip))
theorem r3_den (q : Rat) (h : (td q.den).length < 134217728) : CallOK Tryz.prog 275 [fF q] [] (zZ q.den) [] [] := by
  have k0 := r3_Den q h
  have k1 := r2_From' (neg := false) (n := q.den) (z := (q.den : Int)) rfl (by omega)
  refine callV (Z := [1]) tabOK mixedOK Tryz.func275 rfl (by kernel_rfl) rfl rfl (by kernel_rfl) rfl ?_
  intro W0 w0 ρ0 hE
  conv => whnf
  (repeat (first | (refine g_c (by assumption) ?_; conv => whnf) | (refine g_o (op_loadA rfl (ev_ok rfl) (tgt rfl) rfl (Nat.succ_ne_zero _) rfl) ?_; conv => whnf)))
  exact Recast.refl _
theorem signed_num {n : Int} {d : Nat} (hd : d ≠ 0) : signed (decide (n < 0)) (n.natAbs / Nat.gcd n.natAbs d) = (mkRat n d).num := by
  rw [num_mkRat hd]
  have hdv : Nat.gcd n.natAbs d ∣ n.natAbs := Nat.gcd_dvd_left _ _
  unfold signed
  by_cases hn : n < 0
  · rw [decide_eq_true hn, if_pos rfl]
    have : n = -(n.natAbs : Int) := by omega
    rw [Int.natCast_ediv, ← Int.neg_ediv_of_dvd (Int.natCast_dvd_natCast.2 hdv), ← this]
  · rw [decide_eq_false hn]
    simp only [Bool.false_eq_true, if_false]
    have : n = (n.natAbs : Int) := by omega
    rw [Int.natCast_ediv, ← this]
theorem r3_From (n : Int) (d : Nat) (hd : d ≠ 0) (h1 : (td n.natAbs).length < 268435456) (h2 : (td d).length < 268435456) : CallOK Tryz.prog 271 [zZ n, nN d] [] (fF (mkRat n d)) [] [] := by
  have hg : Nat.gcd n.natAbs d ≠ 0 := fun h => hd (Nat.gcd_eq_zero_iff.1 h).2
  have hgl : (td (Nat.gcd n.natAbs d)).length < 268435456 := td_lt_len (Nat.le_of_dvd (by omega) (Nat.gcd_dvd_right _ _)) h2
  have hq : d / Nat.gcd n.natAbs d ≠ 0 := Nat.div_ne_zero_iff.2 ⟨hg, Nat.le_of_dvd (by omega) (Nat.gcd_dvd_right _ _)⟩
  have k1 := r_Gcd n.natAbs d h1 h2
  have k2 := r_Div n.natAbs (Nat.gcd n.natAbs d) (by omega) h1 hgl
  have k3 := r_Div d (Nat.gcd n.natAbs d) (by omega) h2 hgl
  have k4 := r2_From' (signed_num (n := n) hd) (td_lt_len (Nat.div_le_self _ _) (by omega))
  have k5 := r3_one
  have k6 : CallOK Tryz.prog 288 [nN (d / Nat.gcd n.natAbs d), nN 1] [] (nN ((mkRat n d).den - 1)) [] [] := by
    rw [den_mkRat hd]; exact r_Sub (d / Nat.gcd n.natAbs d) 1 (Nat.pos_of_ne_zero hq) (td_lt_len (Nat.div_le_self _ _) (by omega))
  refine callV (Z := [2]) tabOK mixedOK Tryz.func271 rfl (by kernel_rfl) rfl rfl (by kernel_rfl) rfl ?_
  intro W0 w0 ρ0 hE
  conv => whnf
  (repeat (first | (refine g_c (by assumption) ?_; conv => whnf) | (refine g_o (op_loadA rfl (ev_ok rfl) (tgt rfl) rfl (Nat.succ_ne_zero _) rfl) ?_; conv => whnf) | (refine g_o (op_fieldA rfl (ev_ok rfl) (tgt rfl) rfl rfl (Nat.succ_ne_zero _) rfl) ?_; conv => whnf)))
  exact Recast.refl _

theorem tl_fs {q : Rat} {M : Nat} (h : fs q ≤ M) : (td q.num.natAbs).length ≤ M ∧ (td q.den).length ≤ M := by
  have h1 := fsz_num q; have h2 := fsz_den q
  unfold fs at h
  exact ⟨tl_sz (by omega), tl_sz (by omega)⟩
theorem r3_Int (n : Int) (h0 : -9223372036854775808 ≤ n) (h1 : n < 9223372036854775808) : CallOK Tryz.prog 108 [.val (.int .i64 n)] [] (fF (n : Rat)) [] [] := by
  have k1 := r2_Of n h0 h1
  have e : fF (n : Rat) = .agg [zZ n, vecA 1 []] := by rw [fF]; rfl
  rw [e]
  refine callF (Z := []) tabOK mixedOK Tryz.func108 rfl (by kernel_rfl) (by first | rfl | (simp [keylessL, keyless, keylessL_map, *]; done)) (by first | rfl | (simp [keylessL, keyless, keylessL_map, *]; done)) (by kernel_rfl) rfl ?_
  intro w0 ρ0 hE
  conv => whnf
  (repeat (first | (refine g_c (by assumption) ?_; conv => whnf))); (first | exact Recast.refl _ | exact Frz.recast (Recast.refl _) rfl | (refine Frz.one rfl rfl ?_; (repeat (first | exact FrzC.keyless rfl | exact FrzL.nil | refine FrzL.cons ?_ ?_ | exact FrzC.nilS | refine FrzC.agg ?_))) | (refine Frz.tup ?_; skip))
theorem r3_Sign (q : Rat) (h : (td q.num.natAbs).length < 1099511627776) : CallOK Tryz.prog 242 [fF q] [] (.val (.int .i64 q.num.sign)) [] [] := by
  have k1 := r2_Sign q.num h
  refine callV (Z := [1]) tabOK mixedOK Tryz.func242 rfl (by kernel_rfl) rfl rfl (by kernel_rfl) rfl ?_
  intro W0 w0 ρ0 hE
  conv => whnf
  (repeat (first | (refine g_c (by assumption) ?_; conv => whnf) | (refine g_o (op_loadA rfl (ev_ok rfl) (tgt rfl) rfl (Nat.succ_ne_zero _) rfl) ?_; conv => whnf) | (refine g_o (op_fieldA rfl (ev_ok rfl) (tgt rfl) rfl rfl (Nat.succ_ne_zero _) rfl) ?_; conv => whnf))); (first | exact Recast.refl _ | exact Frz.recast (Recast.refl _) rfl | (refine Frz.one rfl rfl ?_; skip) | (refine Frz.tup ?_; skip))
theorem r3_Neg (q : Rat) (h : (td q.num.natAbs).length < 1099511627776) : CallOK Tryz.prog 110 [fF q] [] (fF (-q)) [] [] := by
  have k1 := r2_Neg q.num h
  have e : fF (-q) = .agg [zZ (-q.num), nN (q.den - 1)] := by rw [fF, Rat.neg_num, Rat.neg_den]
  rw [e]
  refine callV (Z := [1]) tabOK mixedOK Tryz.func110 rfl (by kernel_rfl) rfl rfl (by kernel_rfl) rfl ?_
  intro W0 w0 ρ0 hE
  conv => whnf
  (repeat ((first | refine step_i (by kernel_rfl) ?_ | refine g_c (by assumption) ?_ | refine g_o (op_loadA rfl (ev_ok rfl) (tgt rfl) rfl (Nat.succ_ne_zero _) rfl) ?_ | refine g_o (op_fieldA rfl (ev_ok rfl) (tgt rfl) rfl rfl (Nat.succ_ne_zero _) rfl) ?_); conv => whnf))
  exact Recast.refl _
theorem r3_Add (a b : Rat) (h : fs a + fs b ≤ 100000000) : CallOK Tryz.prog 244 [fF a, fF b] [] (fF (a + b)) [] [] := by
  obtain ⟨a1, a2⟩ := tl_fs (q := a) (Nat.le_refl _)
  obtain ⟨b1, b2⟩ := tl_fs (q := b) (Nat.le_refl _)
  have n1 := fsz_num a; have n2 := fsz_den a; have n3 := fsz_num b; have n4 := fsz_den b
  have m1 := tl_mul (a := a.num.natAbs) (b := b.den)
  have m2 := tl_mul (a := b.num.natAbs) (b := a.den)
  have m3 := tl_mul (a := a.den) (b := b.den)
  have k1 := r3_den b (by omega)
  have k2 := r3_den a (by omega)
  have k3 := r2_Mul a.num b.den (by omega) (by rw [Int.natAbs_natCast]; omega)
  have k4 := r2_Mul b.num a.den (by omega) (by rw [Int.natAbs_natCast]; omega)
  have k5 := r2_Add (a.num * b.den) (b.num * a.den) (by rw [Int.natAbs_mul, Int.natAbs_natCast]; omega) (by rw [Int.natAbs_mul, Int.natAbs_natCast]; omega)
  have k6 := r3_Den a (by omega)
  have k7 := r3_Den b (by omega)
  have k8 := r_Mul a.den b.den (by omega) (by omega)
  have m4 : (td (a.num * b.den + b.num * a.den).natAbs).length ≤ fs a + fs b + 1 := tl_sz (by
    have h1 := sz_mul a.num.natAbs b.den
    have h2 := sz_mul b.num.natAbs a.den
    unfold fs
    refine Nat.le_trans (sz_mono (Int.natAbs_add_le _ _)) (Nat.le_trans (sz_add (k := fsz a + fsz b) ?_ ?_) (by omega))
    · rw [Int.natAbs_mul, Int.natAbs_natCast]; omega
    · rw [Int.natAbs_mul, Int.natAbs_natCast]; omega)
  have k9 := r3_From (a.num * b.den + b.num * a.den) (a.den * b.den) (Nat.mul_ne_zero a.den_nz b.den_nz) (by omega) (by omega)
  rw [← Rat.add_def'] at k9
  clear m1 m2 m3 m4 n1 n2 n3 n4
  refine callV (Z := [2, 3]) tabOK mixedOK Tryz.func244 rfl (by kernel_rfl) rfl rfl (by kernel_rfl) rfl ?_
  intro W0 w0 ρ0 hE
  conv => whnf
  (repeat ((first | refine step_i (by kernel_rfl) ?_ | refine g_c (by assumption) ?_ | refine g_o (op_loadA rfl (ev_ok rfl) (tgt rfl) rfl (Nat.succ_ne_zero _) rfl) ?_ | refine g_o (op_fieldA rfl (ev_ok rfl) (tgt rfl) rfl rfl (Nat.succ_ne_zero _) rfl) ?_); conv => whnf))
  exact Recast.refl _
theorem r3_Mul (a b : Rat) (h : fs a + fs b ≤ 100000000) : CallOK Tryz.prog 243 [fF a, fF b] [] (fF (a * b)) [] [] := by
  obtain ⟨a1, a2⟩ := tl_fs (q := a) (Nat.le_refl _)
  obtain ⟨b1, b2⟩ := tl_fs (q := b) (Nat.le_refl _)
  have m1 := tl_mul (a := a.num.natAbs) (b := b.num.natAbs)
  have m3 := tl_mul (a := a.den) (b := b.den)
  have k3 := r2_Mul a.num b.num (by omega) (by omega)
  have k6 := r3_Den a (by omega)
  have k7 := r3_Den b (by omega)
  have k8 := r_Mul a.den b.den (by omega) (by omega)
  have k9 := r3_From (a.num * b.num) (a.den * b.den) (Nat.mul_ne_zero a.den_nz b.den_nz) (by rw [Int.natAbs_mul]; omega) (by omega)
  rw [← Rat.mul_def'] at k9
  clear m1 m3
  refine callV (Z := [2, 3]) tabOK mixedOK Tryz.func243 rfl (by kernel_rfl) rfl rfl (by kernel_rfl) rfl ?_
  intro W0 w0 ρ0 hE
  conv => whnf
  (repeat ((first | refine step_i (by kernel_rfl) ?_ | refine g_c (by assumption) ?_ | refine g_o (op_loadA rfl (ev_ok rfl) (tgt rfl) rfl (Nat.succ_ne_zero _) rfl) ?_ | refine g_o (op_fieldA rfl (ev_ok rfl) (tgt rfl) rfl rfl (Nat.succ_ne_zero _) rfl) ?_); conv => whnf))
  exact Recast.refl _
end Go.Proofs.YtkpfineikahgfaaGreatDoor

namespace Go.Proofs.YtkpfineikahgfaaGreatDoor
open Go.Sx
set_option linter.unusedSimpArgs false
set_option linter.unusedVariables false
set_option maxRecDepth 100000
set_option maxHeartbeats 4000000

/-- string(byte): a digit. -/
theorem op_digit {P : Program} {o : Oper} {fr : List (Nat × SV)} {fk : List (Nat × Blk)} {src dst : TypeId} {x : Operand} {ti td : TI} {kd kd' : IntKind} {d : Nat} (ho : o.op = .convert src dst x) (hx : EvOK fr x (.val (.int kd (d : Nat)))) (hd : d < 128)
    (ht : TOK P src ti) (hk : ti.kind = .int kd') (htd : TOK P dst td) (hkd : td.kind = .str) : OpOK P o fr fk (.val (.string ⟨#[UInt8.ofNat d]⟩)) [] [] :=
  ok_pure fun ρ a w hp => by
    have hv := of_has_val (hx ρ a hp.hft)
    have hu := ht.kind; rw [hk] at hu
    have hud := htd.kind; rw [hkd] at hud
    refine ⟨_, ?_, has_val rfl⟩
    have e : Utf8.encode (d : Int) = ⟨#[UInt8.ofNat d]⟩ := by
      exact (show ∀ d, d < 128 → Utf8.encode ((d : Nat) : Int) = ⟨#[UInt8.ofNat d]⟩ by decide +kernel) d hd
    simp only [execOp, ho, hv, convert, Sem.run_bind, run_underlying hu, run_underlying hud, Result.andThen_ok, Conv.intToString, Sem.run_pure, e]

theorem pad_front : ∀ e n, padF (e + 1) (n % 10 ^ (e + 1)) = UInt8.ofNat (48 + n / 10 ^ e % 10) :: padF e (n % 10 ^ e)
  | 0, n => by simp [padF]
  | e + 1, n => by
    have h1 : n % 10 ^ (e + 2) / 10 = n / 10 % 10 ^ (e + 1) := by rw [Nat.pow_succ 10 (e + 1), Nat.mul_comm, Nat.mod_mul_right_div_self]
    have h2 : n % 10 ^ (e + 1) / 10 = n / 10 % 10 ^ e := by rw [Nat.pow_succ, Nat.mul_comm, Nat.mod_mul_right_div_self]
    have h3 : n % 10 ^ (e + 2) % 10 = n % 10 := Nat.mod_mod_of_dvd _ (Nat.dvd_trans (by exact ⟨1, rfl⟩) (Nat.dvd_trans (show 10 ∣ 10 ^ 1 from ⟨1, rfl⟩) (Nat.pow_dvd_pow 10 (by omega))))
    have h4 : n % 10 ^ (e + 1) % 10 = n % 10 := Nat.mod_mod_of_dvd _ (Nat.dvd_trans (show 10 ∣ 10 ^ 1 from ⟨1, rfl⟩) (Nat.pow_dvd_pow 10 (by omega)))
    rw [padF, h1, h3, pad_front e (n / 10), padF, h2, h4, Nat.div_div_eq_div_mul, ← Nat.pow_succ']
    rfl
/-- All digits, when the first is not zero. -/
theorem pad_full : ∀ e n, n < 10 ^ (e + 1) → (e = 0 ∨ 10 ^ e ≤ n) → padF (e + 1) n = Lib.decDigits n
  | 0, n, h, _ => by
    have h : n < 10 := by simpa using h
    rw [padF, dec_lt h, show n % 10 = n by omega]; rfl
  | e + 1, n, h, h' => by
    have h2 : 10 ^ (e + 1) ≤ n := h'.resolve_left (by omega)
    have h10 : 10 ≤ n := Nat.le_trans (Nat.le_trans (by decide) (Nat.pow_le_pow_right (n := 10) (by decide) (show 1 ≤ e + 1 by omega))) h2
    rw [Nat.pow_succ] at h
    rw [padF, dec_big h10, pad_full e (n / 10) (by omega) (by
      rw [Nat.pow_succ] at h2
      exact .inr (by omega))]
theorem bytes_cons (c : UInt8) (l : List UInt8) : (⟨#[c]⟩ : ByteArray) ++ ⟨l.toArray⟩ = ⟨(c :: l).toArray⟩ := by
  apply ByteArray.ext
  rw [ByteArray.data_append]
  apply Array.ext'
  simp

abbrev dS (l : List UInt8) : SV := .val (.string ⟨l.toArray⟩)
theorem padF_len : ∀ k r, (padF k r).length = k
  | 0, _ => rfl
  | k + 1, r => by rw [padF, List.length_append, padF_len k]; rfl
theorem r_Text (n : Nat) (hn : (td n).length < 268435456) : CallOK Tryz.prog 200 [nN n] [] (.val (.string (tN n))) [] [] := by
  rw [tN_eq]
  by_cases h0 : n = 0
  · subst h0
    have t1 : (((td 0).length : Int) == 0) = true := rfl
    have e : (⟨(Lib.decDigits 0).toArray⟩ : ByteArray) = ⟨#[48]⟩ := by rw [dec_lt (by decide)]; rfl
    rw [e]
    refine callV (Z := []) tabOK mixedOK Tryz.func200 rfl (by kernel_rfl) rfl rfl (by kernel_rfl) rfl ?_
    intro W0 w0 ρ0 hE
    conv => whnf
    (repeat (first | (refine step_w1 rfl rfl ?_; conv => whnf) | (refine g_o (op_lenM rfl rfl rfl (ev_ok rfl) (tgt rfl) rfl) ?_; conv => whnf))); (first | exact Recast.refl _ | exact Frz.recast (Recast.refl _) rfl | (refine Frz.one rfl rfl ?_; skip) | (refine Frz.tup ?_; skip))
  have hl0 := td_len_zero (n := n)
  have t1 : (((td n).length : Int) == 0) = false := beq_false_of_ne (by omega)
  have htop := td_ge_pow h0
  have hnlt := tlt_len n
  have p10 : ∀ i, (10000 : Nat) ^ i = 10 ^ (4 * i) := fun i => by rw [Nat.pow_mul]
  refine callV (Z := []) tabOK mixedOK Tryz.func200 rfl (by kernel_rfl) rfl rfl (by kernel_rfl) rfl ?_
  intro W0 w0 ρ0 hE
  conv => whnf
  (repeat (first | (refine step_w2 rfl rfl ?_; conv => whnf) | (refine g_o (op_lenM rfl rfl rfl (ev_ok rfl) (tgt rfl) rfl) ?_; conv => whnf) | (rw [t1]; conv => whnf)))
  refine SW_loopN hE (fun k => k) [0, 3, 4] [] (fun q fr hp => ∃ (i : Nat) (l : List UInt8), q = (td n).length - i ∧ i ≤ (td n).length ∧ l.length ≤ 4 * i ∧ (i < (td n).length → l = padF (4 * i) (n % 10 ^ (4 * i))) ∧ (i = (td n).length → l = Lib.decDigits n) ∧
    fr = [(0, nN n), (3, dS l), (4, .val (.int .i64 (i : Nat)))] ∧ hp = []) (td n).length ?_ ?_ ?_
  · kernel_rfl
  · exact ⟨0, [], rfl, Nat.zero_le _, by simp, (fun _ => rfl), (fun h => by omega), rfl, rfl⟩
  rintro q _ _ ⟨i, l, rfl, hi, hll, hl1, hl2, rfl, rfl⟩
  conv => whnf
  by_cases hlt : i < (td n).length
  · have t2 : decide ((i : Int) < ((td n).length : Int)) = true := decide_eq_true (by omega)
    have e1 := winc (i := i) (by omega)
    obtain rfl := hl1 hlt
    clear hl1 hl2 hll
    have hg := td_get n i
    have hd : n / 10000 ^ i % 10000 = n / 10 ^ (4 * i) % 10 ^ 4 := by rw [p10]
    have hlast : i + 1 = (td n).length → n / 10 ^ (4 * i) < 10 ^ 4 ∧ 0 < n / 10 ^ (4 * i) := fun h => by
      rw [← p10]
      constructor
      · rw [Nat.div_lt_iff_lt_mul (Nat.pow_pos (by decide)), show (10 : Nat) ^ 4 = 10000 ^ 1 from rfl, ← Nat.pow_add, Nat.add_comm, h]; exact hnlt
      · exact Nat.div_pos (by rw [← h, Nat.add_sub_cancel] at htop; exact htop) (Nat.pow_pos (by decide))
    (repeat ((first | refine step_w1 rfl rfl ?_ | refine g_o (op_lenM rfl rfl rfl (ev_ok rfl) (tgt rfl) rfl) ?_ | refine g_o (op_loadA rfl (ev_ok rfl) (tgt rfl) rfl (Nat.succ_ne_zero _) rfl) ?_ | refine g_o (op_indexN (α := Int) (d := 0) rfl (ev_ok rfl) (ev_ok rfl) (tgt rfl) rfl (tgt rfl) rfl (by omega)) ?_ | rw [t2] | rw [hg]); conv => whnf))
    refine SW_loopN hE (fun k => k) [0, 3, 4, 5, 6] [] (fun q fr hp => ∃ k : Nat, q = 4 - k ∧ k ≤ 4 ∧ (i + 1 = (td n).length → k = 0 ∨ 0 < n / 10 ^ (4 * i + (k - 1))) ∧
      fr = [(0, nN n), (3, dS (padF (4 * i + k) (n % 10 ^ (4 * i + k)))), (4, .val (.int .i64 (i : Nat))), (5, .val (.int .i64 ((n / 10 ^ (4 * i) % 10 ^ 4 / 10 ^ k : Nat) : Int))), (6, .val (.int .i64 (k : Nat)))] ∧ hp = []) 4 ?_ ?_ ?_
    · kernel_rfl
    · exact ⟨0, rfl, Nat.zero_le _, (fun _ => .inl rfl), by rw [Nat.add_zero, Nat.pow_zero, Nat.div_one, ← hd]; rfl, rfl⟩
    rintro q _ _ ⟨k, rfl, hk, hkl, rfl, rfl⟩
    have hlen := padF_len (4 * i + k) (n % 10 ^ (4 * i + k))
    have hdv : n / 10 ^ (4 * i) % 10 ^ 4 / 10 ^ k < 10000 := Nat.lt_of_le_of_lt (Nat.div_le_self _ _) (Nat.mod_lt _ (by decide))
    have hnext : n / 10 ^ (4 * i) % 10 ^ 4 / 10 ^ k / 10 = n / 10 ^ (4 * i) % 10 ^ 4 / 10 ^ (k + 1) := by rw [Nat.div_div_eq_div_mul, ← Nat.pow_succ]
    have hdig : k < 4 → n / 10 ^ (4 * i) % 10 ^ 4 / 10 ^ k % 10 = n / 10 ^ (4 * i + k) % 10 := fun h => by
      have e4 : (10 : Nat) ^ 4 = 10 ^ k * 10 ^ (4 - k) := by rw [← Nat.pow_add]; congr 1; omega
      rw [e4, Nat.mod_mul_right_div_self, Nat.div_div_eq_div_mul, ← Nat.pow_add]
      refine Nat.mod_mod_of_dvd _ ?_
      exact Nat.dvd_trans (show 10 ∣ 10 ^ 1 from ⟨1, rfl⟩) (Nat.pow_dvd_pow 10 (by omega))
    have hlz : i + 1 = (td n).length → n / 10 ^ (4 * i) % 10 ^ 4 / 10 ^ k = n / 10 ^ (4 * i + k) := fun h => by
      rw [Nat.mod_eq_of_lt (hlast h).1, Nat.div_div_eq_div_mul, ← Nat.pow_add]
    have hfront := pad_front (4 * i + k) n
    conv => whnf
    generalize hD : n / 10 ^ (4 * i) % 10 ^ 4 / 10 ^ k = D at *
    by_cases hk4 : k < 4
    · have t3 : decide ((k : Int) < 4) = true := decide_eq_true (by omega)
      have e2 := winc (i := k) (by omega)
      have hgoes : (i + 1 < (td n).length ∨ 0 < D) → True := fun _ => trivial
      have e3 : (D : Int).tmod 10 = ((D % 10 : Nat) : Int) := by rw [Int.tmod_eq_emod_of_nonneg (by omega)]; rfl
      have e4 : IntKind.i64.wrap (48 + ((D % 10 : Nat) : Int)) = ((48 + D % 10 : Nat) : Int) := by rw [wrap_i64 (by omega) (by omega)]; omega
      have e5 : IntKind.u8.wrap ((48 + D % 10 : Nat) : Int) = ((48 + D % 10 : Nat) : Int) := by rw [IntKind.wrap_u8]; omega
      have e6 : IntKind.i64.wrap ((D : Int).tdiv 10) = ((D / 10 : Nat) : Int) := by rw [Int.tdiv_eq_ediv_of_nonneg (by omega)]; exact wrap_i64 (by omega) (by omega)
      have e7 : (D : Int).tdiv 10 = ((D / 10 : Nat) : Int) := by rw [Int.tdiv_eq_ediv_of_nonneg (by omega)]; rfl
      have hob : (⟨#[UInt8.ofNat (48 + D % 10)]⟩ : ByteArray).size + (⟨(padF (4 * i + k) (n % 10 ^ (4 * i + k))).toArray⟩ : ByteArray).size ≤ 9223372036854775807 := by
        have h1 : (⟨(padF (4 * i + k) (n % 10 ^ (4 * i + k))).toArray⟩ : ByteArray).size = 4 * i + k := by show (padF _ _).toArray.size = _; rw [List.size_toArray, hlen]
        have h2 : (⟨#[UInt8.ofNat (48 + D % 10)]⟩ : ByteArray).size = 1 := rfl
        omega
      have hbc := bytes_cons (UInt8.ofNat (48 + D % 10)) (padF (4 * i + k) (n % 10 ^ (4 * i + k)))
      rw [hdig hk4] at hbc
      rw [← hfront] at hbc
      rw [← hdig hk4] at hbc
      by_cases hm : i + 1 < (td n).length
      · have t4 : decide (((i + 1 : Nat) : Int) < ((td n).length : Int)) = true := decide_eq_true (by omega)
        (repeat ((first | refine step_w1 rfl rfl ?_ | refine step_w2 rfl rfl ?_ | refine step_oM (by first | omega | decide | (simp only [tl0, dlen, List.length_replicate, List.length_set, List.length_map, List.length_zipWith, List.length_take, List.length_append, List.length_cons, List.length_nil]; omega)) ?_ | refine step_oN (by first | omega | decide | (simp only [tl0, dlen, List.length_replicate, List.length_set, List.length_map, List.length_zipWith, List.length_take, List.length_append, List.length_cons, List.length_nil]; omega)) ?_ | refine g_o (op_pickT rfl (ev_ok rfl) (ev_ok rfl)) ?_ | refine g_o (op_lenM rfl rfl rfl (ev_ok rfl) (tgt rfl) rfl) ?_ | refine ⟨_, [], [], op_digit rfl (ev_ok rfl) (by omega) (tabOK.get (t := 5) rfl) rfl (tabOK.get (t := 9) rfl) rfl, nil_fk, nil_new, ?_⟩ | rw [t3] | rw [e1] | rw [t4] | rw [e3] | rw [e4] | rw [e5] | rw [e6] | rw [hbc] | rw [e2]); conv => whnf))
        exact ⟨4 - (k + 1), fun k => k, [0, 3, 4, 5, 6], [], by omega, by kernel_rfl, k + 1, rfl, by omega, (fun h => by omega), by rw [← hnext]; rfl, rfl⟩
      · have t4 : decide (((i + 1 : Nat) : Int) < ((td n).length : Int)) = false := decide_eq_false (by omega)
        by_cases hd0 : 0 < D
        · have t5 : decide ((D : Int) > 0) = true := decide_eq_true (by omega)
          have hpos : 0 < n / 10 ^ (4 * i + (k + 1 - 1)) := by rw [Nat.add_sub_cancel, ← hlz (by omega)]; exact hd0
          (repeat ((first | refine step_w1 rfl rfl ?_ | refine step_oM (by first | omega | decide | (simp only [tl0, dlen, List.length_replicate, List.length_set, List.length_map, List.length_zipWith, List.length_take, List.length_append, List.length_cons, List.length_nil]; omega)) ?_ | refine step_oN (by first | omega | decide | (simp only [tl0, dlen, List.length_replicate, List.length_set, List.length_map, List.length_zipWith, List.length_take, List.length_append, List.length_cons, List.length_nil]; omega)) ?_ | refine g_o (op_pickT rfl (ev_ok rfl) (ev_ok rfl)) ?_ | refine g_o (op_pickF rfl (ev_ok rfl) (ev_ok rfl)) ?_ | refine g_o (op_lenM rfl rfl rfl (ev_ok rfl) (tgt rfl) rfl) ?_ | refine ⟨_, [], [], op_digit rfl (ev_ok rfl) (by omega) (tabOK.get (t := 5) rfl) rfl (tabOK.get (t := 9) rfl) rfl, nil_fk, nil_new, ?_⟩ | rw [t3] | rw [e1] | rw [t4] | rw [t5] | rw [e3] | rw [e4] | rw [e5] | rw [e6] | rw [hbc] | rw [e2]); conv => whnf))
          exact ⟨4 - (k + 1), fun k => k, [0, 3, 4, 5, 6], [], by omega, by kernel_rfl, k + 1, rfl, by omega, (fun _ => .inr hpos), by rw [← hnext]; rfl, rfl⟩
        · have t5 : decide ((D : Int) > 0) = false := decide_eq_false (by omega)
          have hz := hlz (by omega)
          have hfull : padF (4 * i + k) (n % 10 ^ (4 * i + k)) = Lib.decDigits n := by
            have hlt10 : n < 10 ^ (4 * i + k) := by
              rcases Nat.lt_or_ge n (10 ^ (4 * i + k)) with g | g
              · exact g
              · have := Nat.div_pos g (Nat.pow_pos (n := 4 * i + k) (by decide)); omega
            rcases hkl (by omega) with g | g
            · subst g
              have := (hlast (by omega)).2
              rw [Nat.add_zero] at hz; omega
            · obtain ⟨k, rfl⟩ : ∃ j, k = j + 1 := by
                rcases Nat.eq_zero_or_pos k with g2 | g2
                · subst g2; have := (hlast (by omega)).2; rw [Nat.add_zero] at hz; omega
                · exact ⟨k - 1, by omega⟩
              rw [Nat.mod_eq_of_lt hlt10]
              refine pad_full (4 * i + k) n hlt10 (.inr ?_)
              rcases Nat.lt_or_ge n (10 ^ (4 * i + k)) with g3 | g3
              · rw [Nat.add_sub_cancel, Nat.div_eq_of_lt g3] at g; omega
              · exact g3
          (repeat ((first | refine step_w1 rfl rfl ?_ | refine step_w2 rfl rfl ?_ | refine g_o (op_pickT rfl (ev_ok rfl) (ev_ok rfl)) ?_ | refine g_o (op_pickF rfl (ev_ok rfl) (ev_ok rfl)) ?_ | refine g_o (op_lenM rfl rfl rfl (ev_ok rfl) (tgt rfl) rfl) ?_ | rw [t3] | rw [e1] | rw [t4] | rw [t5]); conv => whnf))
          exact ⟨(td n).length - (i + 1), fun k => k, [0, 3, 4], [], by omega, by kernel_rfl, i + 1, _, rfl, by omega, by rw [padF_len]; omega, (fun h => by omega), (fun _ => hfull), rfl, rfl⟩
    · obtain rfl : k = 4 := by omega
      have t3 : decide (((4 : Nat) : Int) < 4) = false := rfl
      have hfull : i + 1 = (td n).length → padF (4 * i + 4) (n % 10 ^ (4 * i + 4)) = Lib.decDigits n := fun h => by
        have h1 := (hlast h).1
        rw [Nat.div_lt_iff_lt_mul (Nat.pow_pos (by decide)), ← Nat.pow_add, Nat.add_comm] at h1
        have g := (hkl h).resolve_left (by decide)
        rw [Nat.mod_eq_of_lt h1]
        refine pad_full (4 * i + 3) n h1 (.inr ?_)
        rcases Nat.lt_or_ge n (10 ^ (4 * i + 3)) with g3 | g3
        · rw [show 4 - 1 = 3 from rfl, Nat.div_eq_of_lt g3] at g; omega
        · exact g3
      (repeat ((first | refine step_w2 rfl rfl ?_ | refine g_o (op_pickF rfl (ev_ok rfl) (ev_ok rfl)) ?_ | rw [t3] | rw [e1]); conv => whnf))
      exact ⟨(td n).length - (i + 1), fun k => k, [0, 3, 4], [], by omega, by kernel_rfl, i + 1, _, rfl, by omega, by rw [padF_len]; omega, (fun h => rfl), hfull, rfl, rfl⟩
  · obtain rfl : i = (td n).length := by omega
    have t2 : decide (((td n).length : Int) < ((td n).length : Int)) = false := decide_eq_false (by omega)
    obtain rfl := hl2 rfl
    (repeat (first | (refine step_w2 rfl rfl ?_; conv => whnf) | (refine g_o (op_lenM rfl rfl rfl (ev_ok rfl) (tgt rfl) rfl) ?_; conv => whnf) | (rw [t2]; conv => whnf))); (first | exact Recast.refl _ | exact Frz.recast (Recast.refl _) rfl | (refine Frz.one rfl rfl ?_; skip) | (refine Frz.tup ?_; skip))
end Go.Proofs.YtkpfineikahgfaaGreatDoor

namespace Go.Proofs.YtkpfineikahgfaaGreatDoor
open Go.Sx
set_option linter.unusedSimpArgs false
set_option linter.unusedVariables false
set_option maxRecDepth 100000
set_option maxHeartbeats 4000000

theorem r2_Text (z : Int) (hz : sz z.natAbs ≤ 100000000) : CallOK Tryz.prog 199 [zZ z] [] (.val (.string (tZ z))) [] [] := by
  have k1 := r_Text z.natAbs (Nat.lt_of_le_of_lt (tl_sz hz) (by decide))
  have hs := tN_sizeG z.natAbs
  have h1 : (ByteArray.mk #[45]).size = 1 := rfl
  have h2 : (ByteArray.mk #[45]).size + (tN z.natAbs).size ≤ 9223372036854775807 := by omega
  unfold tZ
  refine callV (Z := [1]) tabOK mixedOK Tryz.func199 rfl (by kernel_rfl) rfl rfl (by kernel_rfl) rfl ?_
  intro W0 w0 ρ0 hE
  conv => whnf
  by_cases hn : z < 0
  · have t1 : decide (z < 0) = true := decide_eq_true hn
    rw [if_pos hn]
    (repeat ((first | refine step_w1 rfl rfl ?_ | refine step_oM (by first | omega | decide | (simp only [tl0, dlen, List.length_replicate, List.length_set, List.length_map, List.length_zipWith, List.length_take, List.length_append, List.length_cons, List.length_nil]; omega)) ?_ | refine g_c (by assumption) ?_ | refine g_o (op_loadA rfl (ev_ok rfl) (tgt rfl) rfl (Nat.succ_ne_zero _) rfl) ?_ | refine g_o (op_fieldA rfl (ev_ok rfl) (tgt rfl) rfl rfl (Nat.succ_ne_zero _) rfl) ?_ | rw [t1]); conv => whnf)); (first | exact Recast.refl _ | exact Frz.recast (Recast.refl _) rfl | (refine Frz.one rfl rfl ?_; skip) | (refine Frz.tup ?_; skip))
  · have t1 : decide (z < 0) = false := decide_eq_false hn
    rw [if_neg hn]
    (repeat ((first | refine step_w2 rfl rfl ?_ | refine g_c (by assumption) ?_ | refine g_o (op_loadA rfl (ev_ok rfl) (tgt rfl) rfl (Nat.succ_ne_zero _) rfl) ?_ | refine g_o (op_fieldA rfl (ev_ok rfl) (tgt rfl) rfl rfl (Nat.succ_ne_zero _) rfl) ?_ | rw [t1]); conv => whnf)); (first | exact Recast.refl _ | exact Frz.recast (Recast.refl _) rfl | (refine Frz.one rfl rfl ?_; skip) | (refine Frz.tup ?_; skip))
theorem r3_Text (q : Rat) (h : fs q ≤ 100000000) : CallOK Tryz.prog 112 [fF q] [] (.val (.string (tQ q))) [] [] := by
  have n1 := fsz_num q
  have n2 := fsz_den q
  unfold fs at h
  have k1 := r2_Text q.num (by omega)
  have hdl : (td q.den).length ≤ 100000000 := tl_sz (by omega)
  have k2 := r3_Den q (by omega)
  have k3 := r_Text q.den (by omega)
  have hs := tZ_sizeG q.num
  have hs2 := tN_sizeG q.den
  have h1 : (ByteArray.mk #[47]).size = 1 := rfl
  have h2 : (tZ q.num).size + (ByteArray.mk #[47]).size ≤ 9223372036854775807 := by omega
  have h3 : (tZ q.num ++ (ByteArray.mk #[47])).size + (tN q.den).size ≤ 9223372036854775807 := by rw [ByteArray.size_append]; omega
  have hz := td_len_zero (n := q.den - 1)
  have hp := q.den_pos
  unfold tQ
  refine callV (Z := [1]) tabOK mixedOK Tryz.func112 rfl (by kernel_rfl) rfl rfl (by kernel_rfl) rfl ?_
  intro W0 w0 ρ0 hE
  conv => whnf
  by_cases hd : q.den = 1
  · have t1 : (((td (q.den - 1)).length : Int) == 0) = true := beq_iff_eq.2 (by omega)
    rw [if_pos hd]
    (repeat ((first | refine step_w1 rfl rfl ?_ | refine g_c (by assumption) ?_ | refine g_o (op_lenM rfl rfl rfl (ev_ok rfl) (tgt rfl) rfl) ?_ | refine g_o (op_loadA rfl (ev_ok rfl) (tgt rfl) rfl (Nat.succ_ne_zero _) rfl) ?_ | refine g_o (op_fieldA rfl (ev_ok rfl) (tgt rfl) rfl rfl (Nat.succ_ne_zero _) rfl) ?_ | rw [t1]); conv => whnf)); (first | exact Recast.refl _ | exact Frz.recast (Recast.refl _) rfl | (refine Frz.one rfl rfl ?_; skip) | (refine Frz.tup ?_; skip))
  · have t1 : (((td (q.den - 1)).length : Int) == 0) = false := beq_false_of_ne (by omega)
    rw [if_neg hd]
    (repeat ((first | refine step_w2 rfl rfl ?_ | refine step_i (by kernel_rfl) ?_ | refine step_oM (by first | omega | decide | (simp only [tl0, dlen, List.length_replicate, List.length_set, List.length_map, List.length_zipWith, List.length_take, List.length_append, List.length_cons, List.length_nil]; omega)) ?_ | refine g_c (by assumption) ?_ | refine g_o (op_lenM rfl rfl rfl (ev_ok rfl) (tgt rfl) rfl) ?_ | refine g_o (op_loadA rfl (ev_ok rfl) (tgt rfl) rfl (Nat.succ_ne_zero _) rfl) ?_ | refine g_o (op_fieldA rfl (ev_ok rfl) (tgt rfl) rfl rfl (Nat.succ_ne_zero _) rfl) ?_ | rw [t1]); conv => whnf)); (first | exact Recast.refl _ | exact Frz.recast (Recast.refl _) rfl | (refine Frz.one rfl rfl ?_; skip) | (refine Frz.tup ?_; skip))

abbrev fFs (a : List Rat) : SV := mvec 3 fF a
abbrev fFblk (a : List Rat) : Blk := ⟨74, true, .seq 3 (a.map fF)⟩
theorem take_map_snoc {z : List Rat} {i : Nat} (hi : i < z.length) : fFblk (z.take (i + 1)) = ⟨74, true, .seq 3 (List.take i ((z.take i).map fF) ++ List.take 1 (List.drop 0 [fF (z.getD i 0)]))⟩ := by
  have hl : ((z.take i).map fF).length = i := by rw [List.length_map, List.length_take]; omega
  rw [fFblk, take_snoc z i hi, List.map_append, List.take_of_length_le (l := (z.take i).map fF) (by omega)]; rfl

end Go.Proofs.YtkpfineikahgfaaGreatDoor

namespace Go.Proofs.YtkpfineikahgfaaGreatDoor
open Go.Sx
set_option linter.unusedSimpArgs false
set_option linter.unusedVariables false
set_option maxRecDepth 100000
set_option maxHeartbeats 4000000

abbrev zblkF : Blk := ⟨74, true, .one [.val (.bool false), .val (.slice none 0 0), .val (.slice none 0 0)]⟩
abbrev oblkF (q : Rat) : Blk := ⟨74, true, .one [zZ q.num, nN (q.den - 1)]⟩
def jn (l : List Rat) : List UInt8 := Lib.join ((l.map tQ).map (·.data.toList)) [32]
theorem jn_snoc (l : List Rat) (q : Rat) (h : l ≠ []) : jn (l ++ [q]) = jn l ++ [32] ++ (tQ q).data.toList := by
  cases l with
  | nil => exact absurd rfl h
  | cons x r => simp [jn, Lib.join_cons, Lib.joinTail]
theorem jn_one (q : Rat) : jn ([] ++ [q]) = (tQ q).data.toList := by simp [jn, Lib.join_one]
theorem jn_len {a : List Rat} {B : Nat} (hl : a.length ≤ 2048) (h : ∀ i, i < a.length → fs (a.getD i 0) ≤ B) (hB : B ≤ 100000000) (i : Nat) : (jn (a.take i)).length ≤ 140737488355328 :=
  tV_join (B := B) (by rw [List.length_take]; omega) (fun k hk => by
    rw [List.length_take] at hk
    rw [List.getD_eq_getElem?_getD, List.getElem?_take, if_pos (by omega), ← List.getD_eq_getElem?_getD]
    exact h k (by omega)) (by omega)
theorem app_l (l : List UInt8) (s : ByteArray) : (⟨l.toArray⟩ : ByteArray) ++ s = ⟨(l ++ s.data.toList).toArray⟩ := by
  apply ByteArray.ext
  rw [ByteArray.data_append]
  apply Array.ext'
  simp
theorem size_l (l : List UInt8) : (⟨l.toArray⟩ : ByteArray).size = l.length := by show l.toArray.size = _; simp
theorem r12_Text (a : List Rat) (B : Nat) (hl : a.length ≤ 2048) (h : ∀ i, i < a.length → fs (a.getD i 0) ≤ B) (hB : B ≤ 100000000) : CallOK Tryz.prog 194 [fFs a] [] (.val (.string (tV a))) [] [] := by
  have htv : tV a = ⟨((91 :: jn a) ++ [93]).toArray⟩ := by
    apply ByteArray.ext
    show (("[".toUTF8 ++ ⟨(jn a).toArray⟩ : ByteArray) ++ "]".toUTF8).data = _
    rw [ByteArray.data_append, ByteArray.data_append]
    apply Array.ext'
    have e1 : "[".toByteArray.data.toList = [91] := by decide +kernel
    have e2 : "]".toByteArray.data.toList = [93] := by decide +kernel
    simp [e1, e2]
  rw [htv]
  refine callV (Z := []) tabOK mixedOK Tryz.func194 rfl (by kernel_rfl) rfl rfl (by kernel_rfl) rfl ?_
  intro W0 w0 ρ0 hE
  conv => whnf
  skip
  refine SW_loopN hE (fun k => k) [0, 3, 4] [] (fun m fr hp => ∃ i : Nat, m = a.length - i ∧ i ≤ a.length ∧ fr = [(0, fFs a), (3, dS (91 :: jn (a.take i))), (4, .val (.int .i64 (i : Nat)))] ∧ hp = []) a.length ?_ ?_ ?_
  · kernel_rfl
  · exact ⟨0, rfl, Nat.zero_le _, rfl, rfl⟩
  rintro m _ _ ⟨i, rfl, hi, rfl, rfl⟩
  have hjl := jn_len hl h hB i
  have hsz := size_l (91 :: jn (a.take i))
  rw [List.length_cons] at hsz
  conv => whnf
  by_cases hlt : i < a.length
  · have t1 := dlt hlt
    have t2 := winc (i := i) (by omega)
    have hx := h i hlt
    have k1 := r3_Text (a.getD i 0) (by omega)
    have hq := tQ_size (a.getD i 0)
    have hts := take_snoc a i hlt
    obtain ⟨x, hxe⟩ : ∃ x, a.getD i 0 = x := ⟨_, rfl⟩
    rw [hxe] at hx k1 hq hts
    by_cases h0 : 0 < i
    · have t3 : decide ((i : Int) > 0) = true := decide_eq_true (by omega)
      have e1 := app_l (91 :: jn (a.take i)) ⟨#[32]⟩
      have e2 := app_l ((91 :: jn (a.take i)) ++ [32]) (tQ x)
      have hne : a.take i ≠ [] := fun h => by have := congrArg List.length h; rw [List.length_take, List.length_nil] at this; omega
      have ej : (91 :: jn (a.take i)) ++ [32] ++ (tQ x).data.toList = 91 :: jn (a.take (i + 1)) := by rw [hts, jn_snoc _ _ hne]; simp
      have h32 : (⟨#[32]⟩ : ByteArray).size = 1 := rfl
      have o1 : (⟨(91 :: jn (a.take i)).toArray⟩ : ByteArray).size + (⟨#[32]⟩ : ByteArray).size ≤ 9223372036854775807 := by omega
      have hsz2 := size_l ((91 :: jn (a.take i)) ++ [32])
      rw [List.length_append, List.length_cons, List.length_singleton] at hsz2
      have o2 : (⟨((91 :: jn (a.take i)) ++ [32]).toArray⟩ : ByteArray).size + (tQ x).size ≤ 9223372036854775807 := by omega
      have e1' : (⟨(91 :: jn (a.take i)).toArray⟩ : ByteArray) ++ (⟨#[32]⟩ : ByteArray) = ⟨((91 :: jn (a.take i)) ++ [32]).toArray⟩ := e1
      rw [ej] at e2
      clear e1 ej hts
      (repeat ((first | refine step_w1 rfl rfl ?_ | refine step_oM (by first | omega | decide | (simp only [tl0, dlen, List.length_replicate, List.length_set, List.length_map, List.length_zipWith, List.length_take, List.length_append, List.length_cons, List.length_nil]; omega)) ?_ | refine g_c (by assumption) ?_ | refine g_o (op_lenM rfl rfl rfl (ev_ok rfl) (tgt rfl) rfl) ?_ | refine g_o (op_indexN (α := Rat) (d := 0) rfl (ev_ok rfl) (ev_ok rfl) (tgt rfl) rfl (tgt rfl) rfl (by omega)) ?_ | refine g_o (op_loadA rfl (ev_ok rfl) (tgt rfl) rfl (Nat.succ_ne_zero _) rfl) ?_ | rw [t1] | rw [t3] | rw [hxe] | rw [e1'] | rw [e2] | rw [t2]); conv => whnf))
      exact ⟨a.length - (i + 1), fun k => k, [0, 3, 4], [], by omega, by kernel_rfl, i + 1, rfl, hlt, rfl, rfl⟩
    · have t3 : decide ((i : Int) > 0) = false := decide_eq_false (by omega)
      obtain rfl : i = 0 := by omega
      have e2 := app_l (91 :: jn (a.take 0)) (tQ x)
      have ej : (91 :: jn (a.take 0)) ++ (tQ x).data.toList = 91 :: jn (a.take (0 + 1)) := by
        rw [hts, List.take_zero, jn_one]; rfl
      rw [ej] at e2
      have o2 : (⟨(91 :: jn (a.take 0)).toArray⟩ : ByteArray).size + (tQ x).size ≤ 9223372036854775807 := by omega
      clear ej hts
      (repeat ((first | refine step_w1 rfl rfl ?_ | refine step_w2 rfl rfl ?_ | refine step_oM (by first | omega | decide | (simp only [tl0, dlen, List.length_replicate, List.length_set, List.length_map, List.length_zipWith, List.length_take, List.length_append, List.length_cons, List.length_nil]; omega)) ?_ | refine g_c (by assumption) ?_ | refine g_o (op_lenM rfl rfl rfl (ev_ok rfl) (tgt rfl) rfl) ?_ | refine g_o (op_indexN (α := Rat) (d := 0) rfl (ev_ok rfl) (ev_ok rfl) (tgt rfl) rfl (tgt rfl) rfl (by omega)) ?_ | refine g_o (op_loadA rfl (ev_ok rfl) (tgt rfl) rfl (Nat.succ_ne_zero _) rfl) ?_ | rw [t1] | rw [t3] | rw [hxe] | rw [e2] | rw [t2] | rw [Nat.zero_add]); conv => whnf))
      exact ⟨a.length - (0 + 1), fun k => k, [0, 3, 4], [], by omega, by kernel_rfl, 0 + 1, rfl, hlt, rfl, rfl⟩
  · have t1 := dge hlt
    have hI : i = a.length := by omega
    subst hI
    rw [List.take_length] at *
    have e1 : (⟨(91 :: jn a).toArray⟩ : ByteArray) ++ (⟨#[93]⟩ : ByteArray) = ⟨((91 :: jn a) ++ [93]).toArray⟩ := app_l (91 :: jn a) ⟨#[93]⟩
    have h93 : (⟨#[93]⟩ : ByteArray).size = 1 := rfl
    have o1 : (⟨(91 :: jn a).toArray⟩ : ByteArray).size + (⟨#[93]⟩ : ByteArray).size ≤ 9223372036854775807 := by omega
    rw [← e1]
    (repeat ((first | refine step_w2 rfl rfl ?_ | refine step_oM (by first | omega | decide | (simp only [tl0, dlen, List.length_replicate, List.length_set, List.length_map, List.length_zipWith, List.length_take, List.length_append, List.length_cons, List.length_nil]; omega)) ?_ | refine g_o (op_lenM rfl rfl rfl (ev_ok rfl) (tgt rfl) rfl) ?_ | rw [t1]); conv => whnf)); (first | exact Recast.refl _ | exact Frz.recast (Recast.refl _) rfl | (refine Frz.one rfl rfl ?_; skip) | (refine Frz.tup ?_; skip))
end Go.Proofs.YtkpfineikahgfaaGreatDoor

namespace Go.Proofs.YtkpfineikahgfaaGreatDoor
open Go.Sx
set_option linter.unusedSimpArgs false
set_option linter.unusedVariables false
set_option maxRecDepth 100000
set_option maxHeartbeats 4000000

end Go.Proofs.YtkpfineikahgfaaGreatDoor

namespace Go.Proofs.YtkpfineikahgfaaGreatDoor
open Go.Sx
set_option linter.unusedSimpArgs false
set_option linter.unusedVariables false
set_option maxRecDepth 100000
set_option maxHeartbeats 4000000

/-- A matrix of the reference. -/
abbrev rM (r c : Nat) (a : List Rat) : SV := .agg [iv c, mvec 1 fFs (rowsL r c a)]
abbrev rC (r c : Nat) (a : List Rat) : List SV := [iv c, mvec 1 fFs (rowsL r c a)]
abbrev rblk (l : List (List Rat)) : Blk := ⟨164, true, .seq 1 (l.map fFs)⟩
theorem take_rows {l : List (List Rat)} {i : Nat} (hi : i < l.length) : rblk (l.take (i + 1)) = ⟨164, true, .seq 1 (List.take i ((l.take i).map fFs) ++ List.take 1 (List.drop 0 [fFs (l.getD i [])]))⟩ := by
  have hl : ((l.take i).map fFs).length = i := by rw [List.length_map, List.length_take]; omega
  have e : l.take (i + 1) = l.take i ++ [l.getD i []] := by rw [List.take_add_one, List.getD_eq_getElem?_getD, List.getElem?_eq_getElem hi]; rfl
  rw [rblk, e, List.map_append, List.take_of_length_le (l := (l.take i).map fFs) (by omega)]; rfl

end Go.Proofs.YtkpfineikahgfaaGreatDoor

namespace Go.Proofs.YtkpfineikahgfaaGreatDoor
open Go.Sx
set_option linter.unusedSimpArgs false
set_option linter.unusedVariables false
set_option maxRecDepth 100000
set_option maxHeartbeats 4000000

def jS (l : List ByteArray) : List UInt8 := Lib.join (l.map (·.data.toList)) [32]
theorem jS_snoc (l : List ByteArray) (s : ByteArray) (h : l ≠ []) : jS (l ++ [s]) = jS l ++ [32] ++ s.data.toList := by
  cases l with
  | nil => exact absurd rfl h
  | cons x r => simp [jS, Lib.join_cons, Lib.joinTail]
theorem r13_Text {r c B : Nat} {a : List Rat} (ha : OKM r c a) (sa : Sm B a) (hB : B ≤ 1000000) : CallOK Tryz.prog 106 [rM r c a] [] (.val (.string (tM r c a))) [] [] := by
  have hr := ha.r
  have la := rowsL_len r c a
  have hT : ((rowsL r c a).map tV).length = r := by rw [List.length_map, la]
  have hjl : ∀ i, (jS (((rowsL r c a).map tV).take i)).length ≤ 140737488355328 := by
    intro i
    refine Nat.le_trans (join_size _ (2 + 2048 * (2 * B + 5)) ?_) ?_
    · intro x hx
      obtain ⟨s, hs, rfl⟩ := List.mem_map.1 hx
      obtain ⟨l, hl, rfl⟩ := List.mem_map.1 (List.mem_of_mem_take hs)
      obtain ⟨h1, h2⟩ := rows_sm ha.n sa hl
      refine Nat.le_trans (tV_size h2) ?_
      have := Nat.mul_le_mul_right (2 * B + 5) (show l.length ≤ 2048 by rw [h1]; exact ha.c)
      omega
    · rw [List.length_map, List.length_take]
      have := Nat.mul_le_mul_right (2 + 2048 * (2 * B + 5) + 1) (show min i ((rowsL r c a).map tV).length ≤ 2048 by omega)
      omega
  rw [show tM r c a = ⟨(jS ((rowsL r c a).map tV)).toArray⟩ from rfl]
  refine callV (Z := [1]) tabOK mixedOK Tryz.func106 rfl (by kernel_rfl) rfl rfl (by kernel_rfl) rfl ?_
  intro W0 w0 ρ0 hE
  conv => whnf
  skip
  refine SW_loopN hE (fun k => k) [1, 3, 4] [] (fun m fr hp => ∃ i : Nat, m = r - i ∧ i ≤ r ∧ fr = [(1, ptrA (rC r c a)), (3, dS (jS (((rowsL r c a).map tV).take i))), (4, iv (i : Nat))] ∧ hp = []) r ?_ ?_ ?_
  · kernel_rfl
  · exact ⟨0, rfl, Nat.zero_le _, rfl, rfl⟩
  rintro m _ _ ⟨i, rfl, hi, rfl, rfl⟩
  have hj := hjl i
  have hsz := size_l (jS (((rowsL r c a).map tV).take i))
  conv => whnf
  by_cases hlt : i < r
  · have t1 : decide ((i : Int) < ((rowsL r c a).length : Int)) = true := by rw [la]; exact dlt hlt
    have t2 := winc (i := i) (by omega)
    have e5 := rowsL_get (c := c) (a := a) hlt
    have k1 := r12_Text (rowL a c i) B (by rw [rowL_len hlt ha.n]; exact ha.c) (Sm_row sa ha.n hlt) (by omega)
    have hq := tV_size (Sm_row sa ha.n hlt)
    rw [rowL_len hlt ha.n] at hq
    have hq2 := Nat.mul_le_mul_right (2 * B + 5) ha.c
    have hq3 : (tV (rowL a c i)).data.toList.length = (tV (rowL a c i)).size := Array.length_toList
    have hts : ((rowsL r c a).map tV).take (i + 1) = ((rowsL r c a).map tV).take i ++ [tV (rowL a c i)] := by
      rw [List.take_add_one, List.getElem?_map, List.getElem?_eq_getElem (by omega)]
      rw [List.getD_eq_getElem?_getD, List.getElem?_eq_getElem (by omega)] at e5
      rw [← e5]; rfl
    rw [← e5] at k1 hts hq3 hq
    obtain ⟨x, hxe⟩ : ∃ x, (rowsL r c a).getD i [] = x := ⟨_, rfl⟩
    rw [hxe] at k1 hts hq3 hq
    clear e5
    by_cases h0 : 0 < i
    · have t3 : decide ((i : Int) > 0) = true := decide_eq_true (by omega)
      have e1 : (⟨(jS (((rowsL r c a).map tV).take i)).toArray⟩ : ByteArray) ++ (⟨#[32]⟩ : ByteArray) = ⟨(jS (((rowsL r c a).map tV).take i) ++ [32]).toArray⟩ := app_l _ ⟨#[32]⟩
      have e2 := app_l (jS (((rowsL r c a).map tV).take i) ++ [32]) (tV x)
      have hne : ((rowsL r c a).map tV).take i ≠ [] := fun h => by have := congrArg List.length h; rw [List.length_take, List.length_nil] at this; omega
      have ej : jS (((rowsL r c a).map tV).take i) ++ [32] ++ (tV x).data.toList = jS (((rowsL r c a).map tV).take (i + 1)) := by rw [hts, jS_snoc _ _ hne]
      have h32 : (⟨#[32]⟩ : ByteArray).size = 1 := rfl
      have o1 : (⟨(jS (((rowsL r c a).map tV).take i)).toArray⟩ : ByteArray).size + (⟨#[32]⟩ : ByteArray).size ≤ 9223372036854775807 := by omega
      have hsz2 := size_l (jS (((rowsL r c a).map tV).take i) ++ [32])
      rw [List.length_append, List.length_singleton] at hsz2
      have o2 : (⟨(jS (((rowsL r c a).map tV).take i) ++ [32]).toArray⟩ : ByteArray).size + (tV x).size ≤ 9223372036854775807 := by omega
      rw [ej] at e2
      clear ej hts hq hq2 hq3
      (repeat ((first | refine step_w1 rfl rfl ?_ | refine step_oM (by first | omega | decide | (simp only [tl0, dlen, List.length_replicate, List.length_set, List.length_map, List.length_zipWith, List.length_take, List.length_append, List.length_cons, List.length_nil]; omega)) ?_ | refine g_c (by assumption) ?_ | refine g_o (op_lenM rfl rfl rfl (ev_ok rfl) (tgt rfl) rfl) ?_ | refine g_o (op_loadA rfl (ev_ok rfl) (tgt rfl) rfl (Nat.succ_ne_zero _) rfl) ?_ | refine g_o (op_indexN (α := List Rat) (d := []) rfl (ev_ok rfl) (ev_ok rfl) (tgt rfl) rfl (tgt rfl) rfl (by omega)) ?_ | refine g_o (op_fieldA rfl (ev_ok rfl) (tgt rfl) rfl rfl (Nat.succ_ne_zero _) rfl) ?_ | rw [t1] | rw [t3] | rw [hxe] | rw [e1] | rw [e2] | rw [t2]); conv => whnf))
      exact ⟨r - (i + 1), fun k => k, [1, 3, 4], [], by omega, by kernel_rfl, i + 1, rfl, hlt, rfl, rfl⟩
    · have t3 : decide ((i : Int) > 0) = false := decide_eq_false (by omega)
      obtain rfl : i = 0 := by omega
      have e2 := app_l (jS (((rowsL r c a).map tV).take 0)) (tV x)
      have ej : jS (((rowsL r c a).map tV).take 0) ++ (tV x).data.toList = jS (((rowsL r c a).map tV).take (0 + 1)) := by
        rw [hts, List.take_zero]; simp [jS, Lib.join_one, Lib.join_nil]
      rw [ej] at e2
      have o2 : (⟨(jS (((rowsL r c a).map tV).take 0)).toArray⟩ : ByteArray).size + (tV x).size ≤ 9223372036854775807 := by omega
      clear ej hts hq hq2 hq3
      (repeat ((first | refine step_w1 rfl rfl ?_ | refine step_w2 rfl rfl ?_ | refine step_oM (by first | omega | decide | (simp only [tl0, dlen, List.length_replicate, List.length_set, List.length_map, List.length_zipWith, List.length_take, List.length_append, List.length_cons, List.length_nil]; omega)) ?_ | refine g_c (by assumption) ?_ | refine g_o (op_lenM rfl rfl rfl (ev_ok rfl) (tgt rfl) rfl) ?_ | refine g_o (op_loadA rfl (ev_ok rfl) (tgt rfl) rfl (Nat.succ_ne_zero _) rfl) ?_ | refine g_o (op_indexN (α := List Rat) (d := []) rfl (ev_ok rfl) (ev_ok rfl) (tgt rfl) rfl (tgt rfl) rfl (by omega)) ?_ | refine g_o (op_fieldA rfl (ev_ok rfl) (tgt rfl) rfl rfl (Nat.succ_ne_zero _) rfl) ?_ | rw [t1] | rw [t3] | rw [hxe] | rw [e2] | rw [t2] | rw [Nat.zero_add]); conv => whnf))
      exact ⟨r - (0 + 1), fun k => k, [1, 3, 4], [], by omega, by kernel_rfl, 0 + 1, rfl, hlt, rfl, rfl⟩
  · have t1 : decide ((i : Int) < ((rowsL r c a).length : Int)) = false := by rw [la]; exact dge hlt
    obtain rfl : i = r := by omega
    rw [List.take_of_length_le (by omega)]
    (repeat ((first | refine step_w2 rfl rfl ?_ | refine g_o (op_lenM rfl rfl rfl (ev_ok rfl) (tgt rfl) rfl) ?_ | refine g_o (op_loadA rfl (ev_ok rfl) (tgt rfl) rfl (Nat.succ_ne_zero _) rfl) ?_ | refine g_o (op_fieldA rfl (ev_ok rfl) (tgt rfl) rfl rfl (Nat.succ_ne_zero _) rfl) ?_ | rw [t1]); conv => whnf)); (first | exact Recast.refl _ | exact Frz.recast (Recast.refl _) rfl | (refine Frz.one rfl rfl ?_; skip) | (refine Frz.tup ?_; skip))
end Go.Proofs.YtkpfineikahgfaaGreatDoor

namespace Go.Proofs.YtkpfineikahgfaaGreatDoor
open Go.Sx
set_option linter.unusedSimpArgs false
set_option linter.unusedVariables false
set_option maxRecDepth 100000
set_option maxHeartbeats 4000000

abbrev m4 : List Rat := ofInts [1, 2, 3, 4]
end Go.Proofs.YtkpfineikahgfaaGreatDoor

namespace Go.Proofs.YtkpfineikahgfaaGreatDoor
open Go.Sx
set_option linter.unusedSimpArgs false
set_option linter.unusedVariables false
set_option maxRecDepth 100000
set_option maxHeartbeats 8000000

end Go.Proofs.YtkpfineikahgfaaGreatDoor

namespace Go.Proofs.YtkpfineikahgfaaGreatDoor
open Go.Sx
set_option linter.unusedSimpArgs false
set_option linter.unusedVariables false
set_option maxRecDepth 100000
set_option maxHeartbeats 8000000

end Go.Proofs.YtkpfineikahgfaaGreatDoor

namespace Go.Proofs.YtkpfineikahgfaaGreatDoor
open Go.Sx
set_option linter.unusedSimpArgs false
set_option linter.unusedVariables false
set_option maxRecDepth 100000
set_option maxHeartbeats 8000000

end Go.Proofs.YtkpfineikahgfaaGreatDoor

namespace Go.Proofs.YtkpfineikahgfaaGreatDoor
open Go.Sx
set_option linter.unusedSimpArgs false
set_option linter.unusedVariables false
set_option maxRecDepth 100000
set_option maxHeartbeats 8000000

end Go.Proofs.YtkpfineikahgfaaGreatDoor

namespace Go.Proofs.YtkpfineikahgfaaGreatDoor
open Go.Sx
set_option linter.unusedSimpArgs false
set_option linter.unusedVariables false
set_option maxRecDepth 100000
set_option maxHeartbeats 40000000

end Go.Proofs.YtkpfineikahgfaaGreatDoor

namespace Go.Sx
set_option linter.unusedSimpArgs false
set_option linter.unusedVariables false
section
variable {P : Program} {o : Oper} {ft : List (Nat × SV)} {fk : List (Nat × Blk)}
end
end Go.Sx
namespace Go.Proofs.YtkpfineikahgfaaGreatDoor
open Go.Sx
set_option linter.unusedSimpArgs false
set_option linter.unusedVariables false
set_option maxRecDepth 100000
set_option maxHeartbeats 8000000

end Go.Proofs.YtkpfineikahgfaaGreatDoor

namespace Go.Proofs.YtkpfineikahgfaaGreatDoor
open Go.Sx
set_option linter.unusedSimpArgs false
set_option linter.unusedVariables false
set_option maxRecDepth 100000
set_option maxHeartbeats 40000000

/-- An index reduced. -/
def plF (n : Nat) (p : Int) : Int := p % (n : Int)
/-- The indices below n, and the given ones reduced. -/
def places (l : List Int) (n : Nat) (b : Bool) : List Int := (if b then (List.range n).map (fun i => ((i : Nat) : Int)) else []) ++ (if n = 0 then [] else l.map (plF n))
abbrev iblkM (l : List Int) : Blk := ⟨3, true, .ints .i64 l⟩
theorem app_int {l : List Int} {x : Int} : iblkM (l ++ [x]) = ⟨3, true, .ints .i64 (List.take l.length l ++ List.take 1 (List.drop 0 [x]))⟩ := by
  rw [iblkM, List.take_of_length_le (Nat.le_refl _)]; rfl
end Go.Proofs.YtkpfineikahgfaaGreatDoor

namespace Go.Proofs.YtkpfineikahgfaaGreatDoor
open Go.Sx
set_option linter.unusedSimpArgs false
set_option linter.unusedVariables false
set_option maxRecDepth 100000
set_option maxHeartbeats 4000000

theorem SWx_freezeI {E : Env} (t k : Nat) {c : Code} {K : Post'} {fr : List (Nat × SV)} {hp : List (Nat × Blk)} {ty : TypeId} {n : Nat} {kd : IntKind} {xs : List Int} (hW : ∀ b, ¬ E.W0 b) (ht : lk fr t = some (.slc k 1 0 n)) (hk : find hp k = some ⟨ty, true, .ints kd xs⟩)
    (hn : n = xs.length) (hs : SWx E c K ((t, ivec kd xs) :: fr) (setB hp k ⟨ty, true, .dead⟩)) : SWx E c K fr hp := by
  refine SWx_freeze t k (xs := xs.map (iel kd)) hW ht hk rfl rfl (keylessL_map (fun _ => rfl) xs) (by simp; omega) ?_
  rw [cutL_all (by simp; omega)]
  exact hs
end Go.Proofs.YtkpfineikahgfaaGreatDoor

namespace Go.Proofs.YtkpfineikahgfaaGreatDoor
open Go.Sx
set_option linter.unusedSimpArgs false
set_option linter.unusedVariables false
set_option maxRecDepth 100000
set_option maxHeartbeats 40000000

/-- The size of a sum over permutations. -/
def pS (n B : Nat) : Nat → Nat
  | 0 => 2
  | m + 1 => 2 + n * (B + pS n B m)
theorem pS_mono {n B : Nat} (hn : n ≤ 5) (hB : B ≤ 1000) : ∀ m, pS n B m ≤ pS 5 1000 m
  | 0 => Nat.le_refl _
  | m + 1 => Nat.add_le_add_left (Nat.mul_le_mul hn (Nat.add_le_add hB (pS_mono hn hB m))) 2
theorem pS_top {n B m : Nat} (hn : n ≤ 5) (hB : B ≤ 1000) (hm : m ≤ 5) : pS n B m ≤ 3912812 := by
  refine Nat.le_trans (pS_mono hn hB m) ?_
  obtain rfl | rfl | rfl | rfl | rfl | rfl : m = 0 ∨ m = 1 ∨ m = 2 ∨ m = 3 ∨ m = 4 ∨ m = 5 := by omega
  all_goals decide
theorem fs_sg (t : Nat) (x : Rat) : fs (sg t * x) = fs x := by
  induction t with
  | zero => rw [sg]; congr 1; grind
  | succ t ih => rw [sg, show -sg t * x = -(sg t * x) by grind, fs_neg, ih]
theorem term_fs {n B S i : Nat} {a : List Rat} (ha : a.length = n * n) (sa : Sm B a) (hi : i < n) (k : Nat) (l : List Nat) (hk : k < n) {D : Rat} (hD : fs D ≤ S) : fs (if k ∈ l then 0 else sg (turns l k) * el a n i k * D) ≤ B + S := by
  split
  · rw [fs_zero]
    have := fs_two D
    omega
  · have h1 := el_sm sa ha hi hk
    have h3 := fs_mul (el a n i k) D
    rw [Rat.mul_assoc, fs_sg]; omega
theorem picks_fs {n B : Nat} {a : List Rat} (ha : a.length = n * n) (sa : Sm B a) : ∀ (m i : Nat) (l : List Nat), i + m = n → fs (picksR n (el a n) m i l) ≤ pS n B m
  | 0, _, _, _ => Nat.le_of_eq fs_one
  | m + 1, i, l, h => by
    rw [picksR, pS]
    exact sum_fs (B := B + pS n B m) n fun k hk => term_fs ha sa (by omega) k l hk (picks_fs ha sa m (i + 1) (l ++ [k]) (by omega))
abbrev castL (l : List Nat) : List Int := l.map fun u : Nat => (u : Int)
theorem castL_at {l : List Nat} {u : Nat} (hu : u < l.length) : (castL l).getD u 0 = (l.getD u 0 : Nat) := by
  simp [List.getD_eq_getElem?_getD, hu]
theorem castL_len (l : List Nat) : (castL l).length = l.length := List.length_map _
theorem mem_take {l : List Nat} {u k : Nat} (hu : u < l.length) : k ∈ l.take (u + 1) ↔ k ∈ l.take u ∨ l.getD u 0 = k := by
  have e : l.getD u 0 = l[u] := by rw [List.getD_eq_getElem?_getD, List.getElem?_eq_getElem hu]; rfl
  rw [e, List.take_add_one, List.getElem?_eq_getElem hu, List.mem_append, Option.toList_some, List.mem_singleton, eq_comm (a := k)]
theorem turns_take {l : List Nat} {u : Nat} (k : Nat) (hu : u < l.length) : turns (l.take (u + 1)) k = turns (l.take u) k + if k < l.getD u 0 then 1 else 0 := by
  rw [List.take_add_one, List.getD_eq_getElem?_getD, List.getElem?_eq_getElem hu]
  exact turns_snoc _ _ _
theorem turns_le (l : List Nat) (k : Nat) : turns l k ≤ l.length := List.countP_le_length
theorem r_picks {n B : Nat} {a : List Rat} (ha : a.length = n * n) (sa : Sm B a) (hn : n ≤ 5) (hB : B ≤ 1000) : ∀ (m i : Nat) (l : List Nat), i + m = n → l.length ≤ i → (∀ u, u < l.length → l.getD u 0 < n) →
    CallOK Tryz.prog 202 [mvec 1 fFs (rowsL n n a), iv i, ivec .i64 (castL l)] [] (fF (picksR n (el a n) m i l)) [] []
  | 0, i, l, h, hl, hv => by
    obtain rfl : i = n := by omega
    have k1 := r3_Int 1 (by decide) (by decide)
    have t1 : ((i : Int) == ((rowsL i i a).length : Int)) = true := by rw [rowsL_len]; exact beq_self_eq_true _
    rw [show picksR i (el a i) 0 i l = ((1 : Int) : Rat) from rfl]
    refine callF (Z := []) tabOK mixedOK Tryz.func202 rfl (by kernel_rfl) (by first | rfl | (simp [keylessL, keyless, keylessL_map, *]; done)) (by first | rfl | (simp [keylessL, keyless, keylessL_map, *]; done)) (by kernel_rfl) rfl ?_
    intro w0 ρ0 hE
    conv => whnf
    (repeat (first | (refine g_c (by assumption) ?_; conv => whnf) | (refine tst_tt t1 ?_; conv => whnf) | (refine g_o (op_lenM rfl rfl rfl (ev_ok rfl) (tgt rfl) rfl) ?_; conv => whnf))); (first | exact Recast.refl _ | exact Frz.recast (Recast.refl _) rfl | (refine Frz.one rfl rfl ?_; skip) | (refine Frz.tup ?_; skip))
  | m + 1, i, l, h, hl, hv => by
    have lr := rowsL_len n n a
    have t1 : ((i : Int) == ((rowsL n n a).length : Int)) = false := by rw [lr]; exact beq_eq_false_iff_ne.2 (by omega)
    have k1 := r3_Int 0 (by decide) (by decide)
    have hin : i < n := by omega
    have hg := rowsL_get (c := n) (a := a) hin
    have hcl := castL_len l
    have hST := pS_top (n := n) (B := B) (m := m + 1) hn hB (by omega)
    have hSM := pS_top (n := n) (B := B) (m := m) hn hB (by omega)
    generalize hG : (fun k => if k ∈ l then 0 else sg (turns l k) * el a n i k * picksR n (el a n) m (i + 1) (l ++ [k])) = G
    have hfG : ∀ k, k ≤ n → fs (sumR k G) ≤ 2 + k * (B + pS n B m) := fun k hk => sum_fs k fun q hq => by
      rw [← hG]
      exact term_fs ha sa hin q l (by omega) (picks_fs ha sa m (i + 1) (l ++ [q]) (by omega))
    have hGs : picksR n (el a n) (m + 1) i l = sumR n G := by rw [← hG]; rfl
    rw [hGs]
    refine callF (Z := [100017, 100018]) tabOK mixedOK Tryz.func202 rfl (by kernel_rfl) (by first | rfl | (simp [keylessL, keyless, keylessL_map, *]; done)) (by first | rfl | (simp [keylessL, keyless, keylessL_map, *]; done)) (by kernel_rfl) rfl ?_
    intro w0 ρ0 hE
    conv => whnf
    (repeat ((first | refine g_c (by assumption) ?_ | refine tst_ff t1 ?_ | refine g_o (op_lenM rfl rfl rfl (ev_ok rfl) (tgt rfl) rfl) ?_ | rw [t1]); conv => whnf))
    refine SW_loopN hE (fun k => k) [0, 1, 2, 6, 7, 8] [6, 7] (fun M fr hp => ∃ k : Nat, M = n - k ∧ k ≤ n ∧
      fr = [(0, mvec 1 fFs (rowsL n n a)), (1, iv i), (2, ivec .i64 (castL l)), (6, .ptr 6 0 0 0), (7, .ptr 7 0 0 0), (8, iv (k : Nat))] ∧
      hp = [(6, zblkF), (7, oblkF (sumR k G))]) n ?_ ?_ ?_
    · kernel_rfl
    · exact ⟨0, rfl, Nat.zero_le _, rfl, rfl⟩
    clear k1
    rintro M _ _ ⟨k, rfl, hk, rfl, rfl⟩
    conv => whnf
    by_cases hlt : k < n
    · have t2 := dlt (show k < (rowsL n n a).length by omega)
      have t9 := winc (i := k) (by omega)
      (repeat (first | (refine tst_tt t2 ?_; conv => whnf) | (refine g_o (op_lenM rfl rfl rfl (ev_ok rfl) (tgt rfl) rfl) ?_; conv => whnf) | (rw [t2]; conv => whnf)))
      refine SW_loopN hE (fun k => k) [0, 1, 2, 6, 7, 8, 9, 10, 11] [6, 7] (fun M fr hp => ∃ (u : Nat) (al : Bool), M = l.length - u ∧ u ≤ l.length ∧ al = !decide (k ∈ l.take u) ∧
        fr = [(0, mvec 1 fFs (rowsL n n a)), (1, iv i), (2, ivec .i64 (castL l)), (6, .ptr 6 0 0 0), (7, .ptr 7 0 0 0), (8, iv (k : Nat)), (9, iv (turns (l.take u) k : Nat)), (10, .val (.bool al)), (11, iv (u : Nat))] ∧
        hp = [(6, zblkF), (7, oblkF (sumR k G))]) l.length ?_ ?_ ?_
      · kernel_rfl
      · exact ⟨0, true, rfl, Nat.zero_le _, by simp, rfl, rfl⟩
      rintro M _ _ ⟨u, al, rfl, hu, hal, rfl, rfl⟩
      conv => whnf
      by_cases hul : u < l.length
      · have t3 := dlt (show u < (castL l).length by omega)
        have t4 := winc (i := u) (by omega)
        have g1 := castL_at hul
        have htl := turns_le (l.take u) k
        have hlt2 : (l.take u).length ≤ u := by rw [List.length_take]; omega
        have t5 := winc (i := turns (l.take u) k) (by omega)
        have hmt := mem_take (k := k) hul
        have htt := turns_take k hul
        have hx : u < (castL l).length := by omega
        generalize l.getD u 0 = y at *
        have e1 : ((y : Int) != (k : Int)) = !decide (y = k) := by
          by_cases h : y = k
          · rw [h, decide_eq_true rfl]; exact bne_self_eq_false _
          · rw [decide_eq_false h]; exact bne_iff_ne.2 (by omega)
        have hal' : (al && !decide (y = k)) = !decide (k ∈ l.take (u + 1)) := by
          rw [hal, decide_eq_decide.2 hmt, Bool.decide_or]
          cases decide (k ∈ l.take u) <;> cases decide (y = k) <;> rfl
        rw [← e1] at hal'
        by_cases hgt : k < y
        · have t6 : decide ((y : Int) > (k : Int)) = true := decide_eq_true (by omega)
          rw [if_pos hgt] at htt
          rw [htt.symm] at t5
          cases al
          · (repeat ((first | refine step_w2 rfl rfl ?_ | refine g_o (op_pickF rfl (ev_ok rfl) (ev_ok rfl)) ?_ | refine tst_tt t3 ?_ | refine tst_tt t6 ?_ | refine g_o (op_lenM rfl rfl rfl (ev_ok rfl) (tgt rfl) rfl) ?_ | refine g_o (op_loadA rfl (ev_ok rfl) (tgt rfl) rfl (Nat.succ_ne_zero _) rfl) ?_ | refine g_o (op_indexN (α := Int) (d := 0) rfl (ev_ok rfl) (ev_ok rfl) (tgt rfl) rfl (tgt rfl) rfl (by omega)) ?_ | rw [t3] | rw [g1] | rw [t6] | rw [t5] | rw [t4]); conv => whnf))
            exact ⟨l.length - (u + 1), fun k => k, [0, 1, 2, 6, 7, 8, 9, 10, 11], [6, 7], by omega, by kernel_rfl, u + 1, false, rfl, hul, hal', rfl, rfl⟩
          · (repeat ((first | refine step_w1 rfl rfl ?_ | refine g_o (op_pickT rfl (ev_ok rfl) (ev_ok rfl)) ?_ | refine tst_tt t3 ?_ | refine tst_tt t6 ?_ | refine g_o (op_lenM rfl rfl rfl (ev_ok rfl) (tgt rfl) rfl) ?_ | refine g_o (op_loadA rfl (ev_ok rfl) (tgt rfl) rfl (Nat.succ_ne_zero _) rfl) ?_ | refine g_o (op_indexN (α := Int) (d := 0) rfl (ev_ok rfl) (ev_ok rfl) (tgt rfl) rfl (tgt rfl) rfl (by omega)) ?_ | rw [t3] | rw [g1] | rw [t6] | rw [t5] | rw [t4]); conv => whnf))
            exact ⟨l.length - (u + 1), fun k => k, [0, 1, 2, 6, 7, 8, 9, 10, 11], [6, 7], by omega, by kernel_rfl, u + 1, _, rfl, hul, hal', rfl, rfl⟩
        · have t6 : decide ((y : Int) > (k : Int)) = false := decide_eq_false (by omega)
          rw [if_neg hgt, Nat.add_zero] at htt
          cases al
          · (repeat ((first | refine step_w2 rfl rfl ?_ | refine g_o (op_pickF rfl (ev_ok rfl) (ev_ok rfl)) ?_ | refine tst_tt t3 ?_ | refine tst_ff t6 ?_ | refine g_o (op_lenM rfl rfl rfl (ev_ok rfl) (tgt rfl) rfl) ?_ | refine g_o (op_loadA rfl (ev_ok rfl) (tgt rfl) rfl (Nat.succ_ne_zero _) rfl) ?_ | refine g_o (op_indexN (α := Int) (d := 0) rfl (ev_ok rfl) (ev_ok rfl) (tgt rfl) rfl (tgt rfl) rfl (by omega)) ?_ | rw [t3] | rw [g1] | rw [t6] | rw [t4]); conv => whnf))
            exact ⟨l.length - (u + 1), fun k => k, [0, 1, 2, 6, 7, 8, 9, 10, 11], [6, 7], by omega, by kernel_rfl, u + 1, false, rfl, hul, hal', by rw [htt]; rfl, rfl⟩
          · (repeat ((first | refine step_w1 rfl rfl ?_ | refine g_o (op_pickT rfl (ev_ok rfl) (ev_ok rfl)) ?_ | refine tst_tt t3 ?_ | refine tst_ff t6 ?_ | refine g_o (op_lenM rfl rfl rfl (ev_ok rfl) (tgt rfl) rfl) ?_ | refine g_o (op_loadA rfl (ev_ok rfl) (tgt rfl) rfl (Nat.succ_ne_zero _) rfl) ?_ | refine g_o (op_indexN (α := Int) (d := 0) rfl (ev_ok rfl) (ev_ok rfl) (tgt rfl) rfl (tgt rfl) rfl (by omega)) ?_ | rw [t3] | rw [g1] | rw [t6] | rw [t4]); conv => whnf))
            exact ⟨l.length - (u + 1), fun k => k, [0, 1, 2, 6, 7, 8, 9, 10, 11], [6, 7], by omega, by kernel_rfl, u + 1, _, rfl, hul, hal', by rw [htt]; rfl, rfl⟩
      · have t3 := dge (show ¬ u < (castL l).length by omega)
        rw [List.take_of_length_le (by omega)] at *
        by_cases hm : k ∈ l
        · rw [decide_eq_true hm] at hal
          subst hal
          (repeat ((first | refine step_w1 rfl rfl ?_ | refine step_w2 rfl rfl ?_ | refine g_o (op_pickT rfl (ev_ok rfl) (ev_ok rfl)) ?_ | refine tst_ff t3 ?_ | refine g_o (op_lenM rfl rfl rfl (ev_ok rfl) (tgt rfl) rfl) ?_ | rw [t3] | rw [t9]); conv => whnf))
          refine ⟨n - (k + 1), fun k => k, [0, 1, 2, 6, 7, 8], [6, 7], by omega, by kernel_rfl, k + 1, rfl, hlt, rfl, ?_⟩
          rw [sumR, ← hG]
          show _ = [(6, zblkF), (7, oblkF (sumR k _ + if k ∈ l then 0 else sg (turns l k) * el a n i k * _))]
          rw [if_pos hm, Rat.add_zero]
          rfl
        · rw [decide_eq_false hm] at hal
          subst hal
          have hx : i < (rowsL n n a).length := by omega
          have hy : k < ((rowsL n n a).getD i []).length := by rw [hg, rowL_len hin ha]; exact hlt
          have ee : ((rowsL n n a).getD i []).getD k 0 = el a n i k := by rw [hg]; exact rowL_get hlt
          have fe : fs (el a n i k) ≤ B := el_sm sa ha hin hlt
          rw [← ee] at fe
          have ks := r3_Sign (((rowsL n n a).getD i []).getD k 0) (by have := tl_fs (q := ((rowsL n n a).getD i []).getD k 0) (Nat.le_refl _); omega)
          by_cases hz : ((rowsL n n a).getD i []).getD k 0 = 0
          · have t7 : ((((rowsL n n a).getD i []).getD k 0).num.sign == 0) = true := by rw [hz]; rfl
            (repeat ((first | refine step_w1 rfl rfl ?_ | refine g_c (by assumption) ?_ | refine g_o (op_pickF rfl (ev_ok rfl) (ev_ok rfl)) ?_ | refine tst_ff t3 ?_ | refine tst_tt t7 ?_ | refine g_o (op_lenM rfl rfl rfl (ev_ok rfl) (tgt rfl) rfl) ?_ | refine g_o (op_indexN (α := Rat) (d := 0) rfl (ev_ok rfl) (ev_ok rfl) (tgt rfl) rfl (tgt rfl) rfl (by omega)) ?_ | refine g_o (op_loadA rfl (ev_ok rfl) (tgt rfl) rfl (Nat.succ_ne_zero _) rfl) ?_ | refine g_o (op_indexN (α := List Rat) (d := []) rfl (ev_ok rfl) (ev_ok rfl) (tgt rfl) rfl (tgt rfl) rfl (by omega)) ?_ | rw [t3] | rw [t7] | rw [t9]); conv => whnf))
            refine ⟨n - (k + 1), fun k => k, [0, 1, 2, 6, 7, 8], [6, 7], by omega, by kernel_rfl, k + 1, rfl, hlt, rfl, ?_⟩
            rw [sumR, ← hG]
            show _ = [(6, zblkF), (7, oblkF (sumR k _ + if k ∈ l then 0 else sg (turns l k) * el a n i k * _))]
            rw [if_neg hm, ← ee, hz, Rat.mul_zero, Rat.zero_mul, Rat.add_zero]
            rfl
          · have t7 : ((((rowsL n n a).getD i []).getD k 0).num.sign == 0) = false := beq_eq_false_iff_ne.2 fun e => hz (Rat.num_eq_zero.1 (Int.sign_eq_zero_iff_zero.1 e))
            have hIH := r_picks ha sa hn hB m (i + 1) (l ++ [k]) (by omega) (by rw [List.length_append, List.length_singleton]; omega) (fun u hu => by
              rw [List.length_append, List.length_singleton] at hu
              by_cases g : u < l.length
              · rw [List.getD_eq_getElem?_getD, List.getElem?_append_left g, ← List.getD_eq_getElem?_getD]; exact hv u g
              · obtain rfl : u = l.length := by omega
                simp [List.getD_eq_getElem?_getD]; exact hlt)
            have hfs := picks_fs ha sa m (i + 1) (l ++ [k]) (by omega)
            have hGk : G k = sg (turns l k) * (((rowsL n n a).getD i []).getD k 0 * picksR n (el a n) m (i + 1) (l ++ [k])) := by
              rw [← hG, ee]
              show (if k ∈ l then 0 else sg (turns l k) * el a n i k * picksR n (el a n) m (i + 1) (l ++ [k])) = _
              rw [if_neg hm, Rat.mul_assoc]
            generalize picksR n (el a n) m (i + 1) (l ++ [k]) = D at *
            have fm := fs_mul (((rowsL n n a).getD i []).getD k 0) D
            have km := r3_Mul (((rowsL n n a).getD i []).getD k 0) D (by omega)
            have w1 := winc (i := i) (by omega)
            have hcs : castL (l ++ [k]) = castL l ++ [(k : Int)] := by simp
            have lq : (castL l).length = l.length := hcl
            (repeat ((first | refine step_w1 rfl rfl ?_ | refine g_c (by assumption) ?_ | refine g_o (op_pickF rfl (ev_ok rfl) (ev_ok rfl)) ?_ | refine tst_ff t3 ?_ | refine tst_ff t7 ?_ | refine g_o (op_lenM rfl rfl rfl (ev_ok rfl) (tgt rfl) rfl) ?_ | refine g_o (op_indexN (α := Rat) (d := 0) rfl (ev_ok rfl) (ev_ok rfl) (tgt rfl) rfl (tgt rfl) rfl (by omega)) ?_ | refine g_o (op_loadA rfl (ev_ok rfl) (tgt rfl) rfl (Nat.succ_ne_zero _) rfl) ?_ | refine g_o (op_indexN (α := List Rat) (d := []) rfl (ev_ok rfl) (ev_ok rfl) (tgt rfl) rfl (tgt rfl) rfl (by omega)) ?_ | rw [t3] | rw [t7]); conv => whnf))
            refine SWx_adopt (t := 12) (k := 2001) (s := 1) (blk := iblkM []) rfl rfl rfl ?_
            refine SWx_go hE ?_
            conv => whnf
            (repeat (first | (refine step_oA (by first | omega | decide | (simp only [tl0, dlen, List.length_replicate, List.length_set, List.length_map, List.length_zipWith, List.length_take, List.length_append, List.length_cons, List.length_nil]; omega)) ?_; conv => whnf) | (refine ⟨.slc 64 1 0 (0 + (castL l).length), [(2001, iblkM [])], [(64, iblkM (castL l))], [(2001, ⟨3, true, .dead⟩)], op_appendV rfl rfl rfl (ev_ok rfl) (ev_ok rfl) (rows_ints (castL l)) (tabOK.get (t := 62) rfl) rfl (tabOK.get (t := 62) rfl) rfl (tabOK.get (t := 3) rfl) (List.mem_cons_self ..) rfl rfl (by simp [dlen]) (by simp) (by simp [dlen]) (by simp [dapp]; exact List.take_of_length_le (by simp)) (by show (0 + _) * ti3.bytes ≤ _; simp only [tiB3]; omega) (by omega), one_fk rfl, one_new rfl, one_upd (List.mem_cons_self ..) rfl rfl rfl, ?_⟩; conv => whnf) | (rw [Nat.zero_add]; conv => whnf)))
            refine SWx_freezeI (xs := castL (l ++ [k])) 12 67 (fun _ h => h) rfl (show some (⟨3, true, .ints .i64 (List.take (castL l).length (castL l) ++ List.take 1 (List.drop 0 [(k : Int)]))⟩ : Blk) = some ⟨3, true, .ints .i64 (castL (l ++ [k]))⟩ by rw [hcs, List.take_of_length_le (Nat.le_refl _)]; rfl) (by rw [hcs, List.length_append, List.length_singleton]) ?_
            refine SWx_go hE ?_
            conv => whnf
            have htl := turns_le l k
            have e3 : ((turns l k : Nat) : Int).tmod 2 = ((turns l k : Nat) : Int) % 2 := Int.tmod_eq_emod_of_nonneg (Int.natCast_nonneg _)
            have hsum := hfG k hk
            have hkB : k * (B + pS n B m) ≤ n * (B + pS n B m) := Nat.mul_le_mul_right _ hk
            have hpS : pS n B (m + 1) = 2 + n * (B + pS n B m) := rfl
            have hsuc : sumR (k + 1) G = sumR k G + G k := rfl
            by_cases hodd : turns l k % 2 = 1
            · have t8 : (((turns l k : Nat) : Int).tmod 2 == 1) = true := by rw [e3]; exact beq_iff_eq.2 (by omega)
              have hsg : sg (turns l k) = -1 := by rw [← sgZ_cast, sgZ_mod, if_pos hodd]; rfl
              have kn := r3_Neg (((rowsL n n a).getD i []).getD k 0 * D) (by have := tl_fs (q := ((rowsL n n a).getD i []).getD k 0 * D) (Nat.le_refl _); omega)
              have ka := r3_Add (sumR k G) (-(((rowsL n n a).getD i []).getD k 0 * D)) (by rw [fs_neg]; omega)
              rw [hsg, show -1 * (((rowsL n n a).getD i []).getD k 0 * D) = -(((rowsL n n a).getD i []).getD k 0 * D) by grind] at hGk
              rw [show sumR k G + -(((rowsL n n a).getD i []).getD k 0 * D) = sumR (k + 1) G from by rw [hsuc, hGk]] at ka
              clear hsum hkB hpS hSM hST
              (repeat ((first | refine step_i (by kernel_rfl) ?_ | refine step_oN (by first | omega | decide | (simp only [tl0, dlen, List.length_replicate, List.length_set, List.length_map, List.length_zipWith, List.length_take, List.length_append, List.length_cons, List.length_nil]; omega)) ?_ | refine g_c (by assumption) ?_ | refine tst_tt t8 ?_ | refine g_o (op_indexN (α := Rat) (d := 0) rfl (ev_ok rfl) (ev_ok rfl) (tgt rfl) rfl (tgt rfl) rfl (by omega)) ?_ | refine g_o (op_loadA rfl (ev_ok rfl) (tgt rfl) rfl (Nat.succ_ne_zero _) rfl) ?_ | refine g_o (op_indexN (α := List Rat) (d := []) rfl (ev_ok rfl) (ev_ok rfl) (tgt rfl) rfl (tgt rfl) rfl (by omega)) ?_ | rw [w1] | rw [t8] | rw [t9]); conv => whnf))
              exact ⟨n - (k + 1), fun k => k, [0, 1, 2, 6, 7, 8], [6, 7], by omega, by kernel_rfl, k + 1, rfl, hlt, rfl, rfl⟩
            · have t8 : (((turns l k : Nat) : Int).tmod 2 == 1) = false := by rw [e3]; exact beq_eq_false_iff_ne.2 (by omega)
              have hsg : sg (turns l k) = 1 := by rw [← sgZ_cast, sgZ_mod, if_neg hodd]; rfl
              have ka := r3_Add (sumR k G) (((rowsL n n a).getD i []).getD k 0 * D) (by omega)
              rw [hsg, show 1 * (((rowsL n n a).getD i []).getD k 0 * D) = ((rowsL n n a).getD i []).getD k 0 * D by grind] at hGk
              rw [show sumR k G + ((rowsL n n a).getD i []).getD k 0 * D = sumR (k + 1) G from by rw [hsuc, hGk]] at ka
              clear hsum hkB hpS hSM hST
              (repeat ((first | refine step_i (by kernel_rfl) ?_ | refine step_oN (by first | omega | decide | (simp only [tl0, dlen, List.length_replicate, List.length_set, List.length_map, List.length_zipWith, List.length_take, List.length_append, List.length_cons, List.length_nil]; omega)) ?_ | refine g_c (by assumption) ?_ | refine tst_ff t8 ?_ | refine g_o (op_indexN (α := Rat) (d := 0) rfl (ev_ok rfl) (ev_ok rfl) (tgt rfl) rfl (tgt rfl) rfl (by omega)) ?_ | refine g_o (op_loadA rfl (ev_ok rfl) (tgt rfl) rfl (Nat.succ_ne_zero _) rfl) ?_ | refine g_o (op_indexN (α := List Rat) (d := []) rfl (ev_ok rfl) (ev_ok rfl) (tgt rfl) rfl (tgt rfl) rfl (by omega)) ?_ | rw [w1] | rw [t8] | rw [t9]); conv => whnf))
              exact ⟨n - (k + 1), fun k => k, [0, 1, 2, 6, 7, 8], [6, 7], by omega, by kernel_rfl, k + 1, rfl, hlt, rfl, rfl⟩
    · have t2 := dge (show ¬ k < (rowsL n n a).length by omega)
      obtain rfl : k = n := by omega
      (repeat (first | (refine tst_ff t2 ?_; conv => whnf) | (refine g_o (op_lenM rfl rfl rfl (ev_ok rfl) (tgt rfl) rfl) ?_; conv => whnf)))
      (first | exact Recast.refl _ | exact Frz.recast (Recast.refl _) rfl | (refine Frz.one rfl rfl ?_; skip) | (refine Frz.tup ?_; skip))
theorem r_Det {n B : Nat} {a : List Rat} (ha : a.length = n * n) (sa : Sm B a) (hn : n ≤ 5) (hB : B ≤ 1000) : CallOK Tryz.prog 114 [mvec 1 fFs (rowsL n n a)] [] (fF (det n (el a n))) [] [] := by
  have k1 := (r_picks ha sa hn hB n 0 [] (Nat.zero_add n) (Nat.le_refl _) (fun u hu => by simp at hu)).wk (args := [mvec 1 fFs (rowsL n n a), iv 0, .val (.slice none 0 0)]) (by repeat (first | exact WkL.nil | refine WkL.cons ?_ ?_ | exact Wk.nil | exact Wk.refl | refine Wk.agg ?_))
  rw [picks_det] at k1
  refine callV (Z := []) tabOK mixedOK Tryz.func114 rfl (by kernel_rfl) rfl rfl (by kernel_rfl) rfl ?_
  intro W0 w0 ρ0 hE
  conv => whnf
  (repeat (first | (refine g_c (by assumption) ?_; conv => whnf))); (first | exact Recast.refl _ | exact Frz.recast (Recast.refl _) rfl | (refine Frz.one rfl rfl ?_; skip) | (refine Frz.tup ?_; skip))
end Go.Proofs.YtkpfineikahgfaaGreatDoor

namespace Go.Proofs.YtkpfineikahgfaaGreatDoor
open Go.Sx
set_option linter.unusedSimpArgs false
set_option linter.unusedVariables false
set_option maxRecDepth 100000
set_option maxHeartbeats 4000000
variable {M : Nat}

theorem c_fFrom (ok : NatOK M) (n : Int) (d : Nat) (h1 : sz n.natAbs ≤ M) (h2 : sz d ≤ M) (hd : d ≠ 0) : CallOK Tryz.prog 113 [.int n, .nat d] [] (.tup [.frac (mkRat n d), .val (.int .i64 0)]) [] [] := by
  have k1 := c_lowest ok n d h1 h2 hd
  refine callV (Z := []) tabOK mixedOK Tryz.func113 rfl (by kernel_rfl) rfl rfl (by kernel_rfl) rfl ?_
  intro W0 w0 ρ0 hE
  conv => whnf
  skip
  refine ⟨_, op_eqAgg tabOK goodOK rfl (ev_ok rfl) (ev_ok rfl) rfl rfl rfl rfl (eqTy_nat d 0) guard_nat, ?_⟩
  rw [decide_eq_false hd]
  conv => whnf
  (repeat (first | (refine step_w2 rfl rfl ?_; conv => whnf) | (refine g_c (by assumption) ?_; conv => whnf))); exact Recast.refl _
/-- Few words. -/
structure Words (M : Nat) (xs : List Int) : Prop where
  w32 : W32 xs
  len : xs.length < 1099511627776
  fit : 32 * xs.length + 33 ≤ M

end Go.Proofs.YtkpfineikahgfaaGreatDoor

namespace Go.Proofs.YtkpfineikahgfaaGreatDoor
open Go.Sx
set_option linter.unusedSimpArgs false
set_option linter.unusedVariables false
set_option maxRecDepth 100000
set_option maxHeartbeats 4000000

/-- An integer's size. -/
def zs (z : Int) : Nat := sz z.natAbs + 1
theorem zs_add (a b : Int) : zs (a + b) ≤ zs a + zs b := by
  have := sz_add (a := a.natAbs) (b := b.natAbs) (k := max (sz a.natAbs) (sz b.natAbs)) (by omega) (by omega)
  have := sz_mono (Int.natAbs_add_le a b)
  unfold zs; omega
theorem zs_neg (a : Int) : zs (-a) = zs a := by unfold zs; rw [Int.natAbs_neg]
theorem zs_sub (a b : Int) : zs (a - b) ≤ zs a + zs b := by rw [Int.sub_eq_add_neg, ← zs_neg b]; exact zs_add _ _
theorem zs_mul (a b : Int) : zs (a * b) ≤ zs a + zs b := by
  have := sz_mul a.natAbs b.natAbs
  unfold zs; rw [Int.natAbs_mul]; omega
theorem zs_div (a b : Int) : zs (a / b) ≤ zs a := by
  have := sz_mono (Int.natAbs_ediv_le_natAbs a b)
  unfold zs; omega
theorem zs_zero : zs 0 = 1 := rfl
theorem zs_1 : zs 1 = 2 := by decide +kernel
theorem zs_i64 {n : Int} (h0 : -9223372036854775808 ≤ n) (h1 : n < 9223372036854775808) : zs n ≤ 65 := by
  have := sz_i64 h0 h1; unfold zs; omega
theorem zs_abs (z : Int) : zs (z.natAbs : Int) = zs z := by unfold zs; rw [Int.natAbs_natCast]
theorem fs_zs (z : Int) : fs (z : Rat) ≤ zs z + 1 := by
  have := fsz_int (n := z) (k := sz z.natAbs + 1) (by omega) (by omega)
  unfold fs zs; omega
theorem zz_Add (a b : Int) (h : zs a + zs b ≤ 1073741824) : CallOK Tryz.prog 37 [.int a, .int b] [] (.int (a + b)) [] [] := c_iAdd natBig a b (by unfold zs at h; omega) (by unfold zs at h; omega)
theorem zz_Sub (a b : Int) (h : zs a + zs b ≤ 1073741824) : CallOK Tryz.prog 179 [.int a, .int b] [] (.int (a - b)) [] [] := c_iSub natBig a b (by unfold zs at h; omega) (by unfold zs at h; omega)
theorem zz_Mul (a b : Int) (h : zs a + zs b ≤ 1073741824) : CallOK Tryz.prog 40 [.int a, .int b] [] (.int (a * b)) [] [] := c_iMul natBig a b (by unfold zs at h; omega)
/-- The third result tells whether there is one. -/
theorem zz_Div (a b : Int) (h : zs a + zs b ≤ 1073741824) : ∃ r ok, CallOK Tryz.prog 191 [.int a, .int b] [] (.tup [.int (a / b), .int r, .val (.bool ok)]) [] [] := by
  by_cases h0 : b = 0
  · subst h0; rw [Int.ediv_zero]; exact ⟨_, _, c_iDivZ natBig a⟩
  · exact ⟨_, _, c_iDiv natBig a b (by unfold zs at h; omega) (by unfold zs at h; omega) h0⟩

abbrev zvec (l : List Int) : SV := mvec 3 .int l
abbrev wA (r c : Int) (a : List Int) : SV := .agg [iv r, iv c, zvec a]
abbrev wC (r c : Int) (a : List Int) : List SV := [iv r, iv c, zvec a]
def mkz (r c : Nat) (f : Mz) : List Int := (List.range (r * c)).map fun p => f (p / c) (p % c)
abbrev elz (a : List Int) (c i k : Nat) : Int := a.getD (i * c + k) 0
theorem mkz_len (r c : Nat) (f : Mz) : (mkz r c f).length = r * c := by simp [mkz]
theorem mkz_at {r c : Nat} {f : Mz} {p : Nat} (hp : p < r * c) : (mkz r c f).getD p 0 = f (p / c) (p % c) := by
  simp [mkz, List.getD_eq_getElem?_getD, hp]
theorem mkz_el {r c i k : Nat} {f : Mz} (hi : i < r) (hk : k < c) : elz (mkz r c f) c i k = f i k := by
  rw [elz, mkz_at (idx_lt hi hk), idx_div hk, idx_mod hk]
theorem zec_ext {a b : List Int} {n : Nat} (ha : a.length = n) (hb : b.length = n) (h : ∀ p, p < n → a.getD p 0 = b.getD p 0) : a = b := by
  refine List.ext_getElem (by omega) fun p h1 h2 => ?_
  have := h p (by omega)
  rwa [List.getD_eq_getElem?_getD, List.getD_eq_getElem?_getD, List.getElem?_eq_getElem h1, List.getElem?_eq_getElem h2] at this
theorem maz_ext {a b : List Int} {r c : Nat} (ha : a.length = r * c) (hb : b.length = r * c) (h : ∀ i k, i < r → k < c → elz a c i k = elz b c i k) : a = b := by
  refine zec_ext ha hb fun p hp => ?_
  obtain ⟨h1, h2, h3⟩ := idx_split hp
  have := h _ _ h1 h2
  rwa [elz, elz, h3] at this
theorem mkz_ext {a : List Int} {r c : Nat} {f : Mz} (ha : a.length = r * c) (h : ∀ i k, i < r → k < c → f i k = elz a c i k) : mkz r c f = a :=
  maz_ext (mkz_len ..) ha fun i k hi hk => by rw [mkz_el hi hk, h i k hi hk]
theorem mkz_congr {r c : Nat} {f g : Mz} (h : ∀ i k, i < r → k < c → f i k = g i k) : mkz r c f = mkz r c g :=
  mkz_ext (mkz_len ..) fun i k hi hk => by rw [mkz_el hi hk, h i k hi hk]
theorem mkz_self {a : List Int} {r c : Nat} (ha : a.length = r * c) : mkz r c (elz a c) = a := mkz_ext ha fun _ _ _ _ => rfl
/-- All elements are of a size. -/
def Zm (B : Nat) (l : List Int) : Prop := ∀ p, p < l.length → zs (l.getD p 0) ≤ B
theorem Zm_mk {r c B : Nat} {f : Mz} (h : ∀ i k, i < r → k < c → zs (f i k) ≤ B) : Zm B (mkz r c f) := by
  intro p hp
  rw [mkz_len] at hp
  obtain ⟨h1, h2, _⟩ := idx_split hp
  rw [mkz_at hp]; exact h _ _ h1 h2
theorem elz_zm {a : List Int} {r c B i k : Nat} (h : Zm B a) (ha : a.length = r * c) (hi : i < r) (hk : k < c) : zs (elz a c i k) ≤ B := h _ (by rw [ha]; exact idx_lt hi hk)
theorem Zm.mono {B C : Nat} {a : List Int} (h : Zm B a) (hBC : B ≤ C) : Zm C a := fun p hp => Nat.le_trans (h p hp) hBC
/-- A matrix of integers that fits. -/
structure OKZ (R C : Nat) (a : List Int) : Prop where
  r : R ≤ 2048
  c : C ≤ 2048
  n : a.length = R * C
theorem OKZ.mk' {r c : Nat} (hr : r ≤ 2048) (hc : c ≤ 2048) (f : Mz) : OKZ r c (mkz r c f) := ⟨hr, hc, mkz_len ..⟩

theorem b_frac (n : Int) (h : zs n ≤ 536870912) : CallOK Tryz.prog 126 [.int n] [] (.frac n) [] [] := by
  have k1 := c_nOf 1 (by decide)
  have k2 := c_fFrom natBig n 1 (by unfold zs at h; omega) (by rw [sz_one]; decide) (by decide)
  rw [Rat.mkRat_one] at k2
  refine callV (Z := []) tabOK mixedOK Tryz.func126 rfl (by kernel_rfl) rfl rfl (by kernel_rfl) rfl ?_
  intro W0 w0 ρ0 hE
  conv => whnf
  (repeat (first | (refine step_i (by kernel_rfl) ?_; conv => whnf) | (refine g_c (by assumption) ?_; conv => whnf))); (first | exact Recast.refl _ | exact Frz.recast (Recast.refl _) rfl | (refine Frz.one rfl rfl ?_; skip) | (refine Frz.tup ?_; skip))

abbrev zB3 (xs : List Int) : Blk := ⟨36, true, .seq 3 (xs.map .int)⟩
/-- A slice that is being filled. -/
abbrev zfil (l : List Int) (n i : Nat) : Blk := ⟨36, true, .seq 3 ((l.map SV.int).take i ++ List.replicate (n - i) (SV.int 0))⟩
theorem zfil_all {l : List Int} {n : Nat} (h : l.length = n) : zfil l n n = zB3 l := by
  rw [zfil, fill_all (by rw [List.length_map, h])]
theorem map_getD {α β : Type} {f : α → β} {l : List α} {i : Nat} {d : α} {e : β} (h : i < l.length) : (l.map f).getD i e = f (l.getD i d) := by
  simp [List.getD_eq_getElem?_getD, List.getElem?_eq_getElem h]
theorem zfil_set {l : List Int} {n i : Nat} (hi : i < n) (hn : l.length = n) : ((l.map SV.int).take i ++ List.replicate (n - i) (SV.int 0)).set i (.int (l.getD i 0)) = (l.map SV.int).take (i + 1) ++ List.replicate (n - (i + 1)) (SV.int 0) := by
  rw [← fill_set (e := SV.int 0) hi (by rw [List.length_map, hn]), map_getD (d := 0) (by omega)]
theorem zfil_len {l : List Int} {n i : Nat} (hi : i ≤ n) (hn : l.length = n) : ((l.map SV.int).take i ++ List.replicate (n - i) (SV.int 0)).length = n := fill_len hi (by rw [List.length_map, hn])

theorem zfil_get {l : List Int} {n i : Nat} (hi : i < n) (hn : l.length = n) : ((l.map SV.int).take i ++ List.replicate (n - i) (SV.int 0)).getD i SV.any = .int 0 := fill_get hi (by rw [List.length_map, hn])
theorem b_overF (l : List Int) (hl : l.length < 1099511627776) (h : ∀ i, i < l.length → zs (l.getD i 0) ≤ 536870912) : CallOK Tryz.prog 207 [zvec l, .clo 126 [] []] [] (fvec (ofInts l)) [] [] := by
  refine callF (Z := []) tabOK mixedOK Tryz.func207 rfl (by kernel_rfl) (by first | rfl | (simp [keylessL, keyless, keylessL_map, *]; done)) (by first | rfl | (simp [keylessL, keyless, keylessL_map, *]; done)) (by kernel_rfl) rfl ?_
  intro w0 ρ0 hE
  conv => whnf
  (repeat (first | (refine step_oA (by first | omega | decide | (simp only [tl0, dlen, List.length_replicate, List.length_set, List.length_map, List.length_zipWith, List.length_take, List.length_append, List.length_cons, List.length_nil]; omega)) ?_; conv => whnf) | (refine g_o (op_lenM rfl rfl rfl (ev_ok rfl) (tgt rfl) rfl) ?_; conv => whnf) | (rw [Int.toNat_natCast]; conv => whnf)))
  have hz : (ofInts l).length = l.length := by simp [ofInts]
  refine SW_loopN hE (fun k => k) [1, 4, 5, 11, 12, 13] [10] (fun m fr hp => ∃ i, m = l.length - i ∧ i ≤ l.length ∧ fr = [(1, .clo 126 [] []), (4, .val (.slice none 0 0)), (5, .slc 10 5 0 l.length), (11, zvec l), (12, iv (l.length : Nat)), (13, iv (i : Nat))] ∧
    hp = [(10, ⟨38, true, .fracs ((ofInts l).take i ++ List.replicate (l.length - i) 0)⟩)]) l.length ?_ ?_ ?_
  · kernel_rfl
  · exact ⟨0, rfl, Nat.zero_le _, rfl, rfl⟩
  rintro m _ _ ⟨i, rfl, hi, rfl, rfl⟩
  conv => whnf
  have hlen := fill_len (d := (0 : Rat)) hi hz
  by_cases hlt : i < l.length
  · have t1 := dlt hlt
    have t2 := winc (i := i) (by omega)
    have k1 := b_frac (l.getD i 0) (h i hlt)
    rw [← map_get (f := fun (n : Int) => ((n : Int) : Rat)) (e := 0) hlt] at k1
    (repeat ((first | refine step_w1 rfl rfl ?_ | refine step_oL (by first | omega | decide | (simp only [tl0, dlen, List.length_replicate, List.length_set, List.length_map, List.length_zipWith, List.length_take, List.length_append, List.length_cons, List.length_nil]; omega)) ?_ | refine step_oA (by first | omega | decide | (simp only [tl0, dlen, List.length_replicate, List.length_set, List.length_map, List.length_zipWith, List.length_take, List.length_append, List.length_cons, List.length_nil]; omega)) ?_ | refine g_c (by assumption) ?_ | refine g_o (op_loadA rfl (ev_ok rfl) (tgt rfl) rfl (Nat.succ_ne_zero _) rfl) ?_ | refine g_o (op_indexN (α := Int) (d := 0) rfl (ev_ok rfl) (ev_ok rfl) (tgt rfl) rfl (tgt rfl) rfl (by omega)) ?_ | rw [t1] | rw [t2] | rw [Int.toNat_natCast] | rw [Nat.zero_add]); conv => whnf))
    refine ⟨l.length - (i + 1), fun k => k, [1, 4, 5, 11, 12, 13], [10], by omega, by kernel_rfl, i + 1, rfl, hlt, rfl, ?_⟩
    rw [← fill_set (e := 0) hlt hz]
    rfl
  · have t1 := dge hlt
    have hI : i = l.length := by omega
    subst hI
    rw [fill_all hz]
    (repeat (first | (refine step_w2 rfl rfl ?_; conv => whnf) | (rw [t1]; conv => whnf))); (first | exact Recast.refl _ | exact Frz.recast (Recast.refl _) rfl | (refine Frz.one rfl rfl ?_; (repeat (first | (refine FrzC.fracs rfl ?_; (first | rfl | omega | (simp <;> fail) | (simp <;> omega)))))) | (refine Frz.tup ?_; skip))
theorem b_mat (r c : Int) (l : List Int) (hl : l.length < 1099511627776) (h : ∀ i, i < l.length → zs (l.getD i 0) ≤ 536870912) : CallOK Tryz.prog 124 [wA r c l] [] (mA r c (ofInts l)) [] [] := by
  have k1 := b_overF l hl h
  refine callV (Z := []) tabOK mixedOK Tryz.func124 rfl (by kernel_rfl) rfl rfl (by kernel_rfl) rfl ?_
  intro W0 w0 ρ0 hE
  conv => whnf
  (repeat (first | (refine step_i (by kernel_rfl) ?_; conv => whnf) | (refine g_c (by assumption) ?_; conv => whnf))); (first | exact Recast.refl _ | exact Frz.recast (Recast.refl _) rfl | (refine Frz.one rfl rfl ?_; skip) | (refine Frz.tup ?_; skip))
theorem b_Check (r c : Int) (l : List Int) (hl : l.length < 1099511627776) (h : ∀ i, i < l.length → zs (l.getD i 0) ≤ 536870912) : CallOK Tryz.prog 44 [wA r c l] [] (iv (checkF r c l.length)) [] [] := by
  have k1 := b_mat r c l hl h
  have k2 := m_Check r c (ofInts l) (by simp [ofInts]; exact hl)
  rw [show (ofInts l).length = l.length from by simp [ofInts]] at k2
  refine callV (Z := []) tabOK mixedOK Tryz.func44 rfl (by kernel_rfl) rfl rfl (by kernel_rfl) rfl ?_
  intro W0 w0 ρ0 hE
  conv => whnf
  (repeat (first | (refine g_c (by assumption) ?_; conv => whnf))); (first | exact Recast.refl _ | exact Frz.recast (Recast.refl _) rfl | (refine Frz.one rfl rfl ?_; skip) | (refine Frz.tup ?_; skip))
theorem b_square (r c : Int) (l : List Int) (hl : l.length < 1099511627776) (h : ∀ i, i < l.length → zs (l.getD i 0) ≤ 536870912) : CallOK Tryz.prog 100 [wA r c l] [] (iv (if checkF r c l.length = 0 then (if r = c then 0 else 1) else checkF r c l.length)) [] [] := by
  have k1 := b_Check r c l hl h
  by_cases hc : checkF r c l.length = 0
  · rw [if_pos hc]
    rw [hc] at k1
    by_cases hrc : r = c
    · have t2 : (r != c) = false := by rw [hrc]; exact bne_self_eq_false _
      rw [if_pos hrc]
      refine callV (Z := []) tabOK mixedOK Tryz.func100 rfl (by kernel_rfl) rfl rfl (by kernel_rfl) rfl ?_
      intro W0 w0 ρ0 hE
      conv => whnf
      (repeat ((first | refine step_w2 rfl rfl ?_ | refine g_c (by assumption) ?_ | rw [bne_self_eq_false] | rw [t2]); conv => whnf)); (first | exact Recast.refl _ | exact Frz.recast (Recast.refl _) rfl | (refine Frz.one rfl rfl ?_; skip) | (refine Frz.tup ?_; skip))
    · have t2 : (r != c) = true := bne_iff_ne.2 hrc
      rw [if_neg hrc]
      refine callV (Z := []) tabOK mixedOK Tryz.func100 rfl (by kernel_rfl) rfl rfl (by kernel_rfl) rfl ?_
      intro W0 w0 ρ0 hE
      conv => whnf
      (repeat ((first | refine step_w1 rfl rfl ?_ | refine step_w2 rfl rfl ?_ | refine g_c (by assumption) ?_ | rw [bne_self_eq_false] | rw [t2]); conv => whnf)); (first | exact Recast.refl _ | exact Frz.recast (Recast.refl _) rfl | (refine Frz.one rfl rfl ?_; skip) | (refine Frz.tup ?_; skip))
  · rw [if_neg hc]
    have t1 : (checkF r c l.length != 0) = true := bne_iff_ne.2 hc
    refine callV (Z := []) tabOK mixedOK Tryz.func100 rfl (by kernel_rfl) rfl rfl (by kernel_rfl) rfl ?_
    intro W0 w0 ρ0 hE
    conv => whnf
    (repeat (first | (refine step_w1 rfl rfl ?_; conv => whnf) | (refine g_c (by assumption) ?_; conv => whnf) | (rw [t1]; conv => whnf))); (first | exact Recast.refl _ | exact Frz.recast (Recast.refl _) rfl | (refine Frz.one rfl rfl ?_; skip) | (refine Frz.tup ?_; skip))
end Go.Proofs.YtkpfineikahgfaaGreatDoor

namespace Go.Proofs.YtkpfineikahgfaaGreatDoor
open Go.Sx
set_option linter.unusedSimpArgs false
set_option linter.unusedVariables false
set_option maxRecDepth 100000
set_option maxHeartbeats 4000000

theorem b_at {r c : Nat} {a : List Int} (h : OKZ r c a) {i k : Nat} (hi : i < r) (hk : k < c) : CallOK Tryz.prog 93 [wA r c a, iv i, iv k] [] (.int (elz a c i k)) [] [] := by
  obtain ⟨t1, t2⟩ := idx_w (i := i) (k := k) (c := c) (by have := h.r; omega) h.c (by have := h.c; omega)
  have hlt := idx_lt hi hk
  rw [← h.n] at hlt
  refine callV (Z := []) tabOK mixedOK Tryz.func93 rfl (by kernel_rfl) rfl rfl (by kernel_rfl) rfl ?_
  intro W0 w0 ρ0 hE
  conv => whnf
  (repeat ((first | refine g_o (op_loadA rfl (ev_ok rfl) (tgt rfl) rfl (Nat.succ_ne_zero _) rfl) ?_ | refine g_o (op_indexM (α := Int) (d := 0) rfl (ev_ok rfl) (ev_ok rfl) (tgt rfl) rfl (tgt rfl) rfl (by omega)) ?_ | rw [t1] | rw [t2] | rw [Int.toNat_natCast]); conv => whnf)); (first | exact Recast.refl _ | exact Frz.recast (Recast.refl _) rfl | (refine Frz.one rfl rfl ?_; skip) | (refine Frz.tup ?_; skip))

abbrev zW : Blk := ⟨55, true, .one [iv 0, iv 0, .val (.slice none 0 0)]⟩
abbrev bW (r c K : Nat) : Blk := ⟨55, true, .one [iv r, iv c, .slc K 3 0 (r * c)]⟩
theorem b_madeF {r c : Nat} (hr : r ≤ 2048) (hc : c ≤ 2048) (F : Mz) (g : FuncId) (R C : Int) (l : List Int)
    (hf : ∀ i k, i < r → k < c → CallOK Tryz.prog g ([wA R C l] ++ ([iv (i : Nat), iv (k : Nat)] ++ [])) [] (.int (F i k)) [] []) :
    CallOK Tryz.prog 94 [iv r, iv c, .clo g [wA R C l] []] [] (wA r c (mkz r c F)) [] [] := by
  have hz : (mkz r c F).length = r * c := mkz_len ..
  have hrc : r * c ≤ 2048 * 2048 := Nat.mul_le_mul hr hc
  have t1 : IntKind.i64.wrap ((r : Int) * (c : Int)) = ((r * c : Nat) : Int) := by rw [← Int.natCast_mul, wrap_i64 (by omega) (by omega)]
  refine callF (Z := []) tabOK mixedOK Tryz.func94 rfl (by kernel_rfl) (by first | rfl | (simp [keylessL, keyless, keylessL_map, *]; done)) (by first | rfl | (simp [keylessL, keyless, keylessL_map, *]; done)) (by kernel_rfl) rfl ?_
  intro w0 ρ0 hE
  conv => whnf
  (repeat (first | (refine step_oA (by first | omega | decide | (simp only [tl0, dlen, List.length_replicate, List.length_set, List.length_map, List.length_zipWith, List.length_take, List.length_append, List.length_cons, List.length_nil]; omega)) ?_; conv => whnf) | (rw [t1]; conv => whnf) | (rw [Int.toNat_natCast]; conv => whnf)))
  refine SW_loopN hE (fun k => k) [0, 1, 2, 6, 7, 17, 18] [6, 7, 15] (fun m fr hp => ∃ i : Nat, m = r - i ∧ i ≤ r ∧ fr = [(0, iv r), (1, iv c), (2, .clo g [wA R C l] []), (6, .ptr 6 0 0 0), (7, .ptr 7 0 0 0), (17, iv r), (18, iv (i : Nat))] ∧
    hp = [(6, zW), (7, bW r c 15), (15, zfil (mkz r c F) (r * c) (i * c))]) r ?_ ?_ ?_
  · kernel_rfl
  · exact ⟨0, rfl, Nat.zero_le _, rfl, by rw [Nat.zero_mul, zfil, List.take_zero]; rfl⟩
  rintro m _ _ ⟨i, rfl, hi, rfl, rfl⟩
  conv => whnf
  by_cases hlt : i < r
  · have t2 := dlt hlt
    have t3 := winc (i := i) (by omega)
    have hic : (i + 1) * c ≤ r * c := Nat.mul_le_mul_right c hlt
    rw [Nat.succ_mul] at hic
    (repeat (first | (refine step_w1 rfl rfl ?_; conv => whnf) | (rw [t2]; conv => whnf)))
    refine SW_loopN hE (fun k => k) [0, 1, 2, 6, 7, 8, 17, 18, 21, 22] [6, 7, 15] (fun m fr hp => ∃ k : Nat, m = c - k ∧ k ≤ c ∧ fr = [(0, iv r), (1, iv c), (2, .clo g [wA R C l] []), (6, .ptr 6 0 0 0), (7, .ptr 7 0 0 0), (8, iv (i : Nat)), (17, iv r), (18, iv (i : Nat)), (21, iv c), (22, iv (k : Nat))] ∧
      hp = [(6, zW), (7, bW r c 15), (15, zfil (mkz r c F) (r * c) (i * c + k))]) c ?_ ?_ ?_
    · kernel_rfl
    · exact ⟨0, rfl, Nat.zero_le _, rfl, rfl⟩
    rintro m _ _ ⟨k, rfl, hk, rfl, rfl⟩
    conv => whnf
    by_cases hlk : k < c
    · have t4 := dlt hlk
      have t5 := winc (i := k) (by omega)
      obtain ⟨w1, w2⟩ := idx_w (i := i) (k := k) (c := c) (by omega) (by omega) (by omega)
      have hlen := zfil_len (l := mkz r c F) (show i * c + k ≤ r * c by omega) hz
      have t6 := zfil_get (l := mkz r c F) (show i * c + k < r * c by omega) hz
      have o2 := hf i k hlt hlk
      rw [← mkz_el (f := F) hlt hlk] at o2
      (repeat ((first | refine step_w1 rfl rfl ?_ | refine step_i (by kernel_rfl) ?_ | refine step_oL (by first | omega | decide | (simp only [tl0, dlen, List.length_replicate, List.length_set, List.length_map, List.length_zipWith, List.length_take, List.length_append, List.length_cons, List.length_nil]; omega)) ?_ | refine step_oA (by first | omega | decide | (simp only [tl0, dlen, List.length_replicate, List.length_set, List.length_map, List.length_zipWith, List.length_take, List.length_append, List.length_cons, List.length_nil]; omega)) ?_ | refine g_c (by assumption) ?_ | rw [t4] | rw [t5] | rw [w1] | rw [w2] | rw [t6] | rw [Int.toNat_natCast] | rw [Nat.zero_add]); conv => whnf))
      refine ⟨c - (k + 1), fun k => k, [0, 1, 2, 6, 7, 8, 17, 18, 21, 22], [6, 7, 15], by omega, by kernel_rfl, k + 1, rfl, hlk, rfl, ?_⟩
      rw [show i * c + (k + 1) = i * c + k + 1 from rfl, zfil, ← zfil_set (show i * c + k < r * c by omega) hz]
      rfl
    · have t4 := dge hlk
      obtain rfl : k = c := by omega
      (repeat (first | (refine step_w2 rfl rfl ?_; conv => whnf) | (rw [t4]; conv => whnf) | (rw [t3]; conv => whnf)))
      refine ⟨r - (i + 1), fun k => k, [0, 1, 2, 6, 7, 17, 18], [6, 7, 15], by omega, by kernel_rfl, i + 1, rfl, hlt, rfl, ?_⟩
      rw [Nat.succ_mul]
      rfl
  · have t2 := dge hlt
    obtain rfl : i = r := by omega
    rw [zfil_all hz]
    (repeat (first | (refine step_w2 rfl rfl ?_; conv => whnf) | (rw [t2]; conv => whnf)))
    (first | exact Recast.refl _ | exact Frz.recast (Recast.refl _) rfl | (refine Frz.one rfl rfl ?_; (repeat (first | exact FrzC.keyless rfl | exact FrzL.nil | refine FrzL.cons ?_ ?_ | refine FrzC.agg ?_ | (refine FrzC.seq rfl (by first | rfl | (apply keylessL_map; intro _; rfl)) ?_; (first | rfl | omega | (simp <;> fail) | (simp <;> omega)))))) | (refine Frz.tup ?_; skip))
theorem b_made1 {r c : Nat} (hr : r ≤ 2048) (hc : c ≤ 2048) (F : Mz) (g : FuncId) (p : Pred)
    (hf : ∀ i k, i < r → k < c → CallOK Tryz.prog g ([] ++ ([iv (i : Nat), iv (k : Nat)] ++ [.atom p])) [] (.int (F i k)) [] []) :
    CallOK Tryz.prog 94 [iv r, iv c, .clo g [] [.atom p]] [] (wA r c (mkz r c F)) [] [] := by
  have hz : (mkz r c F).length = r * c := mkz_len ..
  have hrc : r * c ≤ 2048 * 2048 := Nat.mul_le_mul hr hc
  have t1 : IntKind.i64.wrap ((r : Int) * (c : Int)) = ((r * c : Nat) : Int) := by rw [← Int.natCast_mul, wrap_i64 (by omega) (by omega)]
  refine callF (Z := []) tabOK mixedOK Tryz.func94 rfl (by kernel_rfl) (by first | rfl | (simp [keylessL, keyless, keylessL_map, *]; done)) (by first | rfl | (simp [keylessL, keyless, keylessL_map, *]; done)) (by kernel_rfl) rfl ?_
  intro w0 ρ0 hE
  conv => whnf
  (repeat (first | (refine step_oA (by first | omega | decide | (simp only [tl0, dlen, List.length_replicate, List.length_set, List.length_map, List.length_zipWith, List.length_take, List.length_append, List.length_cons, List.length_nil]; omega)) ?_; conv => whnf) | (rw [t1]; conv => whnf) | (rw [Int.toNat_natCast]; conv => whnf)))
  refine SW_loopN hE (fun k => k) [0, 1, 2, 6, 7, 17, 18] [6, 7, 15] (fun m fr hp => ∃ i : Nat, m = r - i ∧ i ≤ r ∧ fr = [(0, iv r), (1, iv c), (2, .clo g [] [.atom p]), (6, .ptr 6 0 0 0), (7, .ptr 7 0 0 0), (17, iv r), (18, iv (i : Nat))] ∧
    hp = [(6, zW), (7, bW r c 15), (15, zfil (mkz r c F) (r * c) (i * c))]) r ?_ ?_ ?_
  · kernel_rfl
  · exact ⟨0, rfl, Nat.zero_le _, rfl, by rw [Nat.zero_mul, zfil, List.take_zero]; rfl⟩
  rintro m _ _ ⟨i, rfl, hi, rfl, rfl⟩
  conv => whnf
  by_cases hlt : i < r
  · have t2 := dlt hlt
    have t3 := winc (i := i) (by omega)
    have hic : (i + 1) * c ≤ r * c := Nat.mul_le_mul_right c hlt
    rw [Nat.succ_mul] at hic
    (repeat (first | (refine step_w1 rfl rfl ?_; conv => whnf) | (rw [t2]; conv => whnf)))
    refine SW_loopN hE (fun k => k) [0, 1, 2, 6, 7, 8, 17, 18, 21, 22] [6, 7, 15] (fun m fr hp => ∃ k : Nat, m = c - k ∧ k ≤ c ∧ fr = [(0, iv r), (1, iv c), (2, .clo g [] [.atom p]), (6, .ptr 6 0 0 0), (7, .ptr 7 0 0 0), (8, iv (i : Nat)), (17, iv r), (18, iv (i : Nat)), (21, iv c), (22, iv (k : Nat))] ∧
      hp = [(6, zW), (7, bW r c 15), (15, zfil (mkz r c F) (r * c) (i * c + k))]) c ?_ ?_ ?_
    · kernel_rfl
    · exact ⟨0, rfl, Nat.zero_le _, rfl, rfl⟩
    rintro m _ _ ⟨k, rfl, hk, rfl, rfl⟩
    conv => whnf
    by_cases hlk : k < c
    · have t4 := dlt hlk
      have t5 := winc (i := k) (by omega)
      obtain ⟨w1, w2⟩ := idx_w (i := i) (k := k) (c := c) (by omega) (by omega) (by omega)
      have hlen := zfil_len (l := mkz r c F) (show i * c + k ≤ r * c by omega) hz
      have t6 := zfil_get (l := mkz r c F) (show i * c + k < r * c by omega) hz
      have o2 := hf i k hlt hlk
      rw [← mkz_el (f := F) hlt hlk] at o2
      (repeat ((first | refine step_w1 rfl rfl ?_ | refine step_i (by kernel_rfl) ?_ | refine step_oL (by first | omega | decide | (simp only [tl0, dlen, List.length_replicate, List.length_set, List.length_map, List.length_zipWith, List.length_take, List.length_append, List.length_cons, List.length_nil]; omega)) ?_ | refine step_oA (by first | omega | decide | (simp only [tl0, dlen, List.length_replicate, List.length_set, List.length_map, List.length_zipWith, List.length_take, List.length_append, List.length_cons, List.length_nil]; omega)) ?_ | refine g_c (by assumption) ?_ | rw [t4] | rw [t5] | rw [w1] | rw [w2] | rw [t6] | rw [Int.toNat_natCast] | rw [Nat.zero_add]); conv => whnf))
      refine ⟨c - (k + 1), fun k => k, [0, 1, 2, 6, 7, 8, 17, 18, 21, 22], [6, 7, 15], by omega, by kernel_rfl, k + 1, rfl, hlk, rfl, ?_⟩
      rw [show i * c + (k + 1) = i * c + k + 1 from rfl, zfil, ← zfil_set (show i * c + k < r * c by omega) hz]
      rfl
    · have t4 := dge hlk
      obtain rfl : k = c := by omega
      (repeat (first | (refine step_w2 rfl rfl ?_; conv => whnf) | (rw [t4]; conv => whnf) | (rw [t3]; conv => whnf)))
      refine ⟨r - (i + 1), fun k => k, [0, 1, 2, 6, 7, 17, 18], [6, 7, 15], by omega, by kernel_rfl, i + 1, rfl, hlt, rfl, ?_⟩
      rw [Nat.succ_mul]
      rfl
  · have t2 := dge hlt
    obtain rfl : i = r := by omega
    rw [zfil_all hz]
    (repeat (first | (refine step_w2 rfl rfl ?_; conv => whnf) | (rw [t2]; conv => whnf)))
    (first | exact Recast.refl _ | exact Frz.recast (Recast.refl _) rfl | (refine Frz.one rfl rfl ?_; (repeat (first | exact FrzC.keyless rfl | exact FrzL.nil | refine FrzL.cons ?_ ?_ | refine FrzC.agg ?_ | (refine FrzC.seq rfl (by first | rfl | (apply keylessL_map; intro _; rfl)) ?_; (first | rfl | omega | (simp <;> fail) | (simp <;> omega)))))) | (refine Frz.tup ?_; skip))
theorem b_made2 {r c : Nat} (hr : r ≤ 2048) (hc : c ≤ 2048) (F : Mz) (g : FuncId) (p q : Pred)
    (hf : ∀ i k, i < r → k < c → CallOK Tryz.prog g ([] ++ ([iv (i : Nat), iv (k : Nat)] ++ [.atom p, .atom q])) [] (.int (F i k)) [] []) :
    CallOK Tryz.prog 94 [iv r, iv c, .clo g [] [.atom p, .atom q]] [] (wA r c (mkz r c F)) [] [] := by
  have hz : (mkz r c F).length = r * c := mkz_len ..
  have hrc : r * c ≤ 2048 * 2048 := Nat.mul_le_mul hr hc
  have t1 : IntKind.i64.wrap ((r : Int) * (c : Int)) = ((r * c : Nat) : Int) := by rw [← Int.natCast_mul, wrap_i64 (by omega) (by omega)]
  refine callF (Z := []) tabOK mixedOK Tryz.func94 rfl (by kernel_rfl) (by first | rfl | (simp [keylessL, keyless, keylessL_map, *]; done)) (by first | rfl | (simp [keylessL, keyless, keylessL_map, *]; done)) (by kernel_rfl) rfl ?_
  intro w0 ρ0 hE
  conv => whnf
  (repeat (first | (refine step_oA (by first | omega | decide | (simp only [tl0, dlen, List.length_replicate, List.length_set, List.length_map, List.length_zipWith, List.length_take, List.length_append, List.length_cons, List.length_nil]; omega)) ?_; conv => whnf) | (rw [t1]; conv => whnf) | (rw [Int.toNat_natCast]; conv => whnf)))
  refine SW_loopN hE (fun k => k) [0, 1, 2, 6, 7, 17, 18] [6, 7, 15] (fun m fr hp => ∃ i : Nat, m = r - i ∧ i ≤ r ∧ fr = [(0, iv r), (1, iv c), (2, .clo g [] [.atom p, .atom q]), (6, .ptr 6 0 0 0), (7, .ptr 7 0 0 0), (17, iv r), (18, iv (i : Nat))] ∧
    hp = [(6, zW), (7, bW r c 15), (15, zfil (mkz r c F) (r * c) (i * c))]) r ?_ ?_ ?_
  · kernel_rfl
  · exact ⟨0, rfl, Nat.zero_le _, rfl, by rw [Nat.zero_mul, zfil, List.take_zero]; rfl⟩
  rintro m _ _ ⟨i, rfl, hi, rfl, rfl⟩
  conv => whnf
  by_cases hlt : i < r
  · have t2 := dlt hlt
    have t3 := winc (i := i) (by omega)
    have hic : (i + 1) * c ≤ r * c := Nat.mul_le_mul_right c hlt
    rw [Nat.succ_mul] at hic
    (repeat (first | (refine step_w1 rfl rfl ?_; conv => whnf) | (rw [t2]; conv => whnf)))
    refine SW_loopN hE (fun k => k) [0, 1, 2, 6, 7, 8, 17, 18, 21, 22] [6, 7, 15] (fun m fr hp => ∃ k : Nat, m = c - k ∧ k ≤ c ∧ fr = [(0, iv r), (1, iv c), (2, .clo g [] [.atom p, .atom q]), (6, .ptr 6 0 0 0), (7, .ptr 7 0 0 0), (8, iv (i : Nat)), (17, iv r), (18, iv (i : Nat)), (21, iv c), (22, iv (k : Nat))] ∧
      hp = [(6, zW), (7, bW r c 15), (15, zfil (mkz r c F) (r * c) (i * c + k))]) c ?_ ?_ ?_
    · kernel_rfl
    · exact ⟨0, rfl, Nat.zero_le _, rfl, rfl⟩
    rintro m _ _ ⟨k, rfl, hk, rfl, rfl⟩
    conv => whnf
    by_cases hlk : k < c
    · have t4 := dlt hlk
      have t5 := winc (i := k) (by omega)
      obtain ⟨w1, w2⟩ := idx_w (i := i) (k := k) (c := c) (by omega) (by omega) (by omega)
      have hlen := zfil_len (l := mkz r c F) (show i * c + k ≤ r * c by omega) hz
      have t6 := zfil_get (l := mkz r c F) (show i * c + k < r * c by omega) hz
      have o2 := hf i k hlt hlk
      rw [← mkz_el (f := F) hlt hlk] at o2
      (repeat ((first | refine step_w1 rfl rfl ?_ | refine step_i (by kernel_rfl) ?_ | refine step_oL (by first | omega | decide | (simp only [tl0, dlen, List.length_replicate, List.length_set, List.length_map, List.length_zipWith, List.length_take, List.length_append, List.length_cons, List.length_nil]; omega)) ?_ | refine step_oA (by first | omega | decide | (simp only [tl0, dlen, List.length_replicate, List.length_set, List.length_map, List.length_zipWith, List.length_take, List.length_append, List.length_cons, List.length_nil]; omega)) ?_ | refine g_c (by assumption) ?_ | rw [t4] | rw [t5] | rw [w1] | rw [w2] | rw [t6] | rw [Int.toNat_natCast] | rw [Nat.zero_add]); conv => whnf))
      refine ⟨c - (k + 1), fun k => k, [0, 1, 2, 6, 7, 8, 17, 18, 21, 22], [6, 7, 15], by omega, by kernel_rfl, k + 1, rfl, hlk, rfl, ?_⟩
      rw [show i * c + (k + 1) = i * c + k + 1 from rfl, zfil, ← zfil_set (show i * c + k < r * c by omega) hz]
      rfl
    · have t4 := dge hlk
      obtain rfl : k = c := by omega
      (repeat (first | (refine step_w2 rfl rfl ?_; conv => whnf) | (rw [t4]; conv => whnf) | (rw [t3]; conv => whnf)))
      refine ⟨r - (i + 1), fun k => k, [0, 1, 2, 6, 7, 17, 18], [6, 7, 15], by omega, by kernel_rfl, i + 1, rfl, hlt, rfl, ?_⟩
      rw [Nat.succ_mul]
      rfl
  · have t2 := dge hlt
    obtain rfl : i = r := by omega
    rw [zfil_all hz]
    (repeat (first | (refine step_w2 rfl rfl ?_; conv => whnf) | (rw [t2]; conv => whnf)))
    (first | exact Recast.refl _ | exact Frz.recast (Recast.refl _) rfl | (refine Frz.one rfl rfl ?_; (repeat (first | exact FrzC.keyless rfl | exact FrzL.nil | refine FrzL.cons ?_ ?_ | refine FrzC.agg ?_ | (refine FrzC.seq rfl (by first | rfl | (apply keylessL_map; intro _; rfl)) ?_; (first | rfl | omega | (simp <;> fail) | (simp <;> omega)))))) | (refine Frz.tup ?_; skip))
theorem b_made3 {r c : Nat} (hr : r ≤ 2048) (hc : c ≤ 2048) (F : Mz) (g : FuncId) (p q s : Pred)
    (hf : ∀ i k, i < r → k < c → CallOK Tryz.prog g ([] ++ ([iv (i : Nat), iv (k : Nat)] ++ [.atom p, .atom q, .atom s])) [] (.int (F i k)) [] []) :
    CallOK Tryz.prog 94 [iv r, iv c, .clo g [] [.atom p, .atom q, .atom s]] [] (wA r c (mkz r c F)) [] [] := by
  have hz : (mkz r c F).length = r * c := mkz_len ..
  have hrc : r * c ≤ 2048 * 2048 := Nat.mul_le_mul hr hc
  have t1 : IntKind.i64.wrap ((r : Int) * (c : Int)) = ((r * c : Nat) : Int) := by rw [← Int.natCast_mul, wrap_i64 (by omega) (by omega)]
  refine callF (Z := []) tabOK mixedOK Tryz.func94 rfl (by kernel_rfl) (by first | rfl | (simp [keylessL, keyless, keylessL_map, *]; done)) (by first | rfl | (simp [keylessL, keyless, keylessL_map, *]; done)) (by kernel_rfl) rfl ?_
  intro w0 ρ0 hE
  conv => whnf
  (repeat (first | (refine step_oA (by first | omega | decide | (simp only [tl0, dlen, List.length_replicate, List.length_set, List.length_map, List.length_zipWith, List.length_take, List.length_append, List.length_cons, List.length_nil]; omega)) ?_; conv => whnf) | (rw [t1]; conv => whnf) | (rw [Int.toNat_natCast]; conv => whnf)))
  refine SW_loopN hE (fun k => k) [0, 1, 2, 6, 7, 17, 18] [6, 7, 15] (fun m fr hp => ∃ i : Nat, m = r - i ∧ i ≤ r ∧ fr = [(0, iv r), (1, iv c), (2, .clo g [] [.atom p, .atom q, .atom s]), (6, .ptr 6 0 0 0), (7, .ptr 7 0 0 0), (17, iv r), (18, iv (i : Nat))] ∧
    hp = [(6, zW), (7, bW r c 15), (15, zfil (mkz r c F) (r * c) (i * c))]) r ?_ ?_ ?_
  · kernel_rfl
  · exact ⟨0, rfl, Nat.zero_le _, rfl, by rw [Nat.zero_mul, zfil, List.take_zero]; rfl⟩
  rintro m _ _ ⟨i, rfl, hi, rfl, rfl⟩
  conv => whnf
  by_cases hlt : i < r
  · have t2 := dlt hlt
    have t3 := winc (i := i) (by omega)
    have hic : (i + 1) * c ≤ r * c := Nat.mul_le_mul_right c hlt
    rw [Nat.succ_mul] at hic
    (repeat (first | (refine step_w1 rfl rfl ?_; conv => whnf) | (rw [t2]; conv => whnf)))
    refine SW_loopN hE (fun k => k) [0, 1, 2, 6, 7, 8, 17, 18, 21, 22] [6, 7, 15] (fun m fr hp => ∃ k : Nat, m = c - k ∧ k ≤ c ∧ fr = [(0, iv r), (1, iv c), (2, .clo g [] [.atom p, .atom q, .atom s]), (6, .ptr 6 0 0 0), (7, .ptr 7 0 0 0), (8, iv (i : Nat)), (17, iv r), (18, iv (i : Nat)), (21, iv c), (22, iv (k : Nat))] ∧
      hp = [(6, zW), (7, bW r c 15), (15, zfil (mkz r c F) (r * c) (i * c + k))]) c ?_ ?_ ?_
    · kernel_rfl
    · exact ⟨0, rfl, Nat.zero_le _, rfl, rfl⟩
    rintro m _ _ ⟨k, rfl, hk, rfl, rfl⟩
    conv => whnf
    by_cases hlk : k < c
    · have t4 := dlt hlk
      have t5 := winc (i := k) (by omega)
      obtain ⟨w1, w2⟩ := idx_w (i := i) (k := k) (c := c) (by omega) (by omega) (by omega)
      have hlen := zfil_len (l := mkz r c F) (show i * c + k ≤ r * c by omega) hz
      have t6 := zfil_get (l := mkz r c F) (show i * c + k < r * c by omega) hz
      have o2 := hf i k hlt hlk
      rw [← mkz_el (f := F) hlt hlk] at o2
      (repeat ((first | refine step_w1 rfl rfl ?_ | refine step_i (by kernel_rfl) ?_ | refine step_oL (by first | omega | decide | (simp only [tl0, dlen, List.length_replicate, List.length_set, List.length_map, List.length_zipWith, List.length_take, List.length_append, List.length_cons, List.length_nil]; omega)) ?_ | refine step_oA (by first | omega | decide | (simp only [tl0, dlen, List.length_replicate, List.length_set, List.length_map, List.length_zipWith, List.length_take, List.length_append, List.length_cons, List.length_nil]; omega)) ?_ | refine g_c (by assumption) ?_ | rw [t4] | rw [t5] | rw [w1] | rw [w2] | rw [t6] | rw [Int.toNat_natCast] | rw [Nat.zero_add]); conv => whnf))
      refine ⟨c - (k + 1), fun k => k, [0, 1, 2, 6, 7, 8, 17, 18, 21, 22], [6, 7, 15], by omega, by kernel_rfl, k + 1, rfl, hlk, rfl, ?_⟩
      rw [show i * c + (k + 1) = i * c + k + 1 from rfl, zfil, ← zfil_set (show i * c + k < r * c by omega) hz]
      rfl
    · have t4 := dge hlk
      obtain rfl : k = c := by omega
      (repeat (first | (refine step_w2 rfl rfl ?_; conv => whnf) | (rw [t4]; conv => whnf) | (rw [t3]; conv => whnf)))
      refine ⟨r - (i + 1), fun k => k, [0, 1, 2, 6, 7, 17, 18], [6, 7, 15], by omega, by kernel_rfl, i + 1, rfl, hlt, rfl, ?_⟩
      rw [Nat.succ_mul]
      rfl
  · have t2 := dge hlt
    obtain rfl : i = r := by omega
    rw [zfil_all hz]
    (repeat (first | (refine step_w2 rfl rfl ?_; conv => whnf) | (rw [t2]; conv => whnf)))
    (first | exact Recast.refl _ | exact Frz.recast (Recast.refl _) rfl | (refine Frz.one rfl rfl ?_; (repeat (first | exact FrzC.keyless rfl | exact FrzL.nil | refine FrzL.cons ?_ ?_ | refine FrzC.agg ?_ | (refine FrzC.seq rfl (by first | rfl | (apply keylessL_map; intro _; rfl)) ?_; (first | rfl | omega | (simp <;> fail) | (simp <;> omega)))))) | (refine Frz.tup ?_; skip))
end Go.Proofs.YtkpfineikahgfaaGreatDoor

namespace Go.Proofs.YtkpfineikahgfaaGreatDoor
open Go.Sx
set_option linter.unusedSimpArgs false
set_option linter.unusedVariables false
set_option maxRecDepth 100000
set_option maxHeartbeats 4000000

/-- Numbers below n, and one more. -/
def upN (n : Nat) : List Int := (List.range n).map fun i : Nat => (i : Int)
theorem upN_succ (i : Nat) : upN (i + 1) = upN i ++ [(i : Int)] := by simp [upN, List.range_succ]
theorem upN_len (i : Nat) : (upN i).length = i := by simp [upN]
abbrev upL (n : Nat) (l : List Int) : List Int := upN n ++ l
theorem upL_len (n : Nat) (l : List Int) : (upL n l).length = n + l.length := by simp [upN_len]
theorem upL_at {n : Nat} {l : List Int} {i : Nat} (hi : i < n) : (upL n l).getD i 0 = i := by
  simp [upL, upN, List.getD_eq_getElem?_getD, List.getElem?_append_left, hi]
theorem upL_last {n : Nat} {x : Int} : (upL n [x]).getD n 0 = x := by
  simp [upL, upN, List.getD_eq_getElem?_getD]
theorem b_part1 {r c : Nat} {a : List Int} (ha : OKZ r c a) {p q : List Int} (hp : ∀ i, i < p.length → 0 ≤ p.getD i 0 ∧ p.getD i 0 < r) (hq : ∀ i, i < q.length → 0 ≤ q.getD i 0 ∧ q.getD i 0 < c) {i k : Nat} (hi : i < p.length) (hk : k < q.length) (hl : p.length ≤ 2048) (hl2 : q.length ≤ 2048) :
    CallOK Tryz.prog 189 ([] ++ ([iv (i : Nat), iv (k : Nat)] ++ [ptrA (wC r c a), ptrA [ivec .i64 p], ptrA [ivec .i64 q]])) [] (.int (elz a c (p.getD i 0).toNat (q.getD k 0).toNat)) [] [] := by
  obtain ⟨p1, p2⟩ := hp i hi
  obtain ⟨q1, q2⟩ := hq k hk
  have k1 := b_at ha (i := (p.getD i 0).toNat) (k := (q.getD k 0).toNat) (by omega) (by omega)
  rw [Int.toNat_of_nonneg p1, Int.toNat_of_nonneg q1] at k1
  refine callV (Z := []) tabOK mixedOK Tryz.func189 rfl (by kernel_rfl) rfl rfl (by kernel_rfl) rfl ?_
  intro W0 w0 ρ0 hE
  conv => whnf
  (repeat ((first | refine step_i (by kernel_rfl) ?_ | refine g_c (by assumption) ?_ | refine g_o (op_loadA rfl (ev_ok rfl) (tgt rfl) rfl (Nat.succ_ne_zero _) rfl) ?_ | refine g_o (op_indexN (α := Int) (d := 0) rfl (ev_ok rfl) (ev_ok rfl) (tgt rfl) rfl (tgt rfl) rfl (by omega)) ?_); conv => whnf)); (first | exact Recast.refl _ | exact Frz.recast (Recast.refl _) rfl | (refine Frz.one rfl rfl ?_; skip) | (refine Frz.tup ?_; skip))
theorem b_part {r c : Nat} {a : List Int} (ha : OKZ r c a) {p q : List Int} (hp : ∀ i, i < p.length → 0 ≤ p.getD i 0 ∧ p.getD i 0 < r) (hq : ∀ i, i < q.length → 0 ≤ q.getD i 0 ∧ q.getD i 0 < c) (hl : p.length ≤ 2048) (hl2 : q.length ≤ 2048) :
    CallOK Tryz.prog 97 [wA r c a, ivec .i64 p, ivec .i64 q] [] (wA p.length q.length (mkz p.length q.length fun i k => elz a c (p.getD i 0).toNat (q.getD k 0).toNat)) [] [] := by
  have k1 := b_made3 hl hl2 _ 189 (ptrP (wC r c a)) (ptrP [ivec .i64 p]) (ptrP [ivec .i64 q]) (fun i k hi hk => b_part1 ha hp hq hi hk hl hl2)
  refine callV (Z := [3, 4, 5]) tabOK mixedOK Tryz.func97 rfl (by kernel_rfl) rfl rfl (by kernel_rfl) rfl ?_
  intro W0 w0 ρ0 hE
  conv => whnf
  (repeat ((first | refine g_c (by assumption) ?_ | refine g_o (op_lenM rfl rfl rfl (ev_ok rfl) (tgt rfl) rfl) ?_ | refine g_o (op_loadA rfl (ev_ok rfl) (tgt rfl) rfl (Nat.succ_ne_zero _) rfl) ?_ | refine g_o (op_makeFunc rfl rfl rfl) ?_); conv => whnf)); (first | exact Recast.refl _ | exact Frz.recast (Recast.refl _) rfl | (refine Frz.one rfl rfl ?_; skip) | (refine Frz.tup ?_; skip))
end Go.Proofs.YtkpfineikahgfaaGreatDoor

namespace Go.Proofs.YtkpfineikahgfaaGreatDoor
open Go.Sx
set_option linter.unusedSimpArgs false
set_option linter.unusedVariables false
set_option maxRecDepth 100000
set_option maxHeartbeats 40000000

theorem b_upToM (n : Nat) (l : List Int) (hn : n ≤ 2048) (hl : l.length ≤ 2048) : CallOK Tryz.prog 98 [iv n, ivec .i64 l] [] (.slc 2001 1 0 (n + l.length)) [(2001, iblkM (upL n l))] [] := by
  refine callK (Z := []) tabOK mixedOK Tryz.func98 rfl (by kernel_rfl) (args := [iv n, ivec .i64 l]) (fk := []) (c := .slc 17 1 0 (n + l.length)) (new := [(17, iblkM (upL n l))]) (upd := []) (ShapeOK.of rfl rfl rfl rfl rfl rfl rfl rfl rfl rfl rfl) rfl (renBy [(17, 2001)]) NamesOK.one ?_
  intro W0 w0 ρ0 hE
  conv => whnf
  skip
  refine SWx_adopt (t := 4) (k := 2002) (s := 1) (blk := iblkM []) rfl rfl rfl ?_
  refine SW_loopN hE (fun k => k) [1, 4, 6, 7] [2002] (fun m fr hp => ∃ i : Nat, m = n - i ∧ i ≤ n ∧ fr = [(1, ivec .i64 l), (4, .slc 2002 1 0 i), (6, iv n), (7, iv (i : Nat))] ∧ hp = [(2002, iblkM (upN i))]) n ?_ ?_ ?_
  · kernel_rfl
  · exact ⟨0, rfl, Nat.zero_le _, rfl, rfl⟩
  rintro m _ _ ⟨i, rfl, hi, rfl, rfl⟩
  conv => whnf
  have lq := upN_len i
  by_cases hlt : i < n
  · have t1 := dlt hlt
    have t2 := winc (i := i) (by omega)
    have e1 := app_int (l := upN i) (x := (i : Int))
    rw [lq, ← upN_succ] at e1
    (repeat ((first | refine step_oA (by first | omega | decide | (simp only [tl0, dlen, List.length_replicate, List.length_set, List.length_map, List.length_zipWith, List.length_take, List.length_append, List.length_cons, List.length_nil]; omega)) ?_ | refine tst_tt t1 ?_ | rw [t1] | rw [t2]); conv => whnf))
    refine ⟨n - (i + 1), renBy [(13, 2002)], [1, 4, 6, 7], [13], by omega, by kernel_rfl, i + 1, rfl, hlt, rfl, ?_⟩
    rw [e1]; rfl
  · have t1 := dge hlt
    obtain rfl : i = n := by omega
    (repeat (first | (refine tst_ff t1 ?_; conv => whnf) | (rw [t1]; conv => whnf)))
    refine ⟨.slc 17 1 0 (i + l.length), [(2002, iblkM (upN i))], [(17, iblkM (upL i l))], [(2002, ⟨3, true, .dead⟩)], op_appendV rfl rfl rfl (ev_ok rfl) (ev_ok rfl) (rows_ints l) (tabOK.get (t := 62) rfl) rfl (tabOK.get (t := 62) rfl) rfl (tabOK.get (t := 3) rfl) (List.mem_cons_self ..) rfl rfl (by show i ≤ (upN i).length; omega) (m := l.length) (List.length_map _).symm (by show 0 + l.length ≤ l.length; omega) (by simp [dapp, List.take_of_length_le (show (upN i).length ≤ i by omega)]) (by show (i + _) * ti3.bytes ≤ _; simp only [tiB3]; omega) (by omega), one_fk rfl, one_new rfl, one_upd (List.mem_cons_self ..) rfl rfl rfl, ?_⟩
    conv => whnf
    exact ⟨Recast.refl _, (fun k b h => by simp only [List.mem_singleton, Prod.mk.injEq] at h; obtain ⟨rfl, rfl⟩ := h; rfl), (fun _ _ h => by cases h)⟩
theorem b_upToV (n : Nat) (l : List Int) (hn : n ≤ 2048) (hl : l.length ≤ 2048) : CallOK Tryz.prog 98 [iv n, ivec .i64 l] [] (ivec .i64 (upL n l)) [] [] := by
  refine callF (Z := []) tabOK mixedOK Tryz.func98 rfl (by kernel_rfl) (by first | rfl | (simp [keylessL, keyless, keylessL_map, *]; done)) (by first | rfl | (simp [keylessL, keyless, keylessL_map, *]; done)) (by kernel_rfl) rfl ?_
  intro w0 ρ0 hE
  conv => whnf
  skip
  refine SWx_adopt (t := 4) (k := 2002) (s := 1) (blk := iblkM []) rfl rfl rfl ?_
  refine SW_loopN hE (fun k => k) [1, 4, 6, 7] [2002] (fun m fr hp => ∃ i : Nat, m = n - i ∧ i ≤ n ∧ fr = [(1, ivec .i64 l), (4, .slc 2002 1 0 i), (6, iv n), (7, iv (i : Nat))] ∧ hp = [(2002, iblkM (upN i))]) n ?_ ?_ ?_
  · kernel_rfl
  · exact ⟨0, rfl, Nat.zero_le _, rfl, rfl⟩
  rintro m _ _ ⟨i, rfl, hi, rfl, rfl⟩
  conv => whnf
  have lq := upN_len i
  by_cases hlt : i < n
  · have t1 := dlt hlt
    have t2 := winc (i := i) (by omega)
    have e1 := app_int (l := upN i) (x := (i : Int))
    rw [lq, ← upN_succ] at e1
    (repeat ((first | refine step_oA (by first | omega | decide | (simp only [tl0, dlen, List.length_replicate, List.length_set, List.length_map, List.length_zipWith, List.length_take, List.length_append, List.length_cons, List.length_nil]; omega)) ?_ | refine tst_tt t1 ?_ | rw [t1] | rw [t2]); conv => whnf))
    refine ⟨n - (i + 1), renBy [(13, 2002)], [1, 4, 6, 7], [13], by omega, by kernel_rfl, i + 1, rfl, hlt, rfl, ?_⟩
    rw [e1]; rfl
  · have t1 := dge hlt
    obtain rfl : i = n := by omega
    (repeat (first | (refine tst_ff t1 ?_; conv => whnf) | (rw [t1]; conv => whnf)))
    refine ⟨.slc 17 1 0 (i + l.length), [(2002, iblkM (upN i))], [(17, iblkM (upL i l))], [(2002, ⟨3, true, .dead⟩)], op_appendV rfl rfl rfl (ev_ok rfl) (ev_ok rfl) (rows_ints l) (tabOK.get (t := 62) rfl) rfl (tabOK.get (t := 62) rfl) rfl (tabOK.get (t := 3) rfl) (List.mem_cons_self ..) rfl rfl (by show i ≤ (upN i).length; omega) (m := l.length) (List.length_map _).symm (by show 0 + l.length ≤ l.length; omega) (by simp [dapp, List.take_of_length_le (show (upN i).length ≤ i by omega)]) (by show (i + _) * ti3.bytes ≤ _; simp only [tiB3]; omega) (by omega), one_fk rfl, one_new rfl, one_upd (List.mem_cons_self ..) rfl rfl rfl, ?_⟩
    conv => whnf
    refine Frz.one rfl rfl (FrzC.ints rfl ?_)
    rw [upL_len]
end Go.Proofs.YtkpfineikahgfaaGreatDoor

namespace Go.Sx
set_option linter.unusedSimpArgs false
set_option linter.unusedVariables false
/-- What a pointer leads to is taken for good. -/
theorem SWx_freezeP {E : Env} (t k : Nat) {c : Code} {K : Post'} {fr : List (Nat × SV)} {hp : List (Nat × Blk)} {ty : TypeId} {cs : List SV} (hW : ∀ b, ¬ E.W0 b) (ht : lk fr t = some (.ptr k 0 0 0)) (hk : find hp k = some ⟨ty, true, .one cs⟩)
    (hkl : keylessL cs = true) (hs : SWx E c K ((t, ptrA cs) :: fr) (setB hp k ⟨ty, true, .dead⟩)) : SWx E c K fr hp := by
  refine ⟨fun a W hR => hs.run a W ?_⟩
  have hl : (Data.one cs).live = true := rfl
  obtain ⟨ρ, hext, hfx, hR⟩ := hR
  have hkb : (fn fr hp (.k k)).blk = some ⟨ty, true, .one cs⟩ := by simp only [fn, LV.blk]; exact hk
  have hv := hR.fr t _ (by simp only [fn, LV.sv]; exact ht)
  obtain ⟨x, hx, hxv⟩ := (Has_iff (c := .ptr k 0 0 0) rfl).1 hv
  have hlayk : ∀ j b, (fn ((t, ptrA cs) :: fr) (setB hp k ⟨ty, true, .dead⟩) (.k j)).blk = some b → (j = k ∧ b = ⟨ty, true, .dead⟩) ∨ (j ≠ k ∧ (fn fr hp (.k j)).blk = some b) := by
    intro j b hb
    simp only [fn, LV.blk, find_setB] at hb ⊢
    by_cases hj : j = k
    · rw [if_pos hj] at hb; exact .inl ⟨hj, (Option.some.inj hb).symm⟩
    · rw [if_neg hj] at hb; exact .inr ⟨hj, hb⟩
  -- any map with more blocks will do
  have fin : ∀ ρ' : Rho, ρ'.key = ρ.key → (∀ b o, ρ.imm b = some o → ρ'.imm b = some o) → (∀ b o, ρ'.imm b = some o → ρ.imm b = some o ∨ E.w0.heap.size ≤ b) → (∀ b o, ρ'.imm b = some o → W.heap[b]? = some o) →
      (∀ j b x, j ≠ k → (fn fr hp (.k j)).blk = some b → b.wr = true → b.data.live = true → ρ.key j = some x → ρ'.imm x.1 = none) → (∀ D, W.heap[D]? = some (.deferred (some [])) → ρ.imm D = none → ρ'.imm D = none) → Has ρ' (ptrA cs) (a.tmps.getD t undef) →
      RR E (fn ((t, ptrA cs) :: fr) (setB hp k ⟨ty, true, .dead⟩)) a W := by
    intro ρ' hkey himm hnew hheap hnone hmark hhas
    have hle : ρ.Le ρ' := ⟨fun j y hy => by rw [hkey]; exact hy, himm⟩
    refine ⟨ρ', ⟨hext.le.trans hle, fun b o hb => (hnew b o hb).elim (fun h => hext.imm b o h) .inr, fun j hj => by rw [hkey]; exact hext.fix j hj⟩, fun j hj => ?_, { defers := ?_, size := hR.size, fr := ?_, pres := hR.pres, hp := ?_ }⟩
    · have := hfx j hj
      simp only [fn, LV.blk, find_setB] at this ⊢
      split
      · simp
      · exact this
    · obtain ⟨Ds, d1, d2, d3⟩ := hR.defers
      refine ⟨Ds, d1, d2, fun D hD => ?_⟩
      obtain ⟨e1, e2, e3⟩ := d3 D hD
      refine ⟨e1, e2, ?_⟩
      exact hmark D e2 e3
    · intro u sv hu
      simp only [fn, LV.sv, lk] at hu
      cases hb : Nat.beq t u with
      | true =>
        rw [hb] at hu
        simp only [Option.some.injEq] at hu
        subst hu
        rw [← Nat.eq_of_beq_eq_true hb]
        exact hhas
      | false => rw [hb] at hu; exact Has.mono hle _ _ (hR.fr u sv (by simp only [fn, LV.sv]; exact hu))
    · constructor
      · intro j b hb
        rcases hlayk j b hb with ⟨rfl, rfl⟩ | ⟨hj, hb⟩
        · exact .inl rfl
        · rcases hR.hp.blk j b hb with g0 | ⟨b', t', vs, ex, g1, g2, g3, g4⟩ | ⟨g1, g2⟩
          · exact .inl g0
          · exact .inr (.inl ⟨b', t', vs, ex, by rw [hkey]; exact g1, g2, g3.mono hle, g4⟩)
          · exact .inr (.inr ⟨by rw [hkey]; exact g1, g2⟩)
      · intro j j' y y' b b' hy hy' hne hyy hb hb' hl1 hl2
        rw [hkey] at hy hy'
        rcases hlayk j b hb with ⟨_, rfl⟩ | ⟨_, hb⟩
        · cases hl1
        rcases hlayk j' b' hb' with ⟨_, rfl⟩ | ⟨_, hb'⟩
        · cases hl2
        exact hR.hp.sep j j' y y' b b' hy hy' hne hyy hb hb' hl1 hl2
      · intro j b y hb hwr hl1 hy
        rw [hkey] at hy
        rcases hlayk j b hb with ⟨_, rfl⟩ | ⟨_, hb⟩
        · cases hl1
        exact hR.hp.own j b y hb hwr hl1 hy
      · intro j y hy
        rw [hkey] at hy
        obtain ⟨b, hb⟩ := hR.hp.dom j y hy
        simp only [fn, LV.blk, find_setB] at hb ⊢
        split
        · exact ⟨_, rfl⟩
        · exact ⟨b, hb⟩
      · exact hheap
      · intro j b y hb hwr hl1 hy
        rw [hkey] at hy
        rcases hlayk j b hb with ⟨_, rfl⟩ | ⟨hj, hb⟩
        · cases hl1
        exact hnone j b y hj hb hwr hl1 hy
  simp only [HasC] at hx
  obtain ⟨b, t', h1, rfl⟩ := hx
  rcases hR.hp.blk k _ hkb with g0 | ⟨b', t'', vs, ex, g1, g2, g3, g4, g5⟩ | ⟨g1, _⟩
  · cases g0
  · rw [h1] at g1
    cases g1
    rw [Data.obj_cells rfl] at g2
    have h2 : W.heap[b]? = some (.cells (vs ++ ex).toArray ty (0, 0)) := g2
    simp only [DataC] at g3
    obtain ⟨z, z1, rfl⟩ := g3
    have hB : E.w0.heap.size ≤ b := (hR.hp.own k _ _ hkb rfl hl h1).resolve_right (hW _)
    obtain ⟨u, hup⟩ := (Up.refl ρ W E.w0.heap.size).add hR.hp.imm hB h2
    refine fin ⟨ρ.key, _, u.glob⟩ rfl u.le (fun b o hb => (u.new b o hb).imp id (fun h => h.1)) (fun c p hc => ?_) (fun j blk y hj hb hwr hl1 hy => ?_) (fun D hD1 hD2 => ?_) ?_
    · rcases u.new c p hc with h | h
      · exact hR.hp.imm c p h
      · exact h.2
    · show (if y.1 = b then some _ else ρ.imm y.1) = none
      rw [if_neg]
      · exact hR.hp.immw j blk y hb hwr hl1 hy
      · intro he2
        have := hR.hp.sep k j (b, t') y _ _ h1 hy (fun h => hj h.symm) he2.symm hkb hb hl hl1
        cases this
    · show (if D = b then some _ else ρ.imm D) = none
      rw [if_neg, hD2]
      rintro rfl
      rw [hD1] at h2; cases h2
    · rw [hxv]
      have hz : HasZ (bareR (fun x => if x = b then some (.cells (z.flatten ++ ex).toArray ty (0, 0)) else ρ.imm x) u.glob) cs z := keylessL_has (ρ := ρ) u.le cs z hkl z1
      refine ptrA_has ⟨b, z, [], ex, ty, (0, 0), if_pos rfl, hz, ?_⟩
      simp [mkV, SV.isOne]
  · rw [h1] at g1; cases g1

/-- A slice value that is not empty is no nil. -/
theorem op_eqNilV {P : Program} {o : Oper} {ft : List (Nat × SV)} {fk : List (Nat × Blk)} {t t2 e : TypeId} {x y : Operand} {w : Nat} {xs : List SV} (ho : o.op = .binOp .eql t x y t2) (hx : EvOK ft x (vecA w xs)) (hy : EvOK ft y (.val (.slice none 0 0))) (hu : P.underlying t = some (.slice e)) (hne : xs ≠ []) : OpOK P o ft fk (.val (.bool false)) [] [] :=
  ok_pure fun ρ ac W hp => by
    have e2 := of_has_val (hy ρ ac hp.hft)
    rcases has_vec (hx ρ ac hp.hft) with ⟨h0, _⟩ | ⟨b, cap, z, pre, ex, ty, fz, _, _, _, _, _, h6⟩
    · exact absurd h0 hne
    · have hq : ∀ d b i n m, (Op.equalIn (d + 1) t (.slice (some ⟨b, i, none⟩) n m) (.slice none 0 0)).run P W = .ok false W := fun d b i n m => by simp [Op.equalIn, run_underlying hu]
      have hq' : ∀ b i n m, (Op.equal t (.slice (some ⟨b, i, none⟩) n m) (.slice none 0 0)).run P W = .ok false W := fun b i n m => hq 9999 b i n m
      refine ⟨_, ?_, has_val rfl⟩
      simp [execOp, ho, h6, e2, eqGuard, binOp, hq']
end Go.Sx
namespace Go.Proofs.YtkpfineikahgfaaGreatDoor
open Go.Sx
set_option linter.unusedSimpArgs false
set_option linter.unusedVariables false
set_option maxRecDepth 100000
set_option maxHeartbeats 4000000

abbrev sA (r c : Int) (a : List Int) (b s : Int) : SV := .agg [wA r c a, .int b, iv s]
abbrev sC (r c : Int) (a : List Int) (b s : Int) : List SV := [wA r c a, .int b, iv s]
theorem b_begin (r c : Int) (a : List Int) : CallOK Tryz.prog 92 [wA r c a] [] (sA r c a 1 0) [] [] := by
  have k1 := c_iOf 1 (by decide) (by decide)
  refine callV (Z := []) tabOK mixedOK Tryz.func92 rfl (by kernel_rfl) rfl rfl (by kernel_rfl) rfl ?_
  intro W0 w0 ρ0 hE
  conv => whnf
  (repeat (first | (refine step_i (by kernel_rfl) ?_; conv => whnf) | (refine g_c (by assumption) ?_; conv => whnf))); (first | exact Recast.refl _ | exact Frz.recast (Recast.refl _) rfl | (refine Frz.one rfl rfl ?_; skip) | (refine Frz.tup ?_; skip))
theorem b_cross (a b c d : Int) (h : zs a + zs b + (zs c + zs d) ≤ 1073741824) : CallOK Tryz.prog 192 [.int a, .int b, .int c, .int d] [] (.int (a * b - c * d)) [] [] := by
  have k1 := zz_Mul a b (by omega)
  have k2 := zz_Mul c d (by omega)
  have k3 := zz_Sub (a * b) (c * d) (by have := zs_mul a b; have := zs_mul c d; omega)
  refine callV (Z := []) tabOK mixedOK Tryz.func192 rfl (by kernel_rfl) rfl rfl (by kernel_rfl) rfl ?_
  intro W0 w0 ρ0 hE
  conv => whnf
  (repeat (first | (refine step_i (by kernel_rfl) ?_; conv => whnf) | (refine g_c (by assumption) ?_; conv => whnf))); (first | exact Recast.refl _ | exact Frz.recast (Recast.refl _) rfl | (refine Frz.one rfl rfl ?_; skip) | (refine Frz.tup ?_; skip))
/-- The cross product of elements that the next stage takes. -/
def crZ (a : List Int) (c i k : Nat) : Int := elz a c 0 0 * elz a c (i + 1) (k + 1) - elz a c (i + 1) 0 * elz a c 0 (k + 1)
theorem crZ_zs {a : List Int} {r c i k B : Nat} (h : Zm B a) (ha : a.length = (r + 1) * (c + 1)) (hi : i < r) (hk : k < c) : zs (crZ a (c + 1) i k) ≤ 4 * B := by
  have h1 := elz_zm h ha (i := 0) (k := 0) (by omega) (by omega)
  have h2 := elz_zm h ha (i := i + 1) (k := k + 1) (by omega) (by omega)
  have h3 := elz_zm h ha (i := i + 1) (k := 0) (by omega) (by omega)
  have h4 := elz_zm h ha (i := 0) (k := k + 1) (by omega) (by omega)
  have := zs_sub (elz a (c + 1) 0 0 * elz a (c + 1) (i + 1) (k + 1)) (elz a (c + 1) (i + 1) 0 * elz a (c + 1) 0 (k + 1))
  have := zs_mul (elz a (c + 1) 0 0) (elz a (c + 1) (i + 1) (k + 1))
  have := zs_mul (elz a (c + 1) (i + 1) 0) (elz a (c + 1) 0 (k + 1))
  unfold crZ; omega
theorem b_next1 {r c B : Nat} {a : List Int} {b s : Int} (ha : OKZ (r + 1) (c + 1) a) (za : Zm B a) (hb : 4 * B + zs b ≤ 1073741824) {i k : Nat} (hi : i < r) (hk : k < c) :
    CallOK Tryz.prog 190 ([] ++ ([iv (i : Nat), iv (k : Nat)] ++ [ptrA [.int (elz a (c + 1) 0 0)], ptrA (sC (r + 1 : Nat) (c + 1 : Nat) a b s)])) [] (.int (crZ a (c + 1) i k / b)) [] [] := by
  have h1 := elz_zm za ha.n (i := 0) (k := 0) (by omega) (by omega)
  have h2 := elz_zm za ha.n (i := i + 1) (k := k + 1) (by omega) (by omega)
  have h3 := elz_zm za ha.n (i := i + 1) (k := 0) (by omega) (by omega)
  have h4 := elz_zm za ha.n (i := 0) (k := k + 1) (by omega) (by omega)
  have h5 := crZ_zs za ha.n hi hk
  have w1 := winc (i := i) (by have := ha.r; omega)
  have w2 := winc (i := k) (by have := ha.c; omega)
  have k1 := b_at ha (i := i + 1) (k := k + 1) (by omega) (by omega)
  have k2 := b_at ha (i := i + 1) (k := 0) (by omega) (by omega)
  have k3 := b_at ha (i := 0) (k := k + 1) (by omega) (by omega)
  have k4 := b_cross (elz a (c + 1) 0 0) (elz a (c + 1) (i + 1) (k + 1)) (elz a (c + 1) (i + 1) 0) (elz a (c + 1) 0 (k + 1)) (by omega)
  obtain ⟨q, ok, k5⟩ := zz_Div (crZ a (c + 1) i k) b (by omega)
  unfold crZ at *
  refine callV (Z := []) tabOK mixedOK Tryz.func190 rfl (by kernel_rfl) rfl rfl (by kernel_rfl) rfl ?_
  intro W0 w0 ρ0 hE
  conv => whnf
  (repeat ((first | refine step_i (by kernel_rfl) ?_ | refine g_c (by assumption) ?_ | refine g_o (op_loadA rfl (ev_ok rfl) (tgt rfl) rfl (Nat.succ_ne_zero _) rfl) ?_ | refine g_o (op_fieldA rfl (ev_ok rfl) (tgt rfl) rfl rfl (Nat.succ_ne_zero _) rfl) ?_ | rw [w1] | rw [w2]); conv => whnf)); (first | exact Recast.refl _ | exact Frz.recast (Recast.refl _) rfl | (refine Frz.one rfl rfl ?_; skip) | (refine Frz.tup ?_; skip))
/-- The elements of the next stage. -/
abbrev nxt (r c : Nat) (a : List Int) (b : Int) : List Int := mkz r c fun i k => crZ a (c + 1) i k / b
theorem b_next {r c B : Nat} {a : List Int} {b s : Int} (ha : OKZ (r + 1) (c + 1) a) (za : Zm B a) (hb : 4 * B + zs b ≤ 1073741824) :
    CallOK Tryz.prog 99 [sA (r + 1 : Nat) (c + 1 : Nat) a b s] [] (sA r c (nxt r c a b) (elz a (c + 1) 0 0) s) [] [] := by
  have k1 := b_at ha (i := 0) (k := 0) (by omega) (by omega)
  have k2 := b_made2 (r := r) (c := c) (by have := ha.r; omega) (by have := ha.c; omega) (fun i k => crZ a (c + 1) i k / b) 190 (ptrP [.int (elz a (c + 1) 0 0)]) (ptrP (sC (r + 1 : Nat) (c + 1 : Nat) a b s)) fun i k hi hk => b_next1 ha za hb hi hk
  have w1 : IntKind.i64.wrap (((r + 1 : Nat) : Int) - 1) = (r : Int) := by rw [wrap_i64 (by omega) (by have := ha.r; omega)]; omega
  have w2 : IntKind.i64.wrap (((c + 1 : Nat) : Int) - 1) = (c : Int) := by rw [wrap_i64 (by omega) (by have := ha.c; omega)]; omega
  refine callF (Z := [1, 100002]) tabOK mixedOK Tryz.func99 rfl (by kernel_rfl) (by first | rfl | (simp [keylessL, keyless, keylessL_map, *]; done)) (by first | rfl | (simp [keylessL, keyless, keylessL_map, *]; done)) (by kernel_rfl) rfl ?_
  intro w0 ρ0 hE
  conv => whnf
  (repeat (first | (refine g_c (by assumption) ?_; conv => whnf) | (refine g_o (op_loadA rfl (ev_ok rfl) (tgt rfl) rfl (Nat.succ_ne_zero _) rfl) ?_; conv => whnf) | (refine g_o (op_fieldA rfl (ev_ok rfl) (tgt rfl) rfl rfl (Nat.succ_ne_zero _) rfl) ?_; conv => whnf)))
  refine SWx_freezeP 3 3 (fun _ h => h) rfl rfl rfl ?_
  refine SWx_go hE ?_
  conv => whnf
  (repeat ((first | refine g_c (by assumption) ?_ | refine g_o (op_loadA rfl (ev_ok rfl) (tgt rfl) rfl (Nat.succ_ne_zero _) rfl) ?_ | refine g_o (op_fieldA rfl (ev_ok rfl) (tgt rfl) rfl rfl (Nat.succ_ne_zero _) rfl) ?_ | refine g_o (op_makeFunc rfl rfl rfl) ?_ | rw [w1] | rw [w2]); conv => whnf))
  (first | exact Recast.refl _ | exact Frz.recast (Recast.refl _) rfl | (refine Frz.one rfl rfl ?_; skip) | (refine Frz.tup ?_; skip))

theorem rows_seqZ (l : List Int) : ∀ (ρ : Rho) z, HasZ (bareR ρ.imm ρ.glob) (l.map SV.int) z → (∀ x ∈ l.map SV.int, x.width = 3) → Go.Sx.Rows ρ 3 (.seq 3 (l.map .int)) z := fun _ _ h k => ⟨rfl, h, k⟩
theorem b_Clone (l : List Int) (hl : l.length < 1099511627776) (h0 : l ≠ []) : CallOK Tryz.prog 233 [zvec l] [] (.slc 2001 3 0 l.length) [(2001, zB3 l)] [] := by
  have hne : l.map SV.int ≠ [] := by simpa using h0
  refine callK (Z := []) tabOK mixedOK Tryz.func233 rfl (by kernel_rfl) (args := [zvec l]) (fk := []) (c := .slc 7 3 0 l.length) (new := [(7, zB3 l)]) (upd := []) (ShapeOK.of rfl rfl rfl rfl rfl rfl rfl rfl rfl rfl rfl) rfl (renBy [(7, 2001)]) NamesOK.one ?_
  intro W0 w0 ρ0 hE
  conv => whnf
  (repeat (first | (refine step_w2 rfl rfl ?_; conv => whnf) | (refine ⟨_, op_eqNilV rfl (ev_ok rfl) (ev_ok rfl) Tryz.underlying53 hne, ?_⟩; conv => whnf)))
  refine ⟨.slc 7 3 0 (0 + l.length), [(5, ⟨36, true, .seq 3 []⟩)], [(7, zB3 l)], [(5, ⟨36, true, .dead⟩)], op_appendV rfl rfl rfl (ev_ok rfl) (ev_ok rfl) (rows_seqZ l) (tabOK.get (t := 53) rfl) rfl (tabOK.get (t := 53) rfl) rfl (tabOK.get (t := 36) rfl) (List.mem_cons_self ..) rfl rfl (by simp [dlen]) (by simp) (by simp [dlen]) (by simp [dapp]; exact List.take_of_length_le (by simp)) (by show (0 + _) * ti36.bytes ≤ _; simp only [tiB36]; omega) (by omega), one_fk rfl, one_new rfl, one_upd (List.mem_cons_self ..) rfl rfl rfl, ?_⟩
  conv => whnf
  exact ⟨by rw [Nat.zero_add]; exact Recast.refl _, (fun k b h => by simp only [List.mem_singleton, Prod.mk.injEq] at h; obtain ⟨rfl, rfl⟩ := h; rfl), (fun _ _ h => by cases h)⟩
/-- A row brought to the top, in turn: k elements exchanged. -/
def swk (r c : Nat) (a : List Int) (i k : Nat) : List Int := mkz r c fun p q => if q < k then swapZ (elz a c) 0 i p q else elz a c p q
theorem set_elz {a : List Int} {r n i k j l : Nat} {q : Int} (ha : a.length = r * n) (hi : i < r) (hk : k < n) (hj : j < r) (hl : l < n) : elz (a.set (i * n + k) q) n j l = if i = j ∧ k = l then q else elz a n j l := by
  have h1 := idx_lt hi hk
  have h2 := idx_lt hj hl
  simp only [elz, List.getD_eq_getElem?_getD, List.getElem?_set]
  by_cases e : i * n + k = j * n + l
  · have e1 := congrArg (· / n) e
    have e2 := congrArg (· % n) e
    simp only [idx_div hk, idx_div hl, idx_mod hk, idx_mod hl] at e1 e2
    subst e1 e2
    simp [ha, h1]
  · rw [if_neg e, if_neg (by rintro ⟨rfl, rfl⟩; exact e rfl)]
theorem swk_zero {r c : Nat} {a : List Int} {i : Nat} (ha : a.length = r * c) : swk r c a i 0 = a :=
  mkz_ext ha fun p q _ _ => if_neg (by omega)
theorem swk_len (r c : Nat) (a : List Int) (i k : Nat) : (swk r c a i k).length = r * c := mkz_len ..
theorem swk_at {r c : Nat} {a : List Int} {i k p q : Nat} (hp : p < r) (hq : q < c) (hk : k ≤ q) : elz (swk r c a i k) c p q = elz a c p q := by
  rw [swk, mkz_el hp hq, if_neg (by omega)]
theorem swk_set {r c : Nat} {a : List Int} {i k : Nat} (hi : i < r) (h0 : 0 < i) (hk : k < c) :
    ((swk r c a i k).set k (elz a c i k)).set (i * c + k) (elz a c 0 k) = swk r c a i (k + 1) := by
  have hl := swk_len r c a i k
  have e0 : (swk r c a i k).set k (elz a c i k) = (swk r c a i k).set (0 * c + k) (elz a c i k) := by rw [Nat.zero_mul, Nat.zero_add]
  rw [e0]
  refine maz_ext (by rw [List.length_set, List.length_set, hl]) (swk_len ..) fun p q hp hq => ?_
  rw [set_elz (by rw [List.length_set, hl]) hi hk hp hq, set_elz hl (by omega) hk hp hq, swk, swk, mkz_el hp hq, mkz_el hp hq]
  unfold swapZ
  by_cases e1 : i = p ∧ k = q
  · obtain ⟨rfl, rfl⟩ := e1
    rw [if_pos ⟨rfl, rfl⟩, if_pos (by omega), if_neg (by omega), if_pos rfl]
  · rw [if_neg e1]
    by_cases e2 : 0 = p ∧ k = q
    · obtain ⟨rfl, rfl⟩ := e2
      rw [if_pos ⟨rfl, rfl⟩, if_pos (by omega), if_pos rfl]
    · rw [if_neg e2]
      by_cases e3 : q = k
      · subst e3
        rw [if_neg (by omega), if_pos (by omega), if_neg (fun h => e2 ⟨h.symm, rfl⟩), if_neg (fun h => e1 ⟨h.symm, rfl⟩)]
      · by_cases e4 : q < k
        · rw [if_pos e4, if_pos (show q < k + 1 by omega)]
        · rw [if_neg e4, if_neg (show ¬ q < k + 1 by omega)]
theorem swk_all {r c : Nat} {a : List Int} {i : Nat} : swk r c a i c = mkz r c (swapZ (elz a c) 0 i) := mkz_congr fun p q _ hq => if_pos hq
end Go.Proofs.YtkpfineikahgfaaGreatDoor

namespace Go.Proofs.YtkpfineikahgfaaGreatDoor
open Go.Sx
set_option linter.unusedSimpArgs false
set_option linter.unusedVariables false
set_option maxRecDepth 100000
set_option maxHeartbeats 40000000

theorem nest3 {ρ : Rho} {a b c : SV} {l : List SV} {x : List Value} (h : HasC ρ (.agg (a :: b :: c :: l)) x) : HasC ρ (.agg (.agg [a, b, c] :: l)) x := by
  simp only [HasC, HasZ] at h ⊢
  obtain ⟨z, ⟨x1, r1, rfl, h1, x2, r2, rfl, h2, x3, r3, rfl, h3, h4⟩, rfl⟩ := h
  exact ⟨_, ⟨_, r3, rfl, ⟨_, ⟨x1, _, rfl, h1, x2, _, rfl, h2, x3, _, rfl, h3, rfl⟩, rfl⟩, h4⟩, by simp⟩
abbrev zS : Blk := ⟨149, true, .one [iv 0, iv 0, .val (.slice none 0 0), .int 0, iv 0]⟩
abbrev bS (r c : Int) (a : List Int) (b s : Int) : Blk := ⟨149, true, .one (sC r c a b s)⟩
theorem b_turned_no {r c : Nat} {a : List Int} {b s : Int} (ha : OKZ r (c + 1) a) (h : ∀ i, i < r → elz a (c + 1) i 0 = 0) :
    CallOK Tryz.prog 188 [sA r (c + 1 : Nat) a b s] [] (.tup [sA r (c + 1 : Nat) a b s, .val (.bool false)]) [] [] := by
  have hr := ha.r
  refine callF (Z := []) tabOK mixedOK Tryz.func188 rfl (by kernel_rfl) (by first | rfl | (simp [keylessL, keyless, keylessL_map, *]; done)) (by first | rfl | (simp [keylessL, keyless, keylessL_map, *]; done)) (by kernel_rfl) rfl ?_
  intro w0 ρ0 hE
  conv => whnf
  (repeat (first | (rw [Nat.zero_add]; conv => whnf)))
  refine SW_loopN hE (fun k => k) [1, 2, 3, 9, 10] [1, 2] (fun m fr hp => ∃ i : Nat, m = r - i ∧ i ≤ r ∧ fr = [(1, .ptr 1 0 0 0), (2, .ptr 2 0 0 0), (3, .val (.bool false)), (9, iv r), (10, iv (i : Nat))] ∧
    hp = [(1, bS r (c + 1 : Nat) a b s), (2, zS)]) r ?_ ?_ ?_
  · kernel_rfl
  · exact ⟨0, rfl, Nat.zero_le _, rfl, rfl⟩
  rintro m _ _ ⟨i, rfl, hi, rfl, rfl⟩
  conv => whnf
  by_cases hlt : i < r
  · have t1 := dlt hlt
    have t2 := winc (i := i) (by omega)
    have k1 := b_at ha hlt (k := 0) (by omega)
    rw [h i hlt] at k1
    have k2 := c_Sign 0
    (repeat ((first | refine step_w1 rfl rfl ?_ | refine g_c (by assumption) ?_ | rw [t1] | rw [t2] | rw [Nat.zero_add]); conv => whnf))
    exact ⟨r - (i + 1), fun k => k, [1, 2, 3, 9, 10], [1, 2], by omega, by kernel_rfl, i + 1, rfl, hlt, rfl, rfl⟩
  · have t1 := dge hlt
    (repeat (first | (refine step_w2 rfl rfl ?_; conv => whnf) | (rw [t1]; conv => whnf)))
    (first | exact Recast.refl _ | exact Frz.recast (Recast.refl _) rfl | (refine Frz.one rfl rfl ?_; skip) | (refine Frz.tup ?_; skip))
theorem b_turned {r c : Nat} {a : List Int} {b s : Int} (ha : OKZ r (c + 1) a) {j : Nat} (hj : j < r) (h : ∀ i, i < j → elz a (c + 1) i 0 = 0) (h0 : elz a (c + 1) j 0 ≠ 0) (hs : 0 ≤ s ∧ s ≤ 1000) :
    CallOK Tryz.prog 188 [sA r (c + 1 : Nat) a b s] [] (.tup [sA r (c + 1 : Nat) (mkz r (c + 1) (swapZ (elz a (c + 1)) 0 j)) b (if 0 < j then s + 1 else s), .val (.bool true)]) [] [] := by
  have hr := ha.r
  have hc := ha.c
  refine callF (Z := []) tabOK mixedOK Tryz.func188 rfl (by kernel_rfl) (by first | rfl | (simp [keylessL, keyless, keylessL_map, *]; done)) (by first | rfl | (simp [keylessL, keyless, keylessL_map, *]; done)) (by kernel_rfl) rfl ?_
  intro w0 ρ0 hE
  conv => whnf
  (repeat (first | (rw [Nat.zero_add]; conv => whnf)))
  refine SW_loopN hE (fun k => k) [1, 2, 3, 9, 10] [1, 2] (fun m fr hp => ∃ i : Nat, m = r - i ∧ i ≤ j ∧ fr = [(1, .ptr 1 0 0 0), (2, .ptr 2 0 0 0), (3, .val (.bool false)), (9, iv r), (10, iv (i : Nat))] ∧
    hp = [(1, bS r (c + 1 : Nat) a b s), (2, zS)]) r ?_ ?_ ?_
  · kernel_rfl
  · exact ⟨0, rfl, Nat.zero_le _, rfl, rfl⟩
  rintro m _ _ ⟨i, rfl, hi, rfl, rfl⟩
  conv => whnf
  have hlt : i < r := by omega
  have t1 := dlt hlt
  have t2 := winc (i := i) (by omega)
  have k1 := b_at ha hlt (k := 0) (by omega)
  have k2 := c_Sign (elz a (c + 1) i 0)
  by_cases hij : i < j
  · rw [h i hij] at k1
    have k2 := c_Sign 0
    (repeat ((first | refine step_w1 rfl rfl ?_ | refine g_c (by assumption) ?_ | rw [t1] | rw [t2] | rw [Nat.zero_add]); conv => whnf))
    exact ⟨r - (i + 1), fun k => k, [1, 2, 3, 9, 10], [1, 2], by omega, by kernel_rfl, i + 1, rfl, hij, rfl, rfl⟩
  obtain rfl : i = j := by omega
  have t3 : ((elz a (c + 1) i 0).sign == 0) = false := beq_eq_false_iff_ne.2 fun e => h0 (Int.sign_eq_zero_iff_zero.1 e)
  by_cases hz : 0 < i
  · have t4 : decide ((i : Int) > 0) = true := decide_eq_true (by omega)
    rw [if_pos hz]
    have hl : a ≠ [] := by
      intro e; have := ha.n; rw [e] at this
      have h2 := idx_lt hlt (show 0 < c + 1 by omega)
      rw [← this] at h2; exact absurd h2 (Nat.not_lt_zero _)
    have k3 := b_Clone a (by have := ha.n; have : r * (c + 1) ≤ 2048 * 2048 := Nat.mul_le_mul hr hc; omega) hl
    have hn : a.length ≤ 2048 * 2048 := by rw [ha.n]; exact Nat.mul_le_mul hr hc
    (repeat ((first | refine step_w1 rfl rfl ?_ | refine step_w2 rfl rfl ?_ | refine g_c (by assumption) ?_ | refine g_cn (by assumption) rfl ?_ | rw [t1] | rw [t3] | rw [t4] | rw [Nat.zero_add]); conv => whnf))
    refine SW_loopN hE (fun k => k) [1, 2, 3, 4, 5, 9, 10, 27, 28] [1, 2, 2001] (fun m fr hp => ∃ k : Nat, m = c + 1 - k ∧ k ≤ c + 1 ∧ fr = [(1, .ptr 1 0 0 0), (2, .ptr 2 0 0 0), (3, .val (.bool false)), (4, iv (i : Nat)), (5, .slc 2001 3 0 a.length), (9, iv r), (10, iv (i : Nat)), (27, iv (c + 1 : Nat)), (28, iv (k : Nat))] ∧
      hp = [(1, bS r (c + 1 : Nat) a b s), (2, zS), (2001, zB3 (swk r (c + 1) a i k))]) (c + 1) ?_ ?_ ?_
    · kernel_rfl
    · exact ⟨0, rfl, Nat.zero_le _, rfl, by rw [swk_zero ha.n]; rfl⟩
    clear k1 k2 k3
    rintro m _ _ ⟨k, rfl, hk, rfl, rfl⟩
    conv => whnf
    by_cases hlk : k < c + 1
    · have t5 := dlt hlk
      have t6 := winc (i := k) (by omega)
      obtain ⟨w1, w2⟩ := idx_w (i := i) (k := k) (c := c + 1) (by omega) (by omega) (by omega)
      have hx := idx_lt hlt hlk
      have hk0 : k < r * (c + 1) := by have := idx_lt (show 0 < r by omega) hlk; omega
      have hsl := swk_len r (c + 1) a i k
      have g1 : ((swk r (c + 1) a i k).map SV.int).getD (i * (c + 1) + k) SV.any = .int (elz a (c + 1) i k) := by
        rw [map_getD (d := 0) (by rw [hsl]; exact hx)]
        exact congrArg SV.int (swk_at hlt hlk (Nat.le_refl _))
      have g2 : ((swk r (c + 1) a i k).map SV.int).getD k SV.any = .int (elz a (c + 1) 0 k) := by
        rw [map_getD (d := 0) (by rw [hsl]; exact hk0)]
        have := swk_at (a := a) (i := i) (p := 0) (q := k) (show 0 < r by omega) hlk (Nat.le_refl _)
        rw [elz, Nat.zero_mul, Nat.zero_add] at this
        exact congrArg SV.int this
      have hnl := ha.n
      have g3 : (((swk r (c + 1) a i k).map SV.int).set k (.int (elz a (c + 1) i k))).getD (i * (c + 1) + k) SV.any = .int (elz a (c + 1) i k) := by
        rw [← List.map_set, map_getD (d := 0) (by rw [List.length_set, hsl]; exact hx)]
        have hne : k ≠ i * (c + 1) + k := by have := Nat.mul_le_mul_right (c + 1) (show 1 ≤ i from hz); omega
        rw [List.getD_eq_getElem?_getD, List.getElem?_set_ne hne, ← List.getD_eq_getElem?_getD]
        exact congrArg SV.int (swk_at hlt hlk (Nat.le_refl _))
      (repeat ((first | refine step_w1 rfl rfl ?_ | refine step_i (by kernel_rfl) ?_ | refine step_oL (by first | omega | decide | (simp only [tl0, dlen, List.length_replicate, List.length_set, List.length_map, List.length_zipWith, List.length_take, List.length_append, List.length_cons, List.length_nil]; omega)) ?_ | refine step_oA (by first | omega | decide | (simp only [tl0, dlen, List.length_replicate, List.length_set, List.length_map, List.length_zipWith, List.length_take, List.length_append, List.length_cons, List.length_nil]; omega)) ?_ | rw [t5] | rw [w1] | rw [w2] | rw [g1] | rw [g2] | rw [g3] | rw [t6] | rw [Int.toNat_natCast] | rw [Nat.zero_add]); conv => whnf))
      refine ⟨c + 1 - (k + 1), fun k => k, [1, 2, 3, 4, 5, 9, 10, 27, 28], [1, 2, 2001], by omega, by kernel_rfl, k + 1, rfl, hlk, rfl, ?_⟩
      rw [← swk_set hlt hz hlk, zB3, List.map_set, List.map_set]
      rfl
    · have t5 := dge hlk
      obtain rfl : k = c + 1 := by omega
      rw [swk_all]
      have t7 : IntKind.i64.wrap (s + 1) = s + 1 := wrap_i64 (by omega) (by omega)
      (repeat (first | (refine step_w2 rfl rfl ?_; conv => whnf) | (rw [t5]; conv => whnf) | (rw [t7]; conv => whnf)))
      refine Frz.tup (FrzL.cons (FrzC.via (fun _ _ => nest3) rfl (FrzC.agg (FrzL.cons (FrzC.agg ?_) (FrzL.cons (FrzC.keyless rfl) (FrzL.cons (FrzC.keyless rfl) FrzL.nil))))) (FrzL.cons (FrzC.keyless rfl) FrzL.nil))
      exact FrzL.cons (FrzC.keyless rfl) (FrzL.cons (FrzC.keyless rfl) (FrzL.cons (FrzC.seq rfl (keylessL_map (fun _ => rfl) _) (by rw [List.length_map, mkz_len]; exact ha.n)) FrzL.nil))
  · obtain rfl : i = 0 := by omega
    have t4 : decide (((0 : Nat) : Int) > 0) = false := decide_eq_false (by omega)
    rw [if_neg hz, swapZ_self, mkz_self ha.n]
    (repeat ((first | refine step_w1 rfl rfl ?_ | refine step_w2 rfl rfl ?_ | refine g_c (by assumption) ?_ | rw [t1] | rw [t3]); conv => whnf))
    (first | exact Recast.refl _ | exact Frz.recast (Recast.refl _) rfl | (refine Frz.one rfl rfl ?_; skip) | (refine Frz.tup ?_; skip))
end Go.Proofs.YtkpfineikahgfaaGreatDoor

namespace Go.Proofs.YtkpfineikahgfaaGreatDoor
open Go.Sx
set_option linter.unusedSimpArgs false
set_option linter.unusedVariables false
set_option maxRecDepth 100000
set_option maxHeartbeats 4000000

/-- A row with a first element, or none. -/
theorem piv_or (a : List Int) (c r : Nat) : (∀ i, i < r → elz a c i 0 = 0) ∨ ∃ i, i < r ∧ elz a c i 0 ≠ 0 ∧ ∀ j, j < i → elz a c j 0 = 0 := by
  induction r with
  | zero => exact .inl fun i hi => by omega
  | succ r ih =>
    rcases ih with h | ⟨i, h1, h2⟩
    · by_cases g : elz a c r 0 = 0
      · refine .inl fun i hi => ?_
        by_cases e : i = r
        · rw [e, g]
        · exact h i (by omega)
      · exact .inr ⟨r, by omega, g, h⟩
    · exact .inr ⟨i, by omega, h2⟩
/-- What holds at stage s. -/
structure StOK (n s B : Nat) (A0 : Mz) (a : List Int) (b : Int) (w : Nat) : Prop where
  le : s ≤ n
  ex : ∃ A : Mz, a = mkz (n - s) (n - s) (bmZ s A) ∧ b = detZ s A ∧ b ≠ 0 ∧ detZ n A0 = sgZ w * detZ n A
  z : Zm (B * 4 ^ s) a
  zb : zs b ≤ B * 4 ^ s
  w : w ≤ s
theorem StOK.start {n B : Nat} {a : List Int} (ha : a.length = n * n) (hB : 2 ≤ B) (h : Zm B a) : StOK n 0 B (elz a n) a 1 0 where
  le := Nat.zero_le _
  ex := ⟨elz a n, by rw [← mkz_self ha, Nat.sub_zero]; exact mkz_congr fun i k hi hk => by rw [bmZ_zero, mkz_el hi hk], rfl, by decide, by rw [sgZ, Int.one_mul]⟩
  z := by rw [Nat.pow_zero, Nat.mul_one]; exact h
  zb := by rw [zs_1]; omega
  w := Nat.le_refl _
theorem StOK.fin {n B : Nat} {A0 : Mz} {a : List Int} {b : Int} {w : Nat} (h : StOK n n B A0 a b w) : detZ n A0 = if w % 2 = 1 then -b else b := by
  obtain ⟨A, _, rfl, _, e⟩ := h.ex
  rw [e, sgZ_mod]
  split <;> omega
theorem StOK.none {n s B : Nat} {A0 : Mz} {a : List Int} {b : Int} {w : Nat} (h : StOK n s B A0 a b w) (hs : s < n) (h0 : ∀ i, i < n - s → elz a (n - s) i 0 = 0) : detZ n A0 = 0 := by
  obtain ⟨A, rfl, rfl, hb, e⟩ := h.ex
  rw [e, bmZ_sing hb hs fun i hi => by have := h0 i (by omega); rwa [mkz_el (by omega) (by omega)] at this, Int.mul_zero]
/-- The stage with a row brought to the top. -/
theorem StOK.turn {n s B : Nat} {A0 : Mz} {a : List Int} {b : Int} {w j : Nat} (h : StOK n s B A0 a b w) (hj : s + j < n) :
    ∃ w', w' = (if 0 < j then w + 1 else w) ∧ (∃ A : Mz, mkz (n - s) (n - s) (swapZ (elz a (n - s)) 0 j) = mkz (n - s) (n - s) (bmZ s A) ∧ b = detZ s A ∧ b ≠ 0 ∧ detZ n A0 = sgZ w' * detZ n A) ∧ Zm (B * 4 ^ s) (mkz (n - s) (n - s) (swapZ (elz a (n - s)) 0 j)) := by
  obtain ⟨A, ha, hb, hb0, e⟩ := h.ex
  have hl : a.length = (n - s) * (n - s) := by rw [ha, mkz_len]
  refine ⟨_, rfl, ⟨swapZ A s (s + j), ?_, ?_, hb0, ?_⟩, ?_⟩
  · refine mkz_congr fun p q hp hq => ?_
    rw [bmZ_swap]
    have e2 : ∀ p, p < n - s → elz a (n - s) p q = bmZ s A p q := fun p hp => by rw [ha, mkz_el hp hq]
    unfold swapZ
    by_cases h1 : p = 0
    · rw [if_pos h1, if_pos h1, e2 j (by omega)]
    · rw [if_neg h1, if_neg h1]
      by_cases h2 : p = j
      · rw [if_pos h2, if_pos h2, e2 0 (by omega)]
      · rw [if_neg h2, if_neg h2, e2 p hp]
  · rw [detZ_swap_lead, hb]
  · by_cases g : 0 < j
    · rw [if_pos g, detZ_swap A (by omega) hj (by omega), sgZ, e, Int.neg_mul_neg]
    · rw [if_neg g, show s + j = s by omega, swapZ_self, e]
  · refine Zm_mk fun p q hp hq => ?_
    unfold swapZ
    split
    · exact elz_zm h.z hl (by omega) hq
    · split
      · exact elz_zm h.z hl (by omega) hq
      · exact elz_zm h.z hl hp hq
theorem StOK.next {n s B : Nat} {A0 : Mz} {a : List Int} {b : Int} {w : Nat} (hs : s < n) (hw : w ≤ s + 1) (hz : Zm (B * 4 ^ s) a) (hx : ∃ A : Mz, a = mkz (n - s) (n - s) (bmZ s A) ∧ b = detZ s A ∧ b ≠ 0 ∧ detZ n A0 = sgZ w * detZ n A) (h0 : elz a (n - s) 0 0 ≠ 0) :
    StOK n (s + 1) B A0 (nxt (n - (s + 1)) (n - (s + 1)) a b) (elz a (n - s) 0 0) w := by
  obtain ⟨A, ha, hb, hb0, e⟩ := hx
  have hl : a.length = (n - s) * (n - s) := by rw [ha, mkz_len]
  have hn : n - s = n - (s + 1) + 1 := by omega
  have e2 : ∀ p q, p < n - s → q < n - s → elz a (n - s) p q = bmZ s A p q := fun p q hp hq => by rw [ha, mkz_el hp hq]
  have hpow : B * 4 ^ (s + 1) = 4 * (B * 4 ^ s) := by rw [Nat.pow_succ]; rw [← Nat.mul_assoc, Nat.mul_comm]
  refine ⟨hs, ⟨A, ?_, ?_, h0, e⟩, ?_, ?_, hw⟩
  · refine mkz_congr fun i k hi hk => ?_
    rw [crZ, ← hn, e2 0 0 (by omega) (by omega), e2 (i + 1) (k + 1) (by omega) (by omega), e2 (i + 1) 0 (by omega) (by omega), e2 0 (k + 1) (by omega) (by omega), hb]
    exact bmZ_div (by rwa [hb] at hb0) i k
  · rw [e2 0 0 (by omega) (by omega), bmZ_first]
  · rw [hpow]
    refine Zm_mk fun i k hi hk => Nat.le_trans (zs_div _ _) ?_
    exact crZ_zs hz (by rw [hl, hn]) hi hk
  · rw [hpow]
    have := elz_zm hz hl (i := 0) (k := 0) (by omega) (by omega); omega
end Go.Proofs.YtkpfineikahgfaaGreatDoor

namespace Go.Proofs.YtkpfineikahgfaaGreatDoor
open Go.Sx
set_option linter.unusedSimpArgs false
set_option linter.unusedVariables false
set_option maxRecDepth 100000
set_option maxHeartbeats 40000000


abbrev zIB : Blk := ⟨36, true, .one [.int 0]⟩
theorem b_det {n B : Nat} {a : List Int} (ha : OKZ n n a) (hB : 2 ≤ B) (za : Zm B a) (hn : n ≤ 40) (hb : 2 * (B * 4 ^ n) ≤ 1073741824) : CallOK Tryz.prog 96 [wA n n a] [] (.int (detZ n (elz a n))) [] [] := by
  have k0 := b_begin n n a
  have hs0 := StOK.start ha.n hB za
  generalize elz a n = A0 at *
  refine callV (Z := [1]) tabOK mixedOK Tryz.func96 rfl (by kernel_rfl) rfl rfl (by kernel_rfl) rfl ?_
  intro W0 w0 ρ0 hE
  conv => whnf
  (repeat (first | (refine g_c (by assumption) ?_; conv => whnf) | (refine g_o (op_loadA rfl (ev_ok rfl) (tgt rfl) rfl (Nat.succ_ne_zero _) rfl) ?_; conv => whnf)))
  refine SW_loopN hE (fun k => k) [2, 3] [2, 3] (fun m fr hp => ∃ (s : Nat) (a : List Int) (b : Int) (w : Nat), s + m = n ∧ StOK n s B A0 a b w ∧ fr = [(2, .ptr 2 0 0 0), (3, .ptr 3 0 0 0)] ∧
    hp = [(2, zIB), (3, bS m m a b w)]) n ?_ ?_ ?_
  · kernel_rfl
  · exact ⟨0, a, 1, 0, Nat.zero_add n, hs0, rfl, rfl⟩
  clear hs0 ha za k0
  rintro m _ _ ⟨s, a, b, w, hm, hst, rfl, rfl⟩
  conv => whnf
  cases m with
  | zero =>
    have t1 : decide (((0 : Nat) : Int) > 0) = false := by decide
    obtain rfl : s = n := hm
    have e := hst.fin
    have hw := hst.w
    have e3 : ((w : Nat) : Int).tmod 2 = (w : Int) % 2 := Int.tmod_eq_emod_of_nonneg (Int.natCast_nonneg _)
    by_cases hodd : w % 2 = 1
    · rw [if_pos hodd] at e
      rw [e]
      have k1 := c_Neg b
      have t2 : (((w : Nat) : Int).tmod 2 == 1) = true := by rw [e3]; exact beq_iff_eq.2 (by omega)
      (repeat ((first | refine step_w1 rfl rfl ?_ | refine step_w2 rfl rfl ?_ | refine step_oN (by first | omega | decide | (simp only [tl0, dlen, List.length_replicate, List.length_set, List.length_map, List.length_zipWith, List.length_take, List.length_append, List.length_cons, List.length_nil]; omega)) ?_ | refine g_c (by assumption) ?_ | rw [t1] | rw [t2]); conv => whnf)); (first | exact Recast.refl _ | exact Frz.recast (Recast.refl _) rfl | (refine Frz.one rfl rfl ?_; skip) | (refine Frz.tup ?_; skip))
    · rw [if_neg hodd] at e
      rw [e]
      have t2 : (((w : Nat) : Int).tmod 2 == 1) = false := by rw [e3]; exact beq_eq_false_iff_ne.2 (by omega)
      (repeat ((first | refine step_w2 rfl rfl ?_ | refine step_oN (by first | omega | decide | (simp only [tl0, dlen, List.length_replicate, List.length_set, List.length_map, List.length_zipWith, List.length_take, List.length_append, List.length_cons, List.length_nil]; omega)) ?_ | rw [t1] | rw [t2]); conv => whnf)); (first | exact Recast.refl _ | exact Frz.recast (Recast.refl _) rfl | (refine Frz.one rfl rfl ?_; skip) | (refine Frz.tup ?_; skip))
  | succ k =>
    have t1 : decide (((k + 1 : Nat) : Int) > 0) = true := decide_eq_true (by omega)
    have hns : n - s = k + 1 := by omega
    have hok : OKZ (k + 1) (k + 1) a := ⟨by omega, by omega, by obtain ⟨A, e, _⟩ := hst.ex; rw [e, mkz_len, hns]⟩
    rcases piv_or a (k + 1) (k + 1) with h0 | ⟨j, hj, hj0, hjb⟩
    · have k1 := b_turned_no (b := b) (s := w) hok h0
      have e := hst.none (by omega) (by rw [hns]; exact h0)
      rw [e]
      (repeat (first | (refine step_w1 rfl rfl ?_; conv => whnf) | (refine g_c (by assumption) ?_; conv => whnf) | (rw [t1]; conv => whnf))); (first | exact Recast.refl _ | exact Frz.recast (Recast.refl _) rfl | (refine Frz.one rfl rfl ?_; skip) | (refine Frz.tup ?_; skip))
    · have hpow : B * 4 ^ s * 4 ≤ B * 4 ^ n := by
        have : B * 4 ^ (s + 1) ≤ B * 4 ^ n := Nat.mul_le_mul_left B (Nat.pow_le_pow_right (by decide) (by omega))
        rwa [Nat.pow_succ, ← Nat.mul_assoc] at this
      have hzb := hst.zb
      have hw := hst.w
      have k1 := b_turned (b := b) (s := (w : Nat)) hok hj hjb hj0 (by omega)
      obtain ⟨w', ew, hx, hz⟩ := hst.turn (j := j) (by omega)
      rw [hns] at hx hz
      rw [show (if 0 < j then ((w : Nat) : Int) + 1 else (w : Nat)) = ((w' : Nat) : Int) from by rw [ew]; split <;> simp] at k1
      have hok' : OKZ (k + 1) (k + 1) (mkz (k + 1) (k + 1) (swapZ (elz a (k + 1)) 0 j)) := OKZ.mk' (by omega) (by omega) _
      have h00 : elz (mkz (k + 1) (k + 1) (swapZ (elz a (k + 1)) 0 j)) (k + 1) 0 0 ≠ 0 := by
        rw [mkz_el (by omega) (by omega)]; exact hj0
      have hw' : w' ≤ s + 1 := by rw [ew]; split <;> omega
      generalize mkz (k + 1) (k + 1) (swapZ (elz a (k + 1)) 0 j) = a' at *
      have k2 := b_next (b := b) (s := (w' : Nat)) hok' hz (by omega)
      have hnx := StOK.next (B := B) (A0 := A0) (a := a') (b := b) (w := w') (s := s) (n := n) (by omega) hw' hz (by rw [hns]; exact hx) (by rw [hns]; exact h00)
      rw [hns, show n - (s + 1) = k by omega] at hnx
      clear hst hx hz hok hok' hpow hzb
      (repeat ((first | refine step_w1 rfl rfl ?_ | refine step_w2 rfl rfl ?_ | refine g_c (by assumption) ?_ | rw [t1] | rw [Nat.zero_add]); conv => whnf))
      exact ⟨k, fun k => k, [2, 3], [2, 3], by omega, by kernel_rfl, s + 1, _, _, w', by omega, hnx, rfl, rfl⟩
end Go.Proofs.YtkpfineikahgfaaGreatDoor

namespace Go.Proofs.YtkpfineikahgfaaGreatDoor
open Go.Sx
set_option linter.unusedSimpArgs false
set_option linter.unusedVariables false
set_option maxRecDepth 100000
set_option maxHeartbeats 40000000

theorem b_over64 (F : Int → Int) (g : FuncId)  (l : List Int) (hl : l.length < 1099511627776) (hf : ∀ i, i < l.length → CallOK Tryz.prog g ([] ++ ([iv (l.getD i 0)] ++ [])) [] (.int (F (l.getD i 0))) [] []) :
    CallOK Tryz.prog 187 [ivec .i64 l, .clo g [] []] [] (zvec (l.map F)) [] [] := by
  have hz : (l.map F).length = l.length := List.length_map _
  refine callF (Z := []) tabOK mixedOK Tryz.func187 rfl (by kernel_rfl) (by first | rfl | (simp [keylessL, keyless, keylessL_map, *]; done)) (by first | rfl | (simp [keylessL, keyless, keylessL_map, *]; done)) (by kernel_rfl) rfl ?_
  intro w0 ρ0 hE
  conv => whnf
  (repeat (first | (refine step_oA (by first | omega | decide | (simp only [tl0, dlen, List.length_replicate, List.length_set, List.length_map, List.length_zipWith, List.length_take, List.length_append, List.length_cons, List.length_nil]; omega)) ?_; conv => whnf) | (refine g_o (op_lenM rfl rfl rfl (ev_ok rfl) (tgt rfl) rfl) ?_; conv => whnf) | (rw [Int.toNat_natCast]; conv => whnf)))
  refine SW_loopN hE (fun k => k) [1, 4, 5, 11, 12, 13] [10] (fun m fr hp => ∃ i, m = l.length - i ∧ i ≤ l.length ∧ fr = [(1, .clo g [] []), (4, .val (.slice none 0 0)), (5, .slc 10 3 0 l.length), (11, ivec .i64 l), (12, iv (l.length : Nat)), (13, iv (i : Nat))] ∧
    hp = [(10, zfil (l.map F) l.length i)]) l.length ?_ ?_ ?_
  · kernel_rfl
  · exact ⟨0, rfl, Nat.zero_le _, rfl, by rw [zfil, List.take_zero]; rfl⟩
  rintro m _ _ ⟨i, rfl, hi, rfl, rfl⟩
  conv => whnf
  have hlen := zfil_len hi hz
  by_cases hlt : i < l.length
  · have t1 := dlt hlt
    have t2 := winc (i := i) (by omega)
    have t3 := zfil_get hlt hz
    have k1 := hf i hlt
    rw [← map_getD (f := F) (d := 0) (e := 0) hlt] at k1
    (repeat ((first | refine step_oL (by first | omega | decide | (simp only [tl0, dlen, List.length_replicate, List.length_set, List.length_map, List.length_zipWith, List.length_take, List.length_append, List.length_cons, List.length_nil]; omega)) ?_ | refine step_oA (by first | omega | decide | (simp only [tl0, dlen, List.length_replicate, List.length_set, List.length_map, List.length_zipWith, List.length_take, List.length_append, List.length_cons, List.length_nil]; omega)) ?_ | refine g_c (by assumption) ?_ | refine tst_tt t1 ?_ | refine g_o (op_loadA rfl (ev_ok rfl) (tgt rfl) rfl (Nat.succ_ne_zero _) rfl) ?_ | refine g_o (op_indexN (α := Int) (d := 0) rfl (ev_ok rfl) (ev_ok rfl) (tgt rfl) rfl (tgt rfl) rfl (by omega)) ?_ | rw [t1] | rw [t3] | rw [t2] | rw [Int.toNat_natCast] | rw [Nat.zero_add]); conv => whnf))
    refine ⟨l.length - (i + 1), fun k => k, [1, 4, 5, 11, 12, 13], [10], by omega, by kernel_rfl, i + 1, rfl, hlt, rfl, ?_⟩
    rw [zfil, ← zfil_set hlt hz]
    rfl
  · have t1 := dge hlt
    have hI : i = l.length := by omega
    subst hI
    rw [zfil_all hz]
    (repeat (first | (refine tst_ff t1 ?_; conv => whnf))); (first | exact Recast.refl _ | exact Frz.recast (Recast.refl _) rfl | (refine Frz.one rfl rfl ?_; (repeat (first | (refine FrzC.seq rfl (by first | rfl | (apply keylessL_map; intro _; rfl)) ?_; (first | rfl | omega | (simp <;> fail) | (simp <;> omega)))))) | (refine Frz.tup ?_; skip))
theorem b_over1 (F : Int → Int) (g : FuncId) (p : Pred) (l : List Int) (hl : l.length < 1099511627776) (hf : ∀ i, i < l.length → CallOK Tryz.prog g ([] ++ ([iv (l.getD i 0)] ++ [.atom p])) [] (.int (F (l.getD i 0))) [] []) :
    CallOK Tryz.prog 116 [ivec .i64 l, .clo g [] [.atom p]] [] (zvec (l.map F)) [] [] := by
  have hz : (l.map F).length = l.length := List.length_map _
  refine callF (Z := []) tabOK mixedOK Tryz.func116 rfl (by kernel_rfl) (by first | rfl | (simp [keylessL, keyless, keylessL_map, *]; done)) (by first | rfl | (simp [keylessL, keyless, keylessL_map, *]; done)) (by kernel_rfl) rfl ?_
  intro w0 ρ0 hE
  conv => whnf
  (repeat (first | (refine step_oA (by first | omega | decide | (simp only [tl0, dlen, List.length_replicate, List.length_set, List.length_map, List.length_zipWith, List.length_take, List.length_append, List.length_cons, List.length_nil]; omega)) ?_; conv => whnf) | (refine g_o (op_lenM rfl rfl rfl (ev_ok rfl) (tgt rfl) rfl) ?_; conv => whnf) | (rw [Int.toNat_natCast]; conv => whnf)))
  refine SW_loopN hE (fun k => k) [1, 4, 5, 11, 12, 13] [10] (fun m fr hp => ∃ i, m = l.length - i ∧ i ≤ l.length ∧ fr = [(1, .clo g [] [.atom p]), (4, .val (.slice none 0 0)), (5, .slc 10 3 0 l.length), (11, ivec .i64 l), (12, iv (l.length : Nat)), (13, iv (i : Nat))] ∧
    hp = [(10, zfil (l.map F) l.length i)]) l.length ?_ ?_ ?_
  · kernel_rfl
  · exact ⟨0, rfl, Nat.zero_le _, rfl, by rw [zfil, List.take_zero]; rfl⟩
  rintro m _ _ ⟨i, rfl, hi, rfl, rfl⟩
  conv => whnf
  have hlen := zfil_len hi hz
  by_cases hlt : i < l.length
  · have t1 := dlt hlt
    have t2 := winc (i := i) (by omega)
    have t3 := zfil_get hlt hz
    have k1 := hf i hlt
    rw [← map_getD (f := F) (d := 0) (e := 0) hlt] at k1
    (repeat ((first | refine step_oL (by first | omega | decide | (simp only [tl0, dlen, List.length_replicate, List.length_set, List.length_map, List.length_zipWith, List.length_take, List.length_append, List.length_cons, List.length_nil]; omega)) ?_ | refine step_oA (by first | omega | decide | (simp only [tl0, dlen, List.length_replicate, List.length_set, List.length_map, List.length_zipWith, List.length_take, List.length_append, List.length_cons, List.length_nil]; omega)) ?_ | refine g_c (by assumption) ?_ | refine tst_tt t1 ?_ | refine g_o (op_loadA rfl (ev_ok rfl) (tgt rfl) rfl (Nat.succ_ne_zero _) rfl) ?_ | refine g_o (op_indexN (α := Int) (d := 0) rfl (ev_ok rfl) (ev_ok rfl) (tgt rfl) rfl (tgt rfl) rfl (by omega)) ?_ | rw [t1] | rw [t3] | rw [t2] | rw [Int.toNat_natCast] | rw [Nat.zero_add]); conv => whnf))
    refine ⟨l.length - (i + 1), fun k => k, [1, 4, 5, 11, 12, 13], [10], by omega, by kernel_rfl, i + 1, rfl, hlt, rfl, ?_⟩
    rw [zfil, ← zfil_set hlt hz]
    rfl
  · have t1 := dge hlt
    have hI : i = l.length := by omega
    subst hI
    rw [zfil_all hz]
    (repeat (first | (refine tst_ff t1 ?_; conv => whnf))); (first | exact Recast.refl _ | exact Frz.recast (Recast.refl _) rfl | (refine Frz.one rfl rfl ?_; (repeat (first | (refine FrzC.seq rfl (by first | rfl | (apply keylessL_map; intro _; rfl)) ?_; (first | rfl | omega | (simp <;> fail) | (simp <;> omega)))))) | (refine Frz.tup ?_; skip))
theorem b_over2 (F : Int → Int) (g : FuncId) (p q : Pred) (l : List Int) (hl : l.length < 1099511627776) (hf : ∀ i, i < l.length → CallOK Tryz.prog g ([] ++ ([iv (l.getD i 0)] ++ [.atom p, .atom q])) [] (.int (F (l.getD i 0))) [] []) :
    CallOK Tryz.prog 116 [ivec .i64 l, .clo g [] [.atom p, .atom q]] [] (zvec (l.map F)) [] [] := by
  have hz : (l.map F).length = l.length := List.length_map _
  refine callF (Z := []) tabOK mixedOK Tryz.func116 rfl (by kernel_rfl) (by first | rfl | (simp [keylessL, keyless, keylessL_map, *]; done)) (by first | rfl | (simp [keylessL, keyless, keylessL_map, *]; done)) (by kernel_rfl) rfl ?_
  intro w0 ρ0 hE
  conv => whnf
  (repeat (first | (refine step_oA (by first | omega | decide | (simp only [tl0, dlen, List.length_replicate, List.length_set, List.length_map, List.length_zipWith, List.length_take, List.length_append, List.length_cons, List.length_nil]; omega)) ?_; conv => whnf) | (refine g_o (op_lenM rfl rfl rfl (ev_ok rfl) (tgt rfl) rfl) ?_; conv => whnf) | (rw [Int.toNat_natCast]; conv => whnf)))
  refine SW_loopN hE (fun k => k) [1, 4, 5, 11, 12, 13] [10] (fun m fr hp => ∃ i, m = l.length - i ∧ i ≤ l.length ∧ fr = [(1, .clo g [] [.atom p, .atom q]), (4, .val (.slice none 0 0)), (5, .slc 10 3 0 l.length), (11, ivec .i64 l), (12, iv (l.length : Nat)), (13, iv (i : Nat))] ∧
    hp = [(10, zfil (l.map F) l.length i)]) l.length ?_ ?_ ?_
  · kernel_rfl
  · exact ⟨0, rfl, Nat.zero_le _, rfl, by rw [zfil, List.take_zero]; rfl⟩
  rintro m _ _ ⟨i, rfl, hi, rfl, rfl⟩
  conv => whnf
  have hlen := zfil_len hi hz
  by_cases hlt : i < l.length
  · have t1 := dlt hlt
    have t2 := winc (i := i) (by omega)
    have t3 := zfil_get hlt hz
    have k1 := hf i hlt
    rw [← map_getD (f := F) (d := 0) (e := 0) hlt] at k1
    (repeat ((first | refine step_oL (by first | omega | decide | (simp only [tl0, dlen, List.length_replicate, List.length_set, List.length_map, List.length_zipWith, List.length_take, List.length_append, List.length_cons, List.length_nil]; omega)) ?_ | refine step_oA (by first | omega | decide | (simp only [tl0, dlen, List.length_replicate, List.length_set, List.length_map, List.length_zipWith, List.length_take, List.length_append, List.length_cons, List.length_nil]; omega)) ?_ | refine g_c (by assumption) ?_ | refine tst_tt t1 ?_ | refine g_o (op_loadA rfl (ev_ok rfl) (tgt rfl) rfl (Nat.succ_ne_zero _) rfl) ?_ | refine g_o (op_indexN (α := Int) (d := 0) rfl (ev_ok rfl) (ev_ok rfl) (tgt rfl) rfl (tgt rfl) rfl (by omega)) ?_ | rw [t1] | rw [t3] | rw [t2] | rw [Int.toNat_natCast] | rw [Nat.zero_add]); conv => whnf))
    refine ⟨l.length - (i + 1), fun k => k, [1, 4, 5, 11, 12, 13], [10], by omega, by kernel_rfl, i + 1, rfl, hlt, rfl, ?_⟩
    rw [zfil, ← zfil_set hlt hz]
    rfl
  · have t1 := dge hlt
    have hI : i = l.length := by omega
    subst hI
    rw [zfil_all hz]
    (repeat (first | (refine tst_ff t1 ?_; conv => whnf))); (first | exact Recast.refl _ | exact Frz.recast (Recast.refl _) rfl | (refine Frz.one rfl rfl ?_; (repeat (first | (refine FrzC.seq rfl (by first | rfl | (apply keylessL_map; intro _; rfl)) ?_; (first | rfl | omega | (simp <;> fail) | (simp <;> omega)))))) | (refine Frz.tup ?_; skip))
theorem b_Of {r c : Nat} {l : List Int} (hr : r ≤ 2048) (hc : c ≤ 2048) (hl : l.length = r * c) (h : ∀ i, i < l.length → -9223372036854775808 ≤ l.getD i 0 ∧ l.getD i 0 < 9223372036854775808) :
    CallOK Tryz.prog 90 [iv r, iv c, ivec .i64 l] [] (.tup [wA r c l, iv 0]) [] [] := by
  have hb : l.length < 1099511627776 := by have : r * c ≤ 2048 * 2048 := Nat.mul_le_mul hr hc; omega
  have k1 := b_over64 (fun x => x) 36 l hb (fun i hi => c_iOf _ (h i hi).1 (h i hi).2)
  rw [List.map_id'] at k1
  have k2 := b_Check r c l hb (fun i hi => Nat.le_trans (zs_i64 (h i hi).1 (h i hi).2) (by decide))
  rw [check_ok hr hc hl] at k2
  refine callV (Z := []) tabOK mixedOK Tryz.func90 rfl (by kernel_rfl) rfl rfl (by kernel_rfl) rfl ?_
  intro W0 w0 ρ0 hE
  conv => whnf
  (repeat (first | (refine step_w2 rfl rfl ?_; conv => whnf) | (refine g_c (by assumption) ?_; conv => whnf))); (first | exact Recast.refl _ | exact Frz.recast (Recast.refl _) rfl | (refine Frz.one rfl rfl ?_; skip) | (refine Frz.tup ?_; skip))
theorem b_Text (r c : Int) (l : List Int) (hl : l.length < 1099511627776) (h : ∀ i, i < l.length → zs (l.getD i 0) ≤ 536870912) {t : ByteArray} (ht : CallOK Tryz.prog 80 [mA r c (ofInts l)] [] (.val (.string t)) [] []) :
    CallOK Tryz.prog 48 [wA r c l] [] (.val (.string t)) [] [] := by
  have k1 := b_mat r c l hl h
  refine callV (Z := []) tabOK mixedOK Tryz.func48 rfl (by kernel_rfl) rfl rfl (by kernel_rfl) rfl ?_
  intro W0 w0 ρ0 hE
  conv => whnf
  (repeat (first | (refine g_c (by assumption) ?_; conv => whnf))); (first | exact Recast.refl _ | exact Frz.recast (Recast.refl _) rfl | (refine Frz.one rfl rfl ?_; skip) | (refine Frz.tup ?_; skip))

/-- The product of integers. -/
def pZ (l : List Int) : Int := l.foldl (· * ·) 1
theorem pZ_take {l : List Int} {i : Nat} (hi : i < l.length) : pZ (l.take (i + 1)) = pZ (l.take i) * l.getD i 0 := by
  rw [pZ, List.take_add_one, List.getElem?_eq_getElem hi, List.foldl_append, List.getD_eq_getElem?_getD, List.getElem?_eq_getElem hi]; rfl
theorem pZ_zs {l : List Int} {B : Nat} (h : Zm B l) : ∀ i, i ≤ l.length → zs (pZ (l.take i)) ≤ 2 + i * B
  | 0, _ => by rw [List.take_zero, pZ, List.foldl_nil, zs_1]; omega
  | i + 1, hi => by
    have h1 := pZ_zs h i (by omega)
    have h2 := h i (by omega)
    have := zs_mul (pZ (l.take i)) (l.getD i 0)
    rw [pZ_take (by omega), Nat.succ_mul]; omega
theorem b_product {l : List Int} {B : Nat} (hz : Zm B l) (hl : l.length < 1099511627776) (hb : 2 + (l.length + 1) * B ≤ 1073741824) : CallOK Tryz.prog 115 [zvec l] [] (.int (pZ l)) [] [] := by
  have k0 := c_iOf 1 (by decide) (by decide)
  refine callV (Z := []) tabOK mixedOK Tryz.func115 rfl (by kernel_rfl) rfl rfl (by kernel_rfl) rfl ?_
  intro W0 w0 ρ0 hE
  conv => whnf
  (repeat (first | (refine g_c (by assumption) ?_; conv => whnf) | (refine g_o (op_lenM rfl rfl rfl (ev_ok rfl) (tgt rfl) rfl) ?_; conv => whnf)))
  refine SW_loopN hE (fun k => k) [2, 3, 7, 8, 9] [2, 3] (fun m fr hp => ∃ i, m = l.length - i ∧ i ≤ l.length ∧ fr = [(2, .ptr 2 0 0 0), (3, .ptr 3 0 0 0), (7, zvec l), (8, iv (l.length : Nat)), (9, iv (i : Nat))] ∧
    hp = [(2, zIB), (3, ⟨36, true, .one [.int (pZ (l.take i))]⟩)]) l.length ?_ ?_ ?_
  · kernel_rfl
  · exact ⟨0, rfl, Nat.zero_le _, rfl, rfl⟩
  clear k0
  rintro m _ _ ⟨i, rfl, hi, rfl, rfl⟩
  conv => whnf
  by_cases hlt : i < l.length
  · have t1 := dlt hlt
    have t2 := winc (i := i) (by omega)
    have h1 := pZ_zs hz i hi
    have h2 := hz i hlt
    have h3 : i * B ≤ l.length * B := Nat.mul_le_mul_right B hi
    rw [Nat.succ_mul] at hb
    have k1 := zz_Mul (pZ (l.take i)) (l.getD i 0) (by omega)
    (repeat ((first | refine g_c (by assumption) ?_ | refine tst_tt t1 ?_ | refine g_o (op_loadA rfl (ev_ok rfl) (tgt rfl) rfl (Nat.succ_ne_zero _) rfl) ?_ | refine g_o (op_indexN (α := Int) (d := 0) rfl (ev_ok rfl) (ev_ok rfl) (tgt rfl) rfl (tgt rfl) rfl (by omega)) ?_ | rw [t1] | rw [t2]); conv => whnf))
    exact ⟨l.length - (i + 1), fun k => k, [2, 3, 7, 8, 9], [2, 3], by omega, by kernel_rfl, i + 1, rfl, hlt, rfl, by rw [pZ_take hlt]; rfl⟩
  · have t1 := dge hlt
    rw [List.take_of_length_le (by omega)]
    (repeat (first | (refine tst_ff t1 ?_; conv => whnf))); (first | exact Recast.refl _ | exact Frz.recast (Recast.refl _) rfl | (refine Frz.one rfl rfl ?_; skip) | (refine Frz.tup ?_; skip))

/-- The sum of the sizes of a row's elements. -/
def rowZ (a : List Int) (c i : Nat) : Int := sumZ c fun k => ((elz a c i k).natAbs : Int)
theorem sumZ_zs {f : Nat → Int} {B : Nat} : ∀ n, (∀ i, i < n → zs (f i) ≤ B) → zs (sumZ n f) ≤ 1 + n * B
  | 0, _ => by rw [sumZ, zs_zero]; omega
  | n + 1, h => by
    have h1 := sumZ_zs n (fun i hi => h i (by omega))
    have h2 := h n (by omega)
    have := zs_add (sumZ n f) (f n)
    rw [sumZ, Nat.succ_mul]; omega
theorem b_Bound1 {r c B : Nat} {a : List Int} (ha : OKZ r c a) (za : Zm B a) (hb : 1 + (c + 1) * B ≤ 1073741824) {i : Nat} (hi : i < r) :
    CallOK Tryz.prog 117 ([] ++ ([iv (i : Nat)] ++ [ptrA (wC r c a)])) [] (.int (rowZ a c i)) [] [] := by
  have hc := ha.c
  refine callV (Z := []) tabOK mixedOK Tryz.func117 rfl (by kernel_rfl) rfl rfl (by kernel_rfl) rfl ?_
  intro W0 w0 ρ0 hE
  conv => whnf
  (repeat (first | (refine g_o (op_loadA rfl (ev_ok rfl) (tgt rfl) rfl (Nat.succ_ne_zero _) rfl) ?_; conv => whnf) | (refine g_o (op_fieldA rfl (ev_ok rfl) (tgt rfl) rfl rfl (Nat.succ_ne_zero _) rfl) ?_; conv => whnf)))
  refine SW_loopN hE (fun k => k) [0, 1, 3, 6, 7] [3] (fun m fr hp => ∃ k : Nat, m = c - k ∧ k ≤ c ∧ fr = [(0, iv (i : Nat)), (1, ptrA (wC r c a)), (3, .ptr 3 0 0 0), (6, iv c), (7, iv (k : Nat))] ∧
    hp = [(3, ⟨36, true, .one [.int (sumZ k fun k => ((elz a c i k).natAbs : Int))]⟩)]) c ?_ ?_ ?_
  · kernel_rfl
  · exact ⟨0, rfl, Nat.zero_le _, rfl, rfl⟩
  rintro m _ _ ⟨k, rfl, hk, rfl, rfl⟩
  conv => whnf
  by_cases hlt : k < c
  · have t1 := dlt hlt
    have t2 := winc (i := k) (by omega)
    have k1 := b_at ha hi hlt
    have k2 := c_Abs (elz a c i k)
    have k3 := c_From false (elz a c i k).natAbs
    have h1 := sumZ_zs (f := fun k => ((elz a c i k).natAbs : Int)) (B := B) k (fun j hj => by rw [zs_abs]; exact elz_zm za ha.n hi (by omega))
    have h2 := elz_zm za ha.n hi hlt
    have h3 : k * B ≤ c * B := Nat.mul_le_mul_right B hk
    rw [Nat.succ_mul] at hb
    rw [show signed false (elz a c i k).natAbs = ((elz a c i k).natAbs : Int) from rfl] at k3
    have k4 := zz_Add (sumZ k fun k => ((elz a c i k).natAbs : Int)) ((elz a c i k).natAbs : Int) (by rw [zs_abs]; omega)
    (repeat ((first | refine step_i (by kernel_rfl) ?_ | refine g_c (by assumption) ?_ | refine tst_tt t1 ?_ | refine g_o (op_loadA rfl (ev_ok rfl) (tgt rfl) rfl (Nat.succ_ne_zero _) rfl) ?_ | rw [t1] | rw [t2]); conv => whnf))
    exact ⟨c - (k + 1), fun k => k, [0, 1, 3, 6, 7], [3], by omega, by kernel_rfl, k + 1, rfl, hlt, rfl, rfl⟩
  · have t1 := dge hlt
    obtain rfl : k = c := by omega
    (repeat (first | (refine tst_ff t1 ?_; conv => whnf))); (first | exact Recast.refl _ | exact Frz.recast (Recast.refl _) rfl | (refine Frz.one rfl rfl ?_; skip) | (refine Frz.tup ?_; skip))
theorem b_Bound {r c B : Nat} {a : List Int} (ha : OKZ r c a) (za : Zm B a) (hB : B ≤ 536870912) (hb : 2 + (r + 1) * (1 + (c + 1) * B) ≤ 1073741824) :
    CallOK Tryz.prog 35 [wA r c a] [] (.tup [.int (pZ ((upN r).map fun x => rowZ a c x.toNat)), iv 0]) [] [] := by
  have hr := ha.r
  have hc := ha.c
  have hcb : 1 + (c + 1) * B ≤ 1073741824 := by
    have : 1 * (1 + (c + 1) * B) ≤ (r + 1) * (1 + (c + 1) * B) := Nat.mul_le_mul_right _ (by omega)
    omega
  have k0 := b_Check r c a (by have := ha.n; have : r * c ≤ 2048 * 2048 := Nat.mul_le_mul hr hc; omega) (fun i hi => Nat.le_trans (za i hi) hB)
  rw [check_ok hr hc ha.n] at k0
  have k1 := (b_upToV r [] hr (by simp)).wk (args := [iv r, .val (.slice none 0 0)]) (by repeat (first | exact WkL.nil | refine WkL.cons ?_ ?_ | exact Wk.nil | exact Wk.refl | refine Wk.agg ?_))
  rw [show upL r [] = upN r from List.append_nil _] at k1
  have hu : ∀ i, i < (upN r).length → (upN r).getD i 0 = i := fun i hi => by
    rw [upN_len] at hi
    have := upL_at (l := []) hi
    rwa [show upL r [] = upN r from List.append_nil _] at this
  have k2 := b_over1 (fun x => rowZ a c x.toNat) 117 (ptrP (wC r c a)) (upN r) (by rw [upN_len]; omega) (fun i hi => by
    rw [hu i hi]; rw [upN_len] at hi
    exact b_Bound1 ha za hcb hi)
  have hzm : Zm (1 + (c + 1) * B) ((upN r).map fun x => rowZ a c x.toNat) := by
    intro p hp
    rw [List.length_map] at hp
    rw [map_getD (d := 0) hp, hu p hp]
    rw [upN_len] at hp
    have := sumZ_zs (f := fun k => ((elz a c p k).natAbs : Int)) (B := B) c (fun j hj => by rw [zs_abs]; exact elz_zm za ha.n hp hj)
    exact Nat.le_trans this (Nat.add_le_add_left (Nat.mul_le_mul_right B (Nat.le_succ c)) 1)
  have k3 := b_product hzm (by rw [List.length_map, upN_len]; omega) (by rw [List.length_map, upN_len]; exact hb)
  refine callV (Z := [1]) tabOK mixedOK Tryz.func35 rfl (by kernel_rfl) rfl rfl (by kernel_rfl) rfl ?_
  intro W0 w0 ρ0 hE
  conv => whnf
  (repeat ((first | refine step_w2 rfl rfl ?_ | refine g_c (by assumption) ?_ | rw [bne_self_eq_false] | refine g_o (op_loadA rfl (ev_ok rfl) (tgt rfl) rfl (Nat.succ_ne_zero _) rfl) ?_ | refine g_o (op_fieldA rfl (ev_ok rfl) (tgt rfl) rfl rfl (Nat.succ_ne_zero _) rfl) ?_ | refine g_o (op_makeFunc rfl rfl rfl) ?_); conv => whnf)); (first | exact Recast.refl _ | exact Frz.recast (Recast.refl _) rfl | (refine Frz.one rfl rfl ?_; skip) | (refine Frz.tup ?_; skip))
end Go.Proofs.YtkpfineikahgfaaGreatDoor

namespace Go.Proofs.YtkpfineikahgfaaGreatDoor
open Go.Sx
set_option linter.unusedSimpArgs false
set_option linter.unusedVariables false
set_option maxRecDepth 100000
set_option maxHeartbeats 40000000

theorem upL_to {s i x : Nat} (hx : x < s + 1) : ((upL s [((s + i : Nat) : Int)]).getD x 0).toNat = at1 s i x := by
  unfold at1
  by_cases h : x < s
  · rw [upL_at h, if_pos h]; omega
  · obtain rfl : x = s := by omega
    rw [upL_last, if_neg h]; omega
theorem upL_in {s i r : Nat} (hi : s + i < r) : ∀ x, x < (upL s [((s + i : Nat) : Int)]).length → 0 ≤ (upL s [((s + i : Nat) : Int)]).getD x 0 ∧ (upL s [((s + i : Nat) : Int)]).getD x 0 < r := by
  intro x hx
  rw [upL_len] at hx
  by_cases h : x < s
  · rw [upL_at h]; omega
  · obtain rfl : x = s := by simp at hx; omega
    rw [upL_last]; omega
theorem Zm_el {a : List Int} {r c B : Nat} (za : Zm B a) (ha : a.length = r * c) {m n : Nat} {f g : Nat → Nat} (hf : ∀ i, i < m → f i < r) (hg : ∀ i, i < n → g i < c) : Zm B (mkz m n fun i k => elz a c (f i) (g k)) :=
  Zm_mk fun i k hi hk => elz_zm za ha (hf i hi) (hg k hk)
theorem b_Stage1 {r c s B : Nat} {a : List Int} (ha : OKZ r c a) (za : Zm B a) (hB : 2 ≤ B) (hs : s < 40) (hb : 2 * (B * 4 ^ (s + 1)) ≤ 1073741824) {i k : Nat} (hi : s + i < r) (hk : s + k < c) :
    CallOK Tryz.prog 95 ([] ++ ([iv (i : Nat), iv (k : Nat)] ++ [ptrA (wC r c a), ptrA [iv s]])) [] (.int (bmZ s (elz a c) i k)) [] [] := by
  have hr := ha.r
  have hc := ha.c
  have k1 := b_upToV s [((s + i : Nat) : Int)] (by omega) (by simp)
  have k2 := b_upToV s [((s + k : Nat) : Int)] (by omega) (by simp)
  have k3 := b_part ha (upL_in hi) (upL_in hk) (by rw [upL_len]; simp; omega) (by rw [upL_len]; simp; omega)
  have e : ∀ x, (upL s [((s + x : Nat) : Int)]).length = s + 1 := fun x => by rw [upL_len]; rfl
  rw [e, e] at k3
  have k4 := b_det (n := s + 1) (B := B) (a := mkz (s + 1) (s + 1) fun x y => elz a c ((upL s [((s + i : Nat) : Int)]).getD x 0).toNat ((upL s [((s + k : Nat) : Int)]).getD y 0).toNat) (OKZ.mk' (by omega) (by omega) _) hB
    (Zm_el za ha.n (fun x hx => by rw [upL_to hx]; unfold at1; split <;> omega) (fun x hx => by rw [upL_to hx]; unfold at1; split <;> omega)) (by omega) hb
  have ed : detZ (s + 1) (elz (mkz (s + 1) (s + 1) fun x y => elz a c ((upL s [((s + i : Nat) : Int)]).getD x 0).toNat ((upL s [((s + k : Nat) : Int)]).getD y 0).toNat) (s + 1)) = bmZ s (elz a c) i k :=
    detZ_congr fun x y hx hy => by rw [mkz_el hx hy, upL_to hx, upL_to hy]
  rw [ed] at k4
  have w1 : IntKind.i64.wrap ((s : Int) + (i : Int)) = ((s + i : Nat) : Int) := by rw [wrap_i64 (by omega) (by omega)]; omega
  have w2 : IntKind.i64.wrap ((s : Int) + (k : Int)) = ((s + k : Nat) : Int) := by rw [wrap_i64 (by omega) (by omega)]; omega
  refine callV (Z := [12, 18]) tabOK mixedOK Tryz.func95 rfl (by kernel_rfl) rfl rfl (by kernel_rfl) rfl ?_
  intro W0 w0 ρ0 hE
  conv => whnf
  (repeat ((first | refine step_i (by kernel_rfl) ?_ | refine g_c (by assumption) ?_ | refine g_o (op_loadA rfl (ev_ok rfl) (tgt rfl) rfl (Nat.succ_ne_zero _) rfl) ?_ | rw [w1] | rw [w2]); conv => whnf)); (first | exact Recast.refl _ | exact Frz.recast (Recast.refl _) rfl | (refine Frz.one rfl rfl ?_; skip) | (refine Frz.tup ?_; skip))
/-- The stage at which a minor is asked for. -/
abbrev stM (r c s : Nat) (a : List Int) : List Int := mkz (r - s) (c - s) (bmZ s (elz a c))
theorem b_Stage {r c s B : Nat} {a : List Int} (ha : OKZ r c a) (za : Zm B a) (hB : 2 ≤ B) (hs : s < 40) (hb : 2 * (B * 4 ^ (s + 1)) ≤ 1073741824) (hr' : s ≤ r) (hc' : s ≤ c) :
    CallOK Tryz.prog 24 [wA r c a, iv s] [] (.tup [wA (r - s : Nat) (c - s : Nat) (stM r c s a), iv 0]) [] [] := by
  have hr := ha.r
  have hc := ha.c
  have hBb : B ≤ B * 4 ^ (s + 1) := Nat.le_mul_of_pos_right B (Nat.pow_pos (by decide))
  have k0 := b_Check r c a (by have := ha.n; have : r * c ≤ 2048 * 2048 := Nat.mul_le_mul hr hc; omega) (fun i hi => Nat.le_trans (za i hi) (by omega))
  rw [check_ok hr hc ha.n] at k0
  have k1 := b_begin r c a
  have k5 := b_made2 (r := r - s) (c := c - s) (by omega) (by omega) (bmZ s (elz a c)) 95 (ptrP (wC r c a)) (ptrP [iv s]) (fun i k hi hk => b_Stage1 ha za hB hs hb (by omega) (by omega))
  have k6 := b_madeF (r := r - s) (c := c - s) (by omega) (by omega) (bmZ s (elz a c)) 93 ((r - s : Nat) : Int) ((c - s : Nat) : Int) (stM r c s a) (fun i k hi hk => by
      have := b_at (OKZ.mk' (r := r - s) (c := c - s) (by omega) (by omega) (bmZ s (elz a c))) hi hk
      rwa [mkz_el hi hk] at this)
  have t1 : decide ((s : Int) < 0) = false := decide_eq_false (by omega)
  have t2 : decide ((s : Int) > if (c : Int) < (r : Int) then (c : Int) else (r : Int)) = false := decide_eq_false (by split <;> omega)
  refine callV (Z := [2, 3]) tabOK mixedOK Tryz.func24 rfl (by kernel_rfl) rfl rfl (by kernel_rfl) rfl ?_
  intro W0 w0 ρ0 hE
  conv => whnf
  (repeat ((first | refine step_w1 rfl rfl ?_ | refine step_w2 rfl rfl ?_ | refine g_c (by assumption) ?_ | refine g_o (op_pickF rfl (ev_ok rfl) (ev_ok rfl)) ?_ | rw [bne_self_eq_false] | refine tst_ff t2 ?_ | refine g_o (op_loadA rfl (ev_ok rfl) (tgt rfl) rfl (Nat.succ_ne_zero _) rfl) ?_ | refine g_o (op_fieldA rfl (ev_ok rfl) (tgt rfl) rfl rfl (Nat.succ_ne_zero _) rfl) ?_ | rw [t1] | rw [t2]); conv => whnf))
  refine SW_loopN hE (fun k => k) [2, 3, 4, 5, 7, 29, 30] [4, 7] (fun m fr hp => ∃ (i R C : Nat), m = s - i ∧ i ≤ s ∧ i + R = r ∧ i + C = c ∧ (∀ j, j ≤ i → detZ j (elz a c) ≠ 0) ∧ Zm (B * 4 ^ i) (mkz R C (bmZ i (elz a c))) ∧ zs (detZ i (elz a c)) ≤ B * 4 ^ i ∧
    fr = [(2, ptrA (wC r c a)), (3, ptrA [iv s]), (4, .ptr 4 0 0 0), (5, iv 0), (7, .ptr 7 0 0 0), (29, iv s), (30, iv (i : Nat))] ∧
    hp = [(4, zW), (7, bS R C (mkz R C (bmZ i (elz a c))) (detZ i (elz a c)) 0)]) s ?_ ?_ ?_
  · kernel_rfl
  · have e : mkz r c (bmZ 0 (elz a c)) = a := mkz_ext ha.n fun i k hi hk => bmZ_zero _ _ _
    refine ⟨0, r, c, rfl, Nat.zero_le _, Nat.zero_add _, Nat.zero_add _, (fun j hj => by rw [show j = 0 by omega]; exact (show (1 : Int) ≠ 0 by decide)), ?_, ?_, rfl, ?_⟩
    · rw [e, Nat.pow_zero, Nat.mul_one]; exact za
    · rw [show detZ 0 (elz a c) = 1 from rfl, zs_1]; omega
    · rw [e]; rfl
  clear k1 k0
  rintro m _ _ ⟨i, R, C, rfl, hi, hR, hC, hne, hz, hzb, rfl, rfl⟩
  conv => whnf
  by_cases hlt : i < s
  · have t3 := dlt hlt
    have t4 := winc (i := i) (by omega)
    obtain ⟨R, rfl⟩ : ∃ R', R = R' + 1 := ⟨R - 1, by omega⟩
    obtain ⟨C, rfl⟩ : ∃ C', C = C' + 1 := ⟨C - 1, by omega⟩
    have hok : OKZ (R + 1) (C + 1) (mkz (R + 1) (C + 1) (bmZ i (elz a c))) := OKZ.mk' (by omega) (by omega) _
    have k1 := b_at hok (i := 0) (k := 0) (by omega) (by omega)
    rw [mkz_el (by omega) (by omega), bmZ_first] at k1
    have k2 := c_Sign (detZ (i + 1) (elz a c))
    by_cases h0 : detZ (i + 1) (elz a c) = 0
    · rw [h0] at k1
      have k2 := c_Sign 0
      have w1 : IntKind.i64.wrap ((r : Int) - (s : Int)) = ((r - s : Nat) : Int) := by rw [wrap_i64 (by omega) (by omega)]; omega
      have w2 : IntKind.i64.wrap ((c : Int) - (s : Int)) = ((c - s : Nat) : Int) := by rw [wrap_i64 (by omega) (by omega)]; omega
      (repeat ((first | refine step_w1 rfl rfl ?_ | refine g_c (by assumption) ?_ | refine tst_tt t3 ?_ | refine g_o (op_loadA rfl (ev_ok rfl) (tgt rfl) rfl (Nat.succ_ne_zero _) rfl) ?_ | refine g_o (op_fieldA rfl (ev_ok rfl) (tgt rfl) rfl rfl (Nat.succ_ne_zero _) rfl) ?_ | refine g_o (op_makeFunc rfl rfl rfl) ?_ | rw [t3] | rw [w1] | rw [w2]); conv => whnf)); (first | exact Recast.refl _ | exact Frz.recast (Recast.refl _) rfl | (refine Frz.one rfl rfl ?_; skip) | (refine Frz.tup ?_; skip))
    · have t5 : ((detZ (i + 1) (elz a c)).sign == 0) = false := beq_eq_false_iff_ne.2 fun e => h0 (Int.sign_eq_zero_iff_zero.1 e)
      have hpow : B * 4 ^ i * 4 ≤ B * 4 ^ s := by
        have : B * 4 ^ (i + 1) ≤ B * 4 ^ s := Nat.mul_le_mul_left B (Nat.pow_le_pow_right (by decide) (by omega))
        rwa [Nat.pow_succ, ← Nat.mul_assoc] at this
      have hp4 : B * 4 ^ (s + 1) = B * 4 ^ s * 4 := by rw [Nat.pow_succ, Nat.mul_assoc]
      have hp5 : B * 4 ^ (i + 1) = B * 4 ^ i * 4 := by rw [Nat.pow_succ, Nat.mul_assoc]
      have k3 := b_next (b := detZ i (elz a c)) (s := 0) hok hz (by omega)
      have en : nxt R C (mkz (R + 1) (C + 1) (bmZ i (elz a c))) (detZ i (elz a c)) = mkz R C (bmZ (i + 1) (elz a c)) := mkz_congr fun p q hp hq => by
        rw [crZ, mkz_el (by omega) (by omega), mkz_el (by omega) (by omega), mkz_el (by omega) (by omega), mkz_el (by omega) (by omega)]
        exact bmZ_div (hne i (Nat.le_refl _)) p q
      have hz' : Zm (B * 4 ^ (i + 1)) (mkz R C (bmZ (i + 1) (elz a c))) := by
        rw [← en, hp5]
        exact Zm_mk fun p q hp hq => Nat.le_trans (zs_div _ _) (by have := crZ_zs hz hok.n hp hq; omega)
      have hzb' : zs (detZ (i + 1) (elz a c)) ≤ B * 4 ^ (i + 1) := by
        have := elz_zm hz hok.n (i := 0) (k := 0) (by omega) (by omega)
        rw [mkz_el (by omega) (by omega), bmZ_first] at this; omega
      rw [en, mkz_el (by omega) (by omega), bmZ_first] at k3
      have w3 : IntKind.i64.wrap ((s : Int) - 1) = ((s - 1 : Nat) : Int) := by rw [wrap_i64 (by omega) (by omega)]; omega
      by_cases hlast : i = s - 1
      · have t6 : ((i : Int) == ((s - 1 : Nat) : Int)) = true := by rw [hlast]; exact beq_self_eq_true _
        obtain rfl : R = r - s := by omega
        obtain rfl : C = c - s := by omega
        rw [show i + 1 = s by omega] at *
        (repeat ((first | refine g_c (by assumption) ?_ | refine tst_tt t3 ?_ | refine tst_ff t5 ?_ | refine tst_tt t6 ?_ | refine g_o (op_loadA rfl (ev_ok rfl) (tgt rfl) rfl (Nat.succ_ne_zero _) rfl) ?_ | refine g_o (op_makeFunc rfl rfl rfl) ?_ | rw [t3] | rw [t5] | rw [w3]); conv => whnf)); (first | exact Recast.refl _ | exact Frz.recast (Recast.refl _) rfl | (refine Frz.one rfl rfl ?_; skip) | (refine Frz.tup ?_; skip))
      · have t6 : ((i : Int) == ((s - 1 : Nat) : Int)) = false := beq_eq_false_iff_ne.2 (by omega)
        (repeat ((first | refine g_c (by assumption) ?_ | refine tst_tt t3 ?_ | refine tst_ff t5 ?_ | refine tst_ff t6 ?_ | refine g_o (op_loadA rfl (ev_ok rfl) (tgt rfl) rfl (Nat.succ_ne_zero _) rfl) ?_ | rw [t3] | rw [t5] | rw [w3] | rw [t6] | rw [t4] | rw [Nat.zero_add]); conv => whnf))
        exact ⟨s - (i + 1), fun k => k, [2, 3, 4, 5, 7, 29, 30], [4, 7], by omega, by kernel_rfl, i + 1, R, C, rfl, hlt, by omega, by omega, (fun j hj => by
          by_cases e : j = i + 1
          · rw [e]; exact h0
          · exact hne j (by omega)), hz', hzb', rfl, rfl⟩
  · have t3 := dge hlt
    obtain rfl : i = s := by omega
    obtain rfl : R = r - i := by omega
    obtain rfl : C = c - i := by omega
    (repeat (first | (refine g_c (by assumption) ?_; conv => whnf) | (refine tst_ff t3 ?_; conv => whnf) | (refine g_o (op_makeFunc rfl rfl rfl) ?_; conv => whnf))); (first | exact Recast.refl _ | exact Frz.recast (Recast.refl _) rfl | (refine Frz.one rfl rfl ?_; skip) | (refine Frz.tup ?_; skip))
end Go.Proofs.YtkpfineikahgfaaGreatDoor
