/- The texts Or. -/
import Derived.Test.YtkpfineikahgfaaGreatDoorQLBareissErrors5
namespace Go.Proofs.YtkpfineikahgfaaGreatDoor
open Go.Sx
set_option linter.unusedSimpArgs false
set_option linter.unusedVariables false
set_option maxRecDepth 100000
set_option maxHeartbeats 40000000

theorem c_BErrBad (r c n many s : Int) (hn : 0 ≤ n ∧ n < 256) (hm : 0 ≤ many ∧ many < 256) (h : checkF r c (n % 40).toNat ≠ 0) :
    CallOK Tryz.prog 6 [iv r, iv c, iel .u8 n, iel .u8 many, iv s] [] (.val (.bool true)) [] [] := by
  have kw := l_works15
  obtain ⟨e1, e2⟩ := u8_mod n hn 40 (by decide)
  obtain ⟨e3, e4⟩ := u8_mod many hm 9 (by decide)
  have hN : (n % 40).toNat ≤ 39 := by omega
  have hM : (many % 9).toNat ≤ 8 := by omega
  generalize (n % 40).toNat = N at *
  generalize (many % 9).toNat = M at *
  have hz := zz_len N
  have hl := zL_len N
  have a1 := m_Check r c (zL N) (by omega)
  have a2 := b_Check r c (zz N) (by omega) (zz_small N)
  have a3 := b_Frac r c (zz N) (by omega) (zz_small N)
  rw [hz, if_neg h] at a3
  have a4 := b_ClearE r c (zL N) (by omega) (by rw [hl]; exact h)
  have a5 := b_BoundE r c (zz N) (by omega) (zz_small N) (by rw [hz]; exact h)
  have a6 := b_StageE r c (zz N) (by omega) (zz_small N) s (by rw [hz]; exact h)
  have hsq : sqF r c (zz N).length = checkF r c N := by rw [sqF, hz, if_neg h]
  have a7 := b_DetE r c (zz N) (by omega) (zz_small N) (by rw [hsq]; exact h)
  have a8 := b_CramerE r c (zz N) (by omega) (zz_small N) (zz M) (by rw [hsq]; exact h)
  have a9 := b_AdjugateE r c (zz N) (by omega) (zz_small N) (by rw [hsq]; exact h)
  have a10 := b_Text r c (zz N) (by omega) (zz_small N) (by rw [zz_frac]; exact m_TextE r c (zL N) (by omega) (by rw [hl]; exact h))
  have a11 := b_Same r c (zz N) (by omega)
  rw [hsq] at a7 a8 a9
  rw [hz] at a2 a5 a6
  rw [hl] at a1 a4
  clear hsq
  generalize checkF r c N = E at *
  have t1 : (E == 0) = false := beq_eq_false_iff_ne.2 h
  have t2 : (E != E) = false := bne_self_eq_false _
  have t3 : (E != 0) = true := bne_iff_ne.2 h
  refine callV (Z := [100000]) tabOK mixedOK Tryz.func6 rfl (by kernel_rfl) rfl rfl (by kernel_rfl) rfl ?_
  intro W0 w0 ρ0 hE
  conv => whnf
  refine SWx_addKey 39 (blk := zB3 []) rfl rfl ?_
  refine SWx_addKey 46 (blk := fblk []) rfl rfl ?_
  refine SWx_addKey 64 (blk := zB3 []) rfl rfl ?_
  refine SWx_go hE ?_
  conv => whnf
  (repeat ((first | refine step_w1 rfl rfl ?_ | refine step_w2 rfl rfl ?_ | refine step_oN (by first | omega | decide | (simp only [tiB5, tiB95, tiB3, tiB2, tiB9, tiB38, tiB74, tiB25, tiB41, tiB36, tiB30, tiB4, tiB70, tiB72, tiB164, tiB27, tiB62, tiB32, dlen, List.length_replicate, List.length_set, List.length_map, List.length_zipWith, List.length_take, List.length_append, List.length_cons, List.length_nil]; omega)) ?_ | refine g_c (by assumption) ?_ | refine g_o (op_pickT rfl (ev_ok rfl) (ev_ok rfl)) ?_ | refine g_o (op_pickF rfl (ev_ok rfl) (ev_ok rfl)) ?_ | rw [beq_self_eq_true] | rw [bne_self_eq_false] | refine tst_ff t1 ?_ | refine tst_tt t3 ?_ | refine g_o (op_lenM rfl rfl rfl (ev_ok rfl) (tgt rfl) rfl) ?_ | refine g_o (op_makeF rfl (ev_ok rfl) (ev_ok rfl) (tgt rfl) rfl (tgt rfl) rfl rfl (by simp only [tiB38]; omega)) ?_ | refine g_o (op_makeZ rfl (ev_ok rfl) (ev_ok rfl) (tgt rfl) rfl (tgt rfl) rfl rfl (by simp only [tiB36]; omega)) ?_ | refine ⟨_, op_eqAgg tabOK goodOK rfl (ev_ok rfl) (ev_ok rfl) rfl rfl rfl rfl (zq_same _ _) zq_guard, ?_⟩ | rw [t1] | rw [t3] | rw [e2] | rw [e4]); conv => whnf)); (first | exact Recast.refl _ | exact Frz.recast (Recast.refl _) rfl | (refine Frz.one rfl rfl ?_; skip) | (refine Frz.tup ?_; skip))
theorem small_side {a b N : Nat} (h : a * b ≤ 39) (ha : a ≤ N) (hb : a ≤ b) : a ≤ 6 := by
  refine Nat.le_of_not_lt fun g => ?_
  have := Nat.mul_le_mul (show 7 ≤ a by omega) (show 7 ≤ b by omega)
  omega
theorem pow7 {k : Nat} (h : k ≤ 7) : 2 * (2 * 4 ^ k) ≤ 1073741824 := by
  have : 4 ^ k ≤ 4 ^ 7 := Nat.pow_le_pow_right (by decide) h
  omega
/-- What Stage gives for a zero matrix. -/
theorem stage_z {R C : Nat} (hR : R ≤ 40) (hC : C ≤ 40) (hN : R * C ≤ 39) (s : Int) : ∃ (u1 u2 : Bool) (a b : Int) (l : List Int) (e : Int), decide (s < 0) = u1 ∧ decide (s > if (C : Int) < (R : Int) then (C : Int) else (R : Int)) = u2 ∧
    CallOK Tryz.prog 24 [wA R C (zz (R * C)), iv s] [] (.tup [wA a b l, iv e]) [] [] ∧ ((u1 = true ∧ e = 1 ∧ l = [] ∧ a = 0) ∨ (u1 = false ∧ u2 = true ∧ e = 1 ∧ l = [] ∧ a = 0) ∨ (u1 = false ∧ u2 = false ∧ e = 0)) := by
  have hok : OKZ R C (zz (R * C)) := ⟨by omega, by omega, zz_len _⟩
  by_cases h1 : s < 0
  · exact ⟨true, _, _, _, _, _, decide_eq_true h1, rfl, b_StageN hok (zz_small _) (.inl h1), .inl ⟨rfl, rfl, rfl, rfl⟩⟩
  · by_cases h2 : s > if (C : Int) < (R : Int) then (C : Int) else (R : Int)
    · refine ⟨false, true, _, _, _, _, decide_eq_false h1, decide_eq_true h2, b_StageN hok (zz_small _) (.inr ?_), .inr (.inl ⟨rfl, rfl, rfl, rfl, rfl⟩)⟩
      split at h2 <;> omega
    · have hle : s ≤ R ∧ s ≤ C := by split at h2 <;> omega
      obtain ⟨q, rfl⟩ : ∃ q : Nat, s = q := ⟨s.toNat, by omega⟩
      have hq : q ≤ 6 := small_side (N := q) (a := q) (b := q) (Nat.le_trans (Nat.mul_le_mul (show q ≤ R by omega) (show q ≤ C by omega)) hN) (Nat.le_refl _) (Nat.le_refl _)
      exact ⟨false, false, _, _, _, _, decide_eq_false h1, decide_eq_false h2, b_Stage hok (zz_zs _) (by decide) (by omega) (pow7 (by omega)) (by omega) (by omega), .inr (.inr ⟨rfl, rfl, rfl⟩)⟩
/-- What Det, Adjugate, Cramer give for a zero matrix. -/
theorem square_z {R C M : Nat} (hR : R ≤ 40) (hC : C ≤ 40) (hN : R * C ≤ 39) (hM : M ≤ 8) : ∃ (v1 v2 v3 : Bool) (d : Int) (l : List Int) (a b : Int) (ad : List Int) (x q : Int) (D : Int), ((R : Int) != (C : Int)) = v1 ∧ ((M : Int) != (R : Int)) = v2 ∧ decide ((R : Int) > 0) = v3 ∧
    CallOK Tryz.prog 27 [wA R C (zz (R * C))] [] (.tup [.int D, iv q]) [] [] ∧ CallOK Tryz.prog 26 [wA R C (zz (R * C))] [] (.tup [wA a b ad, iv q]) [] [] ∧
    CallOK Tryz.prog 47 [wA R C (zz (R * C)), zvec (zz M)] [] (.tup [.int d, zvec l, iv x]) [] [] ∧
    ((v1 = true ∧ q = 1 ∧ x = 1 ∧ d = 0 ∧ l = [] ∧ a = 0 ∧ ad = []) ∨ (v1 = false ∧ v2 = true ∧ q = 0 ∧ x = 1 ∧ d = 0 ∧ l = []) ∨ (v1 = false ∧ v2 = false ∧ v3 = true ∧ q = 0 ∧ x = 6 ∧ d = 0 ∧ l = []) ∨ (v1 = false ∧ v2 = false ∧ v3 = false ∧ q = 0 ∧ x = 0)) := by
  have hl := zz_len (R * C)
  have hsm := zz_small (R * C)
  have hck : checkF R C (R * C) = 0 := check_ok (by omega) (by omega) rfl
  by_cases h1 : R = C
  · subst h1
    have hok : OKZ R R (zz (R * R)) := ⟨by omega, by omega, zz_len _⟩
    have h6 : R ≤ 6 := small_side (N := R) hN (Nat.le_refl _) (Nat.le_refl _)
    have f1 : ((R : Int) != (R : Int)) = false := bne_self_eq_false _
    have kd := b_Det hok (zz_zs _) (by decide) (by decide) hR (pow7 (by omega))
    have ka := b_Adjugate hok (zz_zs _) (by decide) (by decide) hR (pow7 (by omega))
    by_cases h2 : M = R
    · have f2 : ((M : Int) != (R : Int)) = false := by rw [h2]; exact bne_self_eq_false _
      have kc := b_Cramer hok (zz_zs _) (b := zz M) (by rw [zz_len, h2]) (zz_zs M) (by decide) (by decide) hR (pow7 (by omega))
      by_cases h3 : 0 < R
      · rw [if_pos (detZ_zero h3)] at kc
        exact ⟨_, _, _, _, _, _, _, _, _, _, _, f1, f2, decide_eq_true (by omega), kd, ka, kc, .inr (.inr (.inl ⟨rfl, rfl, rfl, rfl, rfl, rfl, rfl⟩))⟩
      · obtain rfl : R = 0 := by omega
        rw [if_neg (show ¬ detZ 0 (elz (zz (0 * 0)) 0) = 0 from by show ¬ (1 : Int) = 0; decide)] at kc
        exact ⟨_, _, _, _, _, _, _, _, _, _, _, f1, f2, decide_eq_false (by omega), kd, ka, kc, .inr (.inr (.inr ⟨rfl, rfl, rfl, rfl, rfl⟩))⟩
    · have f2 : ((M : Int) != (R : Int)) = true := bne_iff_ne.2 (by omega)
      have kc := b_CramerL hok hsm (b := zz M) (by rw [zz_len]; exact h2)
      exact ⟨_, _, _, _, _, _, _, _, _, _, _, f1, f2, rfl, kd, ka, kc, .inr (.inl ⟨rfl, rfl, rfl, rfl, rfl, rfl⟩)⟩
  · have f1 : ((R : Int) != (C : Int)) = true := bne_iff_ne.2 (by omega)
    have hsq : sqF R C (zz (R * C)).length = 1 := by rw [sqF, hl, if_pos hck, if_neg (by omega)]
    have kd := b_DetE R C (zz (R * C)) (by omega) hsm (by rw [hsq]; decide)
    have ka := b_AdjugateE R C (zz (R * C)) (by omega) hsm (by rw [hsq]; decide)
    have kc := b_CramerE R C (zz (R * C)) (by omega) hsm (zz M) (by rw [hsq]; decide)
    rw [hsq] at kd ka kc
    exact ⟨_, _, _, _, _, _, _, _, _, _, _, f1, rfl, rfl, kd, ka, kc, .inl ⟨rfl, rfl, rfl, rfl, rfl, rfl, rfl⟩⟩
theorem c_BErrOk (R C : Nat) (n many s : Int) (hn : 0 ≤ n ∧ n < 256) (hm : 0 ≤ many ∧ many < 256) (hR : R ≤ 2048) (hC : C ≤ 2048) (hN : R * C = (n % 40).toNat) :
    CallOK Tryz.prog 6 [iv R, iv C, iel .u8 n, iel .u8 many, iv s] [] (.val (.bool true)) [] [] := by
  have kw := l_works15
  obtain ⟨e1, e2⟩ := u8_mod n hn 40 (by decide)
  obtain ⟨e3, e4⟩ := u8_mod many hm 9 (by decide)
  have hN2 : R * C ≤ 39 := by omega
  have hM : (many % 9).toNat ≤ 8 := by omega
  rw [← hN] at e2
  clear hN
  generalize (many % 9).toNat = M at *
  have a1 := m_Check0 (⟨hR, hC, zL_len _⟩ : OKM R C (zL (R * C)))
  by_cases h40 : R ≤ 40 ∧ C ≤ 40
  · obtain ⟨hR, hC⟩ := h40
    have u1 : decide ((R : Int) > 40) = false := decide_eq_false (by omega)
    have u2 : decide ((C : Int) > 40) = false := decide_eq_false (by omega)
    have hok : OKZ R C (zz (R * C)) := ⟨by omega, by omega, zz_len _⟩
    have hck : checkF R C (R * C) = 0 := check_ok (by omega) (by omega) rfl
    have hl := zz_len (R * C)
    have a2 := b_Check R C (zz (R * C)) (by omega) (zz_small _)
    have a3 := b_Frac R C (zz (R * C)) (by omega) (zz_small _)
    rw [hl, hck] at a2
    rw [hl, if_pos hck] at a3
    have a4 := b_Clear (r := R) (c := C) (B := 2) (a := zL (R * C)) (⟨by omega, by omega, zL_len _⟩ : OKM R C (zL (R * C))) (fun p hp => by rw [zL, List.getD_eq_getElem?_getD, List.getElem?_replicate]; split <;> (rw [Option.getD]; exact Nat.le_of_eq fs_zero)) (by decide) (by omega)
    have a5 := b_Bound hok (zz_zs _) (by decide) (by
      have : (R + 1) * (1 + (C + 1) * 2) ≤ 41 * (1 + 41 * 2) := Nat.mul_le_mul (by omega) (by omega)
      omega)
    have a11 := b_Same R C (zz (R * C)) (by omega)
    obtain ⟨w1, w2, sa, sb, sl, se, f1, f2, kS, hS⟩ := stage_z hR hC hN2 s
    obtain ⟨v1, v2, v3, d, l, qa, qb, ad, x, q, D, g1, g2, g3, kD, kA, kC, hQ⟩ := square_z (M := M) hR hC hN2 hM
    have hzl := zz_len M
    rcases hS with ⟨rfl, rfl, rfl, rfl⟩ | ⟨rfl, rfl, rfl, rfl, rfl⟩ | ⟨rfl, rfl, rfl⟩
    all_goals rcases hQ with ⟨rfl, rfl, rfl, rfl, rfl, rfl, rfl⟩ | ⟨rfl, rfl, rfl, rfl, rfl, rfl⟩ | ⟨rfl, rfl, rfl, rfl, rfl, rfl, rfl⟩ | ⟨rfl, rfl, rfl, rfl, rfl⟩
    all_goals
      rw [← hzl] at g2
      refine callV (Z := [100000]) tabOK mixedOK Tryz.func6 rfl (by kernel_rfl) rfl rfl (by kernel_rfl) rfl ?_
      intro W0 w0 ρ0 hE
      conv => whnf
      refine SWx_addKey 39 (blk := zB3 []) rfl rfl ?_
      refine SWx_addKey 46 (blk := fblk []) rfl rfl ?_
      refine SWx_addKey 64 (blk := zB3 []) rfl rfl ?_
      refine SWx_go hE ?_
      conv => whnf
      (repeat ((first | refine step_w1 rfl rfl ?_ | refine step_w2 rfl rfl ?_ | refine step_oN (by first | omega | decide | (simp only [tiB5, tiB95, tiB3, tiB2, tiB9, tiB38, tiB74, tiB25, tiB41, tiB36, tiB30, tiB4, tiB70, tiB72, tiB164, tiB27, tiB62, tiB32, dlen, List.length_replicate, List.length_set, List.length_map, List.length_zipWith, List.length_take, List.length_append, List.length_cons, List.length_nil]; omega)) ?_ | refine g_c (by assumption) ?_ | refine g_o (op_pickT rfl (ev_ok rfl) (ev_ok rfl)) ?_ | refine g_o (op_pickF rfl (ev_ok rfl) (ev_ok rfl)) ?_ | rw [beq_self_eq_true] | rw [bne_self_eq_false] | refine tst_ff u2 ?_ | refine tst_tt f2 ?_ | refine tst_ff f2 ?_ | refine tst_tt g1 ?_ | refine tst_ff g1 ?_ | refine tst_tt g2 ?_ | refine tst_ff g2 ?_ | refine tst_tt g3 ?_ | refine tst_ff g3 ?_ | refine g_o (op_lenM rfl rfl rfl (ev_ok rfl) (tgt rfl) rfl) ?_ | refine g_o (op_makeF rfl (ev_ok rfl) (ev_ok rfl) (tgt rfl) rfl (tgt rfl) rfl rfl (by simp only [tiB38]; omega)) ?_ | refine g_o (op_makeZ rfl (ev_ok rfl) (ev_ok rfl) (tgt rfl) rfl (tgt rfl) rfl rfl (by simp only [tiB36]; omega)) ?_ | refine ⟨_, op_eqAgg tabOK goodOK rfl (ev_ok rfl) (ev_ok rfl) rfl rfl rfl rfl (zq_same _ _) zq_guard, ?_⟩ | rw [u1] | rw [u2] | rw [f1] | rw [e2] | rw [e4]); conv => whnf)); (first | exact Recast.refl _ | exact Frz.recast (Recast.refl _) rfl | (refine Frz.one rfl rfl ?_; skip) | (refine Frz.tup ?_; skip))
  · have u3 : (decide ((R : Int) > 40) = true) ∨ (decide ((R : Int) > 40) = false ∧ decide ((C : Int) > 40) = true) := by
      by_cases h : R ≤ 40
      · exact .inr ⟨decide_eq_false (by omega), decide_eq_true (by omega)⟩
      · exact .inl (decide_eq_true (by omega))
    rcases u3 with u1 | ⟨u1, u2⟩
    all_goals
      refine callV (Z := [100000]) tabOK mixedOK Tryz.func6 rfl (by kernel_rfl) rfl rfl (by kernel_rfl) rfl ?_
      intro W0 w0 ρ0 hE
      conv => whnf
      refine SWx_addKey 39 (blk := zB3 []) rfl rfl ?_
      refine SWx_addKey 46 (blk := fblk []) rfl rfl ?_
      refine SWx_addKey 64 (blk := zB3 []) rfl rfl ?_
      refine SWx_go hE ?_
      conv => whnf
      (repeat ((first | refine step_w1 rfl rfl ?_ | refine step_w2 rfl rfl ?_ | refine step_oN (by first | omega | decide | (simp only [tiB5, tiB95, tiB3, tiB2, tiB9, tiB38, tiB74, tiB25, tiB41, tiB36, tiB30, tiB4, tiB70, tiB72, tiB164, tiB27, tiB62, tiB32, dlen, List.length_replicate, List.length_set, List.length_map, List.length_zipWith, List.length_take, List.length_append, List.length_cons, List.length_nil]; omega)) ?_ | refine g_c (by assumption) ?_ | refine g_o (op_pickT rfl (ev_ok rfl) (ev_ok rfl)) ?_ | refine g_o (op_pickF rfl (ev_ok rfl) (ev_ok rfl)) ?_ | rw [beq_self_eq_true] | refine tst_tt u2 ?_ | refine g_o (op_makeF rfl (ev_ok rfl) (ev_ok rfl) (tgt rfl) rfl (tgt rfl) rfl rfl (by simp only [tiB38]; omega)) ?_ | refine g_o (op_makeZ rfl (ev_ok rfl) (ev_ok rfl) (tgt rfl) rfl (tgt rfl) rfl rfl (by simp only [tiB36]; omega)) ?_ | rw [u1] | rw [e2]); conv => whnf)); (first | exact Recast.refl _ | exact Frz.recast (Recast.refl _) rfl | (refine Frz.one rfl rfl ?_; skip) | (refine Frz.tup ?_; skip))
end Go.Proofs.YtkpfineikahgfaaGreatDoor
