/- The texts Ox. -/
import Derived.Test.YtkpfineikahgfaaGreatDoorQLBareissStages6
namespace Go.Proofs.YtkpfineikahgfaaGreatDoor
open Go.Sx
set_option linter.unusedSimpArgs false
set_option linter.unusedVariables false
set_option maxRecDepth 100000
set_option maxHeartbeats 40000000

theorem c_BStages (a : WW) (sv n : Int) (ha : wOK a) (hs : 0 ≤ sv ∧ sv < 256) (hn : 0 ≤ n ∧ n < 256) : CallOK Tryz.prog 4 [wQ a, iel .u8 sv, iel .u8 n] [] (.val (.bool true)) [] [] := by
  have kw := l_works15
  have kf := c_fewW [a] (by simp) (by intro m hm; simp only [List.mem_cons, List.not_mem_nil, or_false] at hm; obtain rfl := hm; exact ha.2.2.1)
  cases hF : [a].all fun m => decide (m.2.2.length ≤ 40)
  · rw [hF] at kf
    refine callV (Z := [3, 20]) tabOK mixedOK Tryz.func4 rfl (by kernel_rfl) rfl rfl (by kernel_rfl) rfl ?_
    intro W0 w0 ρ0 hE
    conv => whnf
    (repeat (first | (refine step_w1 rfl rfl ?_; conv => whnf) | (refine g_c (by assumption) ?_; conv => whnf) | (refine g_o (op_loadA rfl (ev_ok rfl) (tgt rfl) rfl (Nat.succ_ne_zero _) rfl) ?_; conv => whnf))); (first | exact Recast.refl _ | exact Frz.recast (Recast.refl _) rfl | (refine Frz.one rfl rfl ?_; skip) | (refine Frz.tup ?_; skip))
  rw [hF] at kf
  have k1 := c_SidesW a ha
  have hr : (a.1 % 6).toNat < 6 := by omega
  have hc : (a.2.1 % 6).toNat < 6 := by omega
  have hk : (n % 5).toNat < 5 := by omega
  have e1 : IntKind.u8.wrap (n.tmod 5) = n.tmod 5 := by rw [Int.tmod_eq_emod_of_nonneg hn.1, wrap_u8 (by omega) (by omega)]
  have e2 : IntKind.i64.wrap (n.tmod 5) = (((n % 5).toNat : Nat) : Int) := by rw [Int.tmod_eq_emod_of_nonneg hn.1, wrap_i64 (by omega) (by omega)]; omega
  have e3 : IntKind.i64.wrap sv = sv := wrap_i64 (by omega) (by omega)
  generalize (a.1 % 6).toNat = r at *
  generalize (a.2.1 % 6).toNat = c at *
  generalize (n % 5).toNat = k at *
  obtain ⟨q, hq, hqr, hqc, hq6⟩ : ∃ q : Nat, (if (c : Int) < (r : Int) then (c : Int) else (r : Int)) = (q : Int) ∧ q ≤ r ∧ q ≤ c ∧ q ≤ 5 := by
    by_cases h : c < r
    · exact ⟨c, if_pos (by omega), by omega, by omega, by omega⟩
    · exact ⟨r, if_neg (by omega), by omega, by omega, by omega⟩
  have e4 : IntKind.i64.wrap ((q : Int) + 1) = ((q + 1 : Nat) : Int) := winc (by omega)
  obtain ⟨s, hsq, e5⟩ : ∃ s : Nat, s ≤ q ∧ sv.tmod ((q + 1 : Nat) : Int) = (s : Int) := by
    have h1 := Int.tmod_eq_emod_of_nonneg (b := ((q + 1 : Nat) : Int)) hs.1
    have h2 := Int.emod_nonneg sv (show ((q + 1 : Nat) : Int) ≠ 0 by omega)
    have h3 := Int.emod_lt_of_pos sv (show 0 < ((q + 1 : Nat) : Int) by omega)
    exact ⟨(sv % ((q + 1 : Nat) : Int)).toNat, by omega, by omega⟩
  have e6 : IntKind.i64.wrap (s : Int) = (s : Int) := wrap_i64 (by omega) (by omega)
  have hsr : s ≤ r := by omega
  have hsc : s ≤ c := by omega
  have k2 := c_WOf a ha (r := r) (c := c) (by omega) (by omega)
  have k3 := c_WOf a ha (r := k) (c := k) (by omega) (by omega)
  have okx := OKZ_zLw a.2.2 (r := r) (c := c) (by omega) (by omega)
  have zx := Zm_zLw ha.2.2.2 (r * c)
  have oky := OKZ_zLw a.2.2 (r := k) (c := k) (by omega) (by omega)
  have zy := Zm_zLw ha.2.2.2 (k * k)
  have k4 := r_refW a ha (r := r) (c := c) (by omega) (by omega)
  have k5 := r_refW a ha (r := k) (c := k) (by omega) (by omega)
  generalize zLw a.2.2 (r * c) = X at *
  generalize zLw a.2.2 (k * k) = Y at *
  have hX := okx.n
  have hY := oky.n
  have sx := ofInts_Sm zx
  have sy := ofInts_Sm zy
  have k6 := b_Stage okx zx (by decide) (by omega) (by have := pow6 (k := 5) (by decide); have h : 4 ^ (s + 1) ≤ 4 ^ 6 := Nat.pow_le_pow_right (by decide) (by omega); omega) hsr hsc
  have k7 := b_Adjugate oky zy (by decide) (by decide) (by omega) (pow6 (by omega))
  have k8 := b_Det oky zy (by decide) (by decide) (by omega) (pow6 (by omega))
  have k9 := r_Stage (s := s) (by rw [ofInts_len, hX]) sx (by decide) (by omega) (by omega) (by omega) hsr hsc
  rw [stage_eq hX hsr hsc] at k9
  have k10 := r_Adjugate (by rw [ofInts_len, hY]) sy (by decide) (by omega)
  rw [adj_eq hY] at k10
  have k11 := r_Minor (r := k) (c := k) (by rw [ofInts_len, hY]) sy (by decide) (p := upN k) (q := upN k) (fun i hi => by rw [upN_len] at hi; rw [upN_at hi]; omega) (fun i hi => by rw [upN_len] at hi; rw [upN_at hi]; omega) (by rw [upN_len]; omega) rfl
  rw [upN_len, det_eq hY] at k11
  have k12 := r15_is (r := r - s) (c := c - s) (B := 300000) (a := stM r c s X) (OKZ.mk' (by omega) (by omega) _) (Zm_mk fun i j hi hj => detZ_zs (by omega) (by decide) fun x y hx hy => elz_zm zx hX (by unfold at1; split <;> omega) (by unfold at1; split <;> omega)) (by decide)
  have k13 := r15_is (r := k) (c := k) (B := 300000) (a := mkz k k (adjZ k (elz Y k))) (OKZ.mk' (by omega) (by omega) _) (Zm_mk fun i j hi hj => adjZ_zs (by omega) (by decide) (fun x y hx hy => elz_zm zy hY hx hy) hi hj) (by decide)
  have zD := detZ_zs (n := k) (B := 65) (A := elz Y k) (by omega) (by decide) fun i j hi hj => elz_zm zy hY hi hj
  have fD := fs_zs (detZ k (elz Y k))
  have k14 := lw_frac (detZ k (elz Y k)) (by omega)
  have k15 := lw_Same ((detZ k (elz Y k) : Int) : Rat) (by omega)
  have w1 : IntKind.i64.wrap ((c : Int) - (s : Int)) = ((c - s : Nat) : Int) := by rw [wrap_i64 (by omega) (by omega)]; omega
  have lu := upN_len k
  clear zx zy sx sy okx oky zD fD
  generalize stM r c s X = M at *
  generalize mkz k k (adjZ k (elz Y k)) = A at *
  generalize detZ k (elz Y k) = D at *
  refine callF (Z := [3, 20, 100014]) tabOK mixedOK Tryz.func4 rfl (by kernel_rfl) (by first | rfl | (simp [keylessL, keyless, keylessL_map, *]; done)) (by first | rfl | (simp [keylessL, keyless, keylessL_map, *]; done)) (by kernel_rfl) rfl ?_
  intro w0 ρ0 hE
  conv => whnf
  (repeat ((first | refine step_w2 rfl rfl ?_ | refine step_oN (by first | omega | decide | (simp only [tl0, dlen, List.length_replicate, List.length_set, List.length_map, List.length_zipWith, List.length_take, List.length_append, List.length_cons, List.length_nil]; omega)) ?_ | refine g_c (by assumption) ?_ | refine g_o (op_loadA rfl (ev_ok rfl) (tgt rfl) rfl (Nat.succ_ne_zero _) rfl) ?_ | rw [e3] | rw [hq] | rw [e4] | rw [e5] | rw [e2]); conv => whnf))
  refine SWx_adopt (t := 17) (k := 2002) (s := 1) (blk := iblkM []) rfl rfl rfl ?_
  refine SW_loopN hE (fun k => k) [3, 6, 7, 8, 9, 10, 11, 12, 13, 14, 15, 16, 17, 18] [10, 13, 15, 2002] (fun m fr hp => ∃ i : Nat, m = k - i ∧ i ≤ k ∧
    fr = [(3, ptrA [iel .u8 a.1, iel .u8 a.2.1, ivec .i64 a.2.2]), (6, .val (.bool false)), (7, iv r), (8, iv c), (9, iv s), (10, .ptr 10 0 0 0), (11, iv 0), (12, iv k), (13, .ptr 13 0 0 0), (14, iv 0), (15, .ptr 15 0 0 0), (16, iv 0), (17, .slc 2002 1 0 i), (18, iv (i : Nat))] ∧
    hp = [(10, ⟨55, true, .one (wC (r - s : Nat) (c - s : Nat) M)⟩), (13, ⟨55, true, .one (wC k k A)⟩), (15, ⟨36, true, .one [.int D]⟩), (2002, iblkM (upN i))]) k ?_ ?_ ?_
  · kernel_rfl
  · exact ⟨0, rfl, Nat.zero_le _, rfl, rfl⟩
  rintro m _ _ ⟨i, rfl, hi, rfl, rfl⟩
  conv => whnf
  by_cases hlt : i < k
  · have lq := upN_len i
    have t1 := dlt hlt
    have t2 := winc (i := i) (by omega)
    have e7 := app_int (l := upN i) (x := (i : Int))
    rw [lq, ← upN_succ] at e7
    clear k1 k2 k3 k4 k5 k6 k7 k8 k9 k10 k11 k12 k13 k14 k15 kw kf
    (repeat ((first | refine step_oA (by first | omega | decide | (simp only [tl0, dlen, List.length_replicate, List.length_set, List.length_map, List.length_zipWith, List.length_take, List.length_append, List.length_cons, List.length_nil]; omega)) ?_ | refine tst_tt t1 ?_ | rw [t1] | rw [t2]); conv => whnf))
    refine ⟨k - (i + 1), renBy [(72, 2002)], [3, 6, 7, 8, 9, 10, 11, 12, 13, 14, 15, 16, 17, 18], [10, 13, 15, 72], by omega, by kernel_rfl, i + 1, rfl, hlt, rfl, ?_⟩
    rw [e7]; rfl
  · have t1 := dge hlt
    obtain rfl : i = k := by omega
    (repeat (first | (refine tst_ff t1 ?_; conv => whnf) | (rw [t1]; conv => whnf)))
    refine SWx_freezeI 17 2002 (fun _ h => h) rfl rfl lu.symm ?_
    refine SWx_go hE ?_
    conv => whnf
    (repeat ((first | refine step_w1 rfl rfl ?_ | refine step_i (by kernel_rfl) ?_ | refine g_c (by assumption) ?_ | refine g_o (op_pickT rfl (ev_ok rfl) (ev_ok rfl)) ?_ | rw [beq_self_eq_true] | refine g_o (op_loadA rfl (ev_ok rfl) (tgt rfl) rfl (Nat.succ_ne_zero _) rfl) ?_ | rw [w1]); conv => whnf)); (first | exact Recast.refl _ | exact Frz.recast (Recast.refl _) rfl | (refine Frz.one rfl rfl ?_; skip) | (refine Frz.tup ?_; skip))
theorem law_BareissStages (a0 : WW) (a1 a2 : Int) (w0 : WWf a0) (w1 : (Lit.int .u8 a1).wf = true) (w2 : (Lit.int .u8 a2).wf = true) :
    CallOK Tryz.prog 4 [wQ a0, iel .u8 a1, iel .u8 a2] [] (.val (.bool true)) [] [] := c_BStages a0 a1 a2 (wOK_of w0) (wf_u8 w1) (wf_u8 w2)
end Go.Proofs.YtkpfineikahgfaaGreatDoor
