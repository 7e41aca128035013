/- The texts Oz. -/
import Derived.Test.YtkpfineikahgfaaGreatDoorQLBareissAdjugate5
namespace Go.Proofs.YtkpfineikahgfaaGreatDoor
open Go.Sx
set_option linter.unusedSimpArgs false
set_option linter.unusedVariables false
set_option maxRecDepth 100000
set_option maxHeartbeats 40000000

theorem b_FracZ {n B : Nat} {a : List Int} (hn : n ≤ 40) (ha : OKZ n n a) (za : Zm B a) (hB : B ≤ 536870912) : CallOK Tryz.prog 45 [wA n n a] [] (.tup [mA n n (ofInts a), iv 0]) [] [] := by
  have h : n * n ≤ 40 * 40 := Nat.mul_le_mul hn hn
  have k := b_Frac n n a (by have := ha.n; omega) fun i hi => Nat.le_trans (za i hi) hB
  rw [check_ok ha.r ha.c ha.n, if_pos rfl] at k
  exact k
theorem b_AdjZ {n B : Nat} {a : List Int} (ha : OKZ n n a) (za : Zm B a) (hB : 2 ≤ B) (hB2 : B ≤ 536870912) (hn : n ≤ 40) (hb : 2 * (B * 4 ^ n) ≤ 1073741824) :
    CallOK Tryz.prog 26 [wA n n a] [] (.tup [wA n n (adjL n a), iv 0]) [] [] := b_Adjugate ha za hB hB2 hn hb
theorem m_ScaleOne {r C : Nat} {q : Rat} (hr : r ≤ 2048) (hq : fs q ≤ C) (h : C + 10 ≤ 1073741824) : CallOK Tryz.prog 69 [.frac q, mA r r (mone r)] [] (.tup [mA r r (vscale q (mone r)), iv 0]) [] [] :=
  m_Scale (OKM_mk (r := r) (c := r) (F := delta) hr hr) hq (Sm_one r) h
theorem OKM_ofInts {r c : Nat} {a : List Int} (ha : OKZ r c a) : OKM r c (ofInts a) := ⟨ha.r, ha.c, by rw [ofInts_len, ha.n]⟩
theorem m_SameQ (n : Nat) (a : List Rat) (h : a.length < 1099511627776) : CallOK Tryz.prog 60 [mA n n a, mA n n a] [] (.val (.bool true)) [] [] := by
  have k := m_Same n n n n a a h h
  rw [show sameF (n : Int) n n n a a = true from by simp [sameF]] at k
  exact k
theorem c_BAdjugate (v w : WW) (n : Int) (hv : wOK v) (hw : wOK w) (hn : 0 ≤ n ∧ n < 256) : CallOK Tryz.prog 9 [wQ v, wQ w, iel .u8 n] [] (.val (.bool true)) [] [] := by
  have kw := l_works15
  have kf := c_fewW [v, w] (by simp) (by intro m hm; simp only [List.mem_cons, List.not_mem_nil, or_false] at hm; rcases hm with rfl | rfl; exact hv.2.2.1; exact hw.2.2.1)
  cases hF : [v, w].all fun m => decide (m.2.2.length ≤ 40)
  · rw [hF] at kf
    refine callV (Z := [3, 4, 56]) tabOK mixedOK Tryz.func9 rfl (by kernel_rfl) rfl rfl (by kernel_rfl) rfl ?_
    intro W0 w0 ρ0 hE
    conv => whnf
    (repeat (first | (refine step_w1 rfl rfl ?_; conv => whnf) | (refine g_c (by assumption) ?_; conv => whnf) | (refine g_o (op_loadA rfl (ev_ok rfl) (tgt rfl) rfl (Nat.succ_ne_zero _) rfl) ?_; conv => whnf))); (first | exact Recast.refl _ | exact Frz.recast (Recast.refl _) rfl | (refine Frz.one rfl rfl ?_; skip) | (refine Frz.tup ?_; skip))
  rw [hF] at kf
  have hr : (n % 5).toNat < 5 := by omega
  have e1 : IntKind.u8.wrap (n.tmod 5) = n.tmod 5 := by rw [Int.tmod_eq_emod_of_nonneg hn.1, wrap_u8 (by omega) (by omega)]
  have e2 : IntKind.i64.wrap (n.tmod 5) = (((n % 5).toNat : Nat) : Int) := by rw [Int.tmod_eq_emod_of_nonneg hn.1, wrap_i64 (by omega) (by omega)]; omega
  generalize (n % 5).toNat = r at *
  have hp4 : 4 ^ r ≤ 4 ^ 4 := Nat.pow_le_pow_right (by decide) (by omega)
  have hrr : r * r ≤ 4 * 4 := Nat.mul_le_mul (by omega) (by omega)
  have k1 := c_WOf v hv (r := r) (c := r) (by omega) (by omega)
  have k2 := c_WOf w hw (r := r) (c := r) (by omega) (by omega)
  have okx := OKZ_zLw v.2.2 (r := r) (c := r) (by omega) (by omega)
  have zx := Zm_zLw hv.2.2.2 (r * r)
  have oky := OKZ_zLw w.2.2 (r := r) (c := r) (by omega) (by omega)
  have zy := Zm_zLw hw.2.2.2 (r * r)
  generalize zLw v.2.2 (r * r) = X at *
  generalize zLw w.2.2 (r * r) = Y at *
  have hX := okx.n
  have hY := oky.n
  have okA : OKZ r r (adjL r X) := OKZ.mk' (by omega) (by omega) _
  have okB : OKZ r r (adjL r Y) := OKZ.mk' (by omega) (by omega) _
  have okP : OKZ r r (prL r X Y) := OKZ.mk' (by omega) (by omega) _
  have okT : OKZ r r (trL r X) := OKZ.mk' (by omega) (by omega) _
  have okAP : OKZ r r (adjL r (prL r X Y)) := OKZ.mk' (by omega) (by omega) _
  have okAT : OKZ r r (adjL r (trL r X)) := OKZ.mk' (by omega) (by omega) _
  have zP := prL_zs (n := r) (by omega) hX hY zx zy
  have zT : Zm 65 (trL r X) := Zm_mk fun i k hi hk => elz_zm zx hX hk hi
  have zA : Zm 3912812 (adjL r X) := Zm_mk fun i k hi hk => adjZ_zsB (B := 65) (by omega) (by decide) (fun a b ha hb => elz_zm zx hX ha hb) hi hk
  have zB : Zm 3912812 (adjL r Y) := Zm_mk fun i k hi hk => adjZ_zsB (B := 65) (by omega) (by decide) (fun a b ha hb => elz_zm zy hY ha hb) hi hk
  have zAP : Zm 3912812 (adjL r (prL r X Y)) := Zm_mk fun i k hi hk => adjZ_zsB (B := 600) (by omega) (by decide) (fun a b ha hb => elz_zm zP okP.n ha hb) hi hk
  have zAT : Zm 3912812 (adjL r (trL r X)) := Zm_mk fun i k hi hk => adjZ_zsB (B := 65) (by omega) (by decide) (fun a b ha hb => elz_zm zT okT.n ha hb) hi hk
  have zD := detZ_zsB (n := r) (B := 65) (A := elz X r) (by omega) (by decide) fun i j hi hj => elz_zm zx hX hi hj
  have fD := fs_zs (detZ r (elz X r))
  have a1 := b_FracZ (by omega) okx zx (by decide)
  have a2 := b_FracZ (by omega) oky zy (by decide)
  have a3 := b_AdjZ okx zx (by decide) (by decide) (by omega) (by omega)
  have a4 := b_Det okx zx (by decide) (by decide) (by omega) (by omega)
  have a5 := b_FracZ (by omega) okA zA (by decide)
  have a6 := m_One r (by omega)
  have a7 := lw_frac (detZ r (elz X r)) (by omega)
  have a8 := m_ScaleOne (r := r) (q := ((detZ r (elz X r) : Int) : Rat)) (by omega) (show fs ((detZ r (elz X r) : Int) : Rat) ≤ 4000000 by omega) (by decide)
  have a9 := m_Mul 5 (OKM_ofInts okx) (OKM_ofInts okA) (ofInts_Sm zx) (ofInts_Sm zA) (by omega) (by decide)
  rw [adj_left hX] at a9
  have a10 := m_Mul 5 (OKM_ofInts okA) (OKM_ofInts okx) (ofInts_Sm zA) (ofInts_Sm zx) (by omega) (by decide)
  rw [adj_right hX] at a10
  have a11 := m_SameQ r (vscale ((detZ r (elz X r) : Int) : Rat) (mone r)) (by rw [vscale_len]; omega)
  have a12 := m_Mul 5 (OKM_ofInts okx) (OKM_ofInts oky) (ofInts_Sm zx) (ofInts_Sm zy) (by omega) (by decide)
  rw [prod_ofInts hX hY] at a12
  have a13 := b_Clear (OKM_ofInts okP) (ofInts_Sm zP) (by decide) (by omega)
  rw [clZ_int okP.n, byL_int] at a13
  have a14 := b_AdjZ okP zP (by decide) (by decide) (by omega) (by omega)
  have a15 := b_FracZ (by omega) okAP zAP (by decide)
  have a16 := b_AdjZ oky zy (by decide) (by decide) (by omega) (by omega)
  have a17 := b_FracZ (by omega) okB zB (by decide)
  have a18 := m_Mul 5 (OKM_ofInts okB) (OKM_ofInts okA) (ofInts_Sm zB) (ofInts_Sm zA) (by omega) (by decide)
  rw [← adj_prod] at a18
  have a19 := m_SameQ r (ofInts (adjL r (prL r X Y))) (by rw [ofInts_len, mkz_len]; omega)
  have a20 := m_Turn (OKM_ofInts okx)
  rw [turn_ofInts hX] at a20
  have a21 := b_Clear (OKM_ofInts okT) (ofInts_Sm zT) (by decide) (by omega)
  rw [clZ_int okT.n, byL_int] at a21
  have a22 := b_AdjZ okT zT (by decide) (by decide) (by omega) (by omega)
  have a23 := b_FracZ (by omega) okAT zAT (by decide)
  have a24 := m_Turn (OKM_ofInts okA)
  rw [← adj_turn] at a24
  have a25 := m_SameQ r (ofInts (adjL r (trL r X))) (by rw [ofInts_len, mkz_len]; omega)
  have k3 := c_nOf 1 (by decide)
  have lA : (ofInts (adjL r X)).length = r * r := by rw [ofInts_len, mkz_len]
  have w1 : IntKind.i64.wrap ((r : Int) * (r : Int)) = ((r * r : Nat) : Int) := by rw [← Int.natCast_mul, wrap_i64 (by omega) (by omega)]
  have w2 : ((r : Int) != (r : Int)) = false := bne_self_eq_false _
  have w3 : (((r * r : Nat) : Int) != ((r * r : Nat) : Int)) = false := bne_self_eq_false _
  have lR : (List.replicate r 1).length = r := List.length_replicate ..
  have gR : ∀ i, i < r → (List.replicate r 1).getD i 0 = 1 := fun i hi => by rw [List.getD_eq_getElem?_getD, List.getElem?_replicate, if_pos hi]; rfl
  have w4 : ((r : Int) == (r : Int)) = true := beq_self_eq_true _
  have w5 : (!decide ((1 : Nat) = 1)) = false := rfl
  clear okx oky okA okB okP okT okAP okAT zP zT zA zB zAP zAT zD fD zx zy hX hY
  generalize ofInts (adjL r (trL r X)) = m6 at *
  generalize adjL r (trL r X) = m7 at *
  generalize ofInts (adjL r (prL r X Y)) = m1 at *
  generalize adjL r (prL r X Y) = m2 at *
  generalize vscale ((detZ r (elz X r) : Int) : Rat) (mone r) = m3 at *
  generalize mone r = m8 at *
  generalize detZ r (elz X r) = D at *
  generalize ofInts (prL r X Y) = m4 at *
  generalize prL r X Y = m5 at *
  generalize ofInts (trL r X) = m9 at *
  generalize trL r X = m10 at *
  generalize ofInts (adjL r X) = m11 at *
  generalize adjL r X = m12 at *
  generalize ofInts (adjL r Y) = m13 at *
  generalize adjL r Y = m14 at *
  generalize ofInts X = m15 at *
  generalize ofInts Y = m16 at *
  generalize List.replicate r 1 = u at *
  refine callF (Z := [3, 4, 56]) tabOK mixedOK Tryz.func9 rfl (by kernel_rfl) (by first | rfl | (simp [keylessL, keyless, keylessL_map, *]; done)) (by first | rfl | (simp [keylessL, keyless, keylessL_map, *]; done)) (by kernel_rfl) rfl ?_
  intro w0 ρ0 hE
  conv => whnf
  (repeat ((first | refine step_w1 rfl rfl ?_ | refine step_w2 rfl rfl ?_ | refine step_i (by kernel_rfl) ?_ | refine step_oN (by first | omega | decide | (simp only [tl0, dlen, List.length_replicate, List.length_set, List.length_map, List.length_zipWith, List.length_take, List.length_append, List.length_cons, List.length_nil]; omega)) ?_ | refine g_c (by assumption) ?_ | refine g_o (op_pickF rfl (ev_ok rfl) (ev_ok rfl)) ?_ | rw [bne_self_eq_false] | refine g_o (op_lenM rfl rfl rfl (ev_ok rfl) (tgt rfl) rfl) ?_ | refine g_o (op_loadA rfl (ev_ok rfl) (tgt rfl) rfl (Nat.succ_ne_zero _) rfl) ?_ | rw [e2] | rw [w1] | rw [lA] | rw [Nat.zero_add]); conv => whnf))
  clear a1 a2 a3 a4 a5 a6 a7 a8 a9 a10 a11 a12 a13 a14 a15 a16 a17 a18 kf e1 e2 w1 w2 w3 k1 k2
  refine SW_loopN hE (fun k => k) [6, 7, 9, 17, 30, 31, 33, 38, 40, 42] [9, 17, 38, 40] (fun m fr hp => ∃ i : Nat, m = r - i ∧ i ≤ r ∧
    fr = [(6, .val (.bool false)), (7, iv r), (9, .ptr 9 0 0 0), (17, .ptr 17 0 0 0), (30, nvec u), (31, iv 0), (33, iv 0), (38, .ptr 38 0 0 0), (40, .ptr 40 0 0 0), (42, iv (i : Nat))] ∧
    hp = [(9, ⟨27, true, .one (mC r r m15)⟩), (17, ⟨27, true, .one (mC r r m11)⟩), (38, ⟨27, true, .one (mC r r m1)⟩), (40, ⟨27, true, .one (mC r r m1)⟩)]) r ?_ ?_ ?_
  · kernel_rfl
  · exact ⟨0, rfl, Nat.zero_le _, rfl, rfl⟩
  rintro m _ _ ⟨i, rfl, hi, rfl, rfl⟩
  conv => whnf
  by_cases hlt : i < r
  · have t1 := dlt hlt
    have t2 := winc (i := i) (by omega)
    have g1 := gR i hlt
    clear a19 a20 a21 a22 a23 a24 a25 kw gR
    (repeat ((first | refine step_w2 rfl rfl ?_ | refine step_i (by kernel_rfl) ?_ | refine g_c (by assumption) ?_ | refine tst_tt t1 ?_ | refine g_o (op_lenM rfl rfl rfl (ev_ok rfl) (tgt rfl) rfl) ?_ | refine g_o (op_loadA rfl (ev_ok rfl) (tgt rfl) rfl (Nat.succ_ne_zero _) rfl) ?_ | refine g_o (op_indexN (α := Nat) (d := 0) rfl (ev_ok rfl) (ev_ok rfl) (tgt rfl) rfl (tgt rfl) rfl (by omega)) ?_ | refine ⟨_, op_neAgg tabOK goodOK rfl (ev_ok rfl) (ev_ok rfl) rfl rfl rfl rfl (nq_same _ _) nq_guard, ?_⟩ | rw [lR] | rw [t1] | rw [g1] | rw [w5] | rw [t2]); conv => whnf))
    exact ⟨r - (i + 1), fun k => k, [6, 7, 9, 17, 30, 31, 33, 38, 40, 42], [9, 17, 38, 40], by omega, by kernel_rfl, i + 1, rfl, hlt, rfl, rfl⟩
  · have t1 := dge hlt
    obtain rfl : i = r := by omega
    clear k3 gR
    (repeat ((first | refine step_w1 rfl rfl ?_ | refine g_c (by assumption) ?_ | refine g_o (op_pickT rfl (ev_ok rfl) (ev_ok rfl)) ?_ | rw [beq_self_eq_true] | refine tst_ff t1 ?_ | refine g_o (op_lenM rfl rfl rfl (ev_ok rfl) (tgt rfl) rfl) ?_ | rw [lR]); conv => whnf)); (first | exact Recast.refl _ | exact Frz.recast (Recast.refl _) rfl | (refine Frz.one rfl rfl ?_; skip) | (refine Frz.tup ?_; skip))
theorem law_BareissAdjugate (a0 a1 : WW) (a2 : Int) (w0 : WWf a0) (w1 : WWf a1) (w2 : (Lit.int .u8 a2).wf = true) :
    CallOK Tryz.prog 9 [wQ a0, wQ a1, iel .u8 a2] [] (.val (.bool true)) [] [] := c_BAdjugate a0 a1 a2 (wOK_of w0) (wOK_of w1) (wf_u8 w2)
end Go.Proofs.YtkpfineikahgfaaGreatDoor
