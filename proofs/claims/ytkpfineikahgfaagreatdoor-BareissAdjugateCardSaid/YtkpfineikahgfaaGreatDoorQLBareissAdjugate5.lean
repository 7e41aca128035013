/- The texts Kc, Kd, Ke, Kg, Kf, Kh, Ra, Rb, Rc, Rd, Aa, Re, Rf, Td, Te, Tf, Rg, Kk, Kl, Ki, Km, Kn, Ko, Kp, Kq, Kr, Kw, Ia, Os, Fb, Oa, Ob, Of, Oh, Oc, Od, Oe, Og, Oj, Oi, Ok, Ol, Om, On, Oo, Ou, Op, Ow, Oy. -/
import Derived.Test.YtkpfineikahgfaaGreatDoorQLBareissAdjugate4
namespace Go.Proofs.YtkpfineikahgfaaGreatDoor
open Go.Sx
set_option linter.unusedSimpArgs false
set_option linter.unusedVariables false
set_option maxRecDepth 100000
set_option maxHeartbeats 4000000

theorem delta_eq (i k : Nat) : delta i k = if i = k then ((1 : Int) : Rat) else 0 := by unfold delta; split <;> simp
theorem m_One1 (i k : Nat) (hi : i ≤ 2048) (hk : k ≤ 2048) : CallOK Tryz.prog 88 ([] ++ ([iv (i : Nat), iv (k : Nat)] ++ [])) [] (.frac (delta i k)) [] [] := by
  have k1 := c_fInt 1 (by decide) (by decide)
  rw [delta_eq]
  refine callV (Z := []) tabOK mixedOK Tryz.func88 rfl (by kernel_rfl) rfl rfl (by kernel_rfl) rfl ?_
  intro W0 w0 ρ0 hE
  conv => whnf
  by_cases h : i = k
  · have t1 : ((i : Int) != (k : Int)) = false := by rw [h]; exact bne_self_eq_false _
    rw [if_pos h]
    (repeat (first | (refine step_w2 rfl rfl ?_; conv => whnf) | (refine g_c (by assumption) ?_; conv => whnf) | (rw [t1]; conv => whnf))); (first | exact Recast.refl _ | exact Frz.recast (Recast.refl _) rfl | (refine Frz.one rfl rfl ?_; skip) | (refine Frz.tup ?_; skip))
  · have t1 : ((i : Int) != (k : Int)) = true := bne_iff_ne.2 (by omega)
    rw [if_neg h]
    (repeat (first | (refine step_w1 rfl rfl ?_; conv => whnf) | (rw [t1]; conv => whnf))); (first | exact Recast.refl _ | exact Frz.recast (Recast.refl _) rfl | (refine Frz.one rfl rfl ?_; skip) | (refine Frz.tup ?_; skip))
theorem m_One (n : Nat) (hn : n ≤ 2048) : CallOK Tryz.prog 19 [iv n] [] (.tup [mA n n (mone n), iv 0]) [] [] := by
  have k1 := m_Make0 hn hn delta 88 (fun i k hi hk => m_One1 i k (by omega) (by omega))
  refine callV (Z := []) tabOK mixedOK Tryz.func19 rfl (by kernel_rfl) rfl rfl (by kernel_rfl) rfl ?_
  intro W0 w0 ρ0 hE
  conv => whnf
  (repeat (first | (refine g_c (by assumption) ?_; conv => whnf))); (first | exact Recast.refl _ | exact Frz.recast (Recast.refl _) rfl | (refine Frz.one rfl rfl ?_; skip) | (refine Frz.tup ?_; skip))

/-- Two matrices, element by element. -/
theorem zip_mk {F : Rat → Rat → Rat} {r c : Nat} {a b : List Rat} (ha : a.length = r * c) (hb : b.length = r * c) : mk r c (fun i k => F (el a c i k) (el b c i k)) = List.zipWith F a b :=
  mk_ext (zip_len ha hb) fun i k hi hk => (zip_get (by rw [ha]; exact idx_lt hi hk) (by rw [hb]; exact idx_lt hi hk)).symm
theorem m_each1 (F : Rat → Rat → Rat) (g : FuncId) (p : Pred) {r c : Nat} {a b : List Rat} (ha : OKM r c a) (hb : OKM r c b)
    (hf : ∀ i k, i < r → k < c → CallOK Tryz.prog g ([] ++ ([.frac (el a c i k), .frac (el b c i k)] ++ [.atom p])) [] (.frac (F (el a c i k) (el b c i k))) [] []) :
    CallOK Tryz.prog 158 [mA r c a, mA r c b, .clo g [] [.atom p]] [] (.tup [mA r c (List.zipWith F a b), iv 0]) [] [] := by
  have k1 := m_all2 ha hb
  have kc : ∀ i k, i < r → k < c → CallOK Tryz.prog 221 ([] ++ ([iv (i : Nat), iv (k : Nat)] ++ [ptrA [.clo g [] [.atom p]], ptrA (mC r c a), ptrA (mC r c b)])) [] (.frac (F (el a c i k) (el b c i k))) [] [] := by
    intro i k hi hk
    have o1 := m_at ha hi hk
    have o2 := m_at hb hi hk
    have o3 := hf i k hi hk
    refine callV (Z := []) tabOK mixedOK Tryz.func221 rfl (by kernel_rfl) rfl rfl (by kernel_rfl) rfl ?_
    intro W0 w0 ρ0 hE
    conv => whnf
    (repeat (first | (refine step_i (by kernel_rfl) ?_; conv => whnf) | (refine g_c (by assumption) ?_; conv => whnf) | (refine g_o (op_loadA rfl (ev_ok rfl) (tgt rfl) rfl (Nat.succ_ne_zero _) rfl) ?_; conv => whnf))); (first | exact Recast.refl _ | exact Frz.recast (Recast.refl _) rfl | (refine Frz.one rfl rfl ?_; skip) | (refine Frz.tup ?_; skip))
  have k2 := m_Make3 ha.r ha.c _ 221 (ptrP [.clo g [] [.atom p]]) (ptrP (mC r c a)) (ptrP (mC r c b)) kc
  rw [zip_mk ha.n hb.n] at k2
  refine callV (Z := [3, 4, 5, 11]) tabOK mixedOK Tryz.func158 rfl (by kernel_rfl) rfl rfl (by kernel_rfl) rfl ?_
  intro W0 w0 ρ0 hE
  conv => whnf
  (repeat ((first | refine step_w1 rfl rfl ?_ | refine step_w2 rfl rfl ?_ | refine g_c (by assumption) ?_ | refine g_o (op_pickF rfl (ev_ok rfl) (ev_ok rfl)) ?_ | rw [bne_self_eq_false] | refine g_o (op_loadA rfl (ev_ok rfl) (tgt rfl) rfl (Nat.succ_ne_zero _) rfl) ?_ | refine g_o (op_fieldA rfl (ev_ok rfl) (tgt rfl) rfl rfl (Nat.succ_ne_zero _) rfl) ?_ | refine g_o (op_makeFunc rfl rfl rfl) ?_); conv => whnf)); (first | exact Recast.refl _ | exact Frz.recast (Recast.refl _) rfl | (refine Frz.one rfl rfl ?_; skip) | (refine Frz.tup ?_; skip))

theorem m_Scale1 (c x y : Rat) (h : fs c + fs x ≤ 1073741824) : CallOK Tryz.prog 171 ([] ++ ([.frac x, .frac y] ++ [ptrA [.frac c]])) [] (.frac (c * x)) [] [] := by
  have k1 := f_Mul c x h
  refine callV (Z := []) tabOK mixedOK Tryz.func171 rfl (by kernel_rfl) rfl rfl (by kernel_rfl) rfl ?_
  intro W0 w0 ρ0 hE
  conv => whnf
  (repeat (first | (refine g_c (by assumption) ?_; conv => whnf) | (refine g_o (op_loadA rfl (ev_ok rfl) (tgt rfl) rfl (Nat.succ_ne_zero _) rfl) ?_; conv => whnf))); (first | exact Recast.refl _ | exact Frz.recast (Recast.refl _) rfl | (refine Frz.one rfl rfl ?_; skip) | (refine Frz.tup ?_; skip))
theorem m_Scale {r c A C : Nat} {q : Rat} {a : List Rat} (ha : OKM r c a) (hq : fs q ≤ C) (sa : Sm A a) (h : C + A ≤ 1073741824) : CallOK Tryz.prog 69 [.frac q, mA r c a] [] (.tup [mA r c (vscale q a), iv 0]) [] [] := by
  have k1 := m_each1 (fun x _ => q * x) 171 (ptrP [.frac q]) ha ha (fun i k hi hk => m_Scale1 _ _ _ (by have := el_sm sa ha.n hi hk; omega))
  refine callV (Z := [2]) tabOK mixedOK Tryz.func69 rfl (by kernel_rfl) rfl rfl (by kernel_rfl) rfl ?_
  intro W0 w0 ρ0 hE
  conv => whnf
  (repeat (first | (refine g_c (by assumption) ?_; conv => whnf) | (refine g_o (op_makeFunc rfl rfl rfl) ?_; conv => whnf))); (first | exact Recast.refl _ | exact Frz.recast (Recast.refl _) rfl | (refine Frz.one rfl rfl ?_; skip) | (refine Frz.tup ?_; skip))

theorem m_Turn1 {r c : Nat} {a : List Rat} (ha : OKM r c a) (i k : Nat) (hi : i < c) (hk : k < r) : CallOK Tryz.prog 156 ([] ++ ([iv (i : Nat), iv (k : Nat)] ++ [ptrA (mC r c a)])) [] (.frac (el a c k i)) [] [] := by
  have k1 := m_at ha hk hi
  refine callV (Z := []) tabOK mixedOK Tryz.func156 rfl (by kernel_rfl) rfl rfl (by kernel_rfl) rfl ?_
  intro W0 w0 ρ0 hE
  conv => whnf
  (repeat (first | (refine g_c (by assumption) ?_; conv => whnf) | (refine g_o (op_loadA rfl (ev_ok rfl) (tgt rfl) rfl (Nat.succ_ne_zero _) rfl) ?_; conv => whnf))); (first | exact Recast.refl _ | exact Frz.recast (Recast.refl _) rfl | (refine Frz.one rfl rfl ?_; skip) | (refine Frz.tup ?_; skip))
theorem m_Turn {r c : Nat} {a : List Rat} (ha : OKM r c a) : CallOK Tryz.prog 57 [mA r c a] [] (.tup [mA c r (mturn r c a), iv 0]) [] [] := by
  have k0 := m_Check0 ha
  have k1 := m_Make1 ha.c ha.r _ 156 (ptrP (mC r c a)) (fun i k hi hk => m_Turn1 ha i k hi hk)
  refine callV (Z := [1]) tabOK mixedOK Tryz.func57 rfl (by kernel_rfl) rfl rfl (by kernel_rfl) rfl ?_
  intro W0 w0 ρ0 hE
  conv => whnf
  (repeat ((first | refine step_w2 rfl rfl ?_ | refine g_c (by assumption) ?_ | rw [bne_self_eq_false] | refine g_o (op_loadA rfl (ev_ok rfl) (tgt rfl) rfl (Nat.succ_ne_zero _) rfl) ?_ | refine g_o (op_fieldA rfl (ev_ok rfl) (tgt rfl) rfl rfl (Nat.succ_ne_zero _) rfl) ?_ | refine g_o (op_makeFunc rfl rfl rfl) ?_); conv => whnf)); (first | exact Recast.refl _ | exact Frz.recast (Recast.refl _) rfl | (refine Frz.one rfl rfl ?_; skip) | (refine Frz.tup ?_; skip))

end Go.Proofs.YtkpfineikahgfaaGreatDoor

namespace Go.Proofs.YtkpfineikahgfaaGreatDoor
open Go.Sx
set_option linter.unusedSimpArgs false
set_option linter.unusedVariables false
set_option maxRecDepth 100000
set_option maxHeartbeats 4000000

theorem m_Mul1 {r s t A B S : Nat} {a b : List Rat} (ha : OKM r s a) (hb : OKM s t b) (sa : Sm A a) (sb : Sm B b) (hS : s ≤ S) (h : A + B + (2 + S * (A + B)) ≤ 1073741824) (i k : Nat) (hi : i < r) (hk : k < t) :
    CallOK Tryz.prog 173 ([] ++ ([iv (i : Nat), iv (k : Nat)] ++ [ptrA (mC r s a), ptrA (mC s t b)])) [] (.frac (sumR s fun p => el a s i p * el b t p k)) [] [] := by
  have hs := ha.c
  refine callV (Z := []) tabOK mixedOK Tryz.func173 rfl (by kernel_rfl) rfl rfl (by kernel_rfl) rfl ?_
  intro W0 w0 ρ0 hE
  conv => whnf
  (repeat (first | (refine g_o (op_loadA rfl (ev_ok rfl) (tgt rfl) rfl (Nat.succ_ne_zero _) rfl) ?_; conv => whnf) | (refine g_o (op_fieldA rfl (ev_ok rfl) (tgt rfl) rfl rfl (Nat.succ_ne_zero _) rfl) ?_; conv => whnf)))
  refine SW_loopN hE (fun k => k) [0, 1, 2, 3, 6, 7, 11, 12] [6, 7] (fun m fr hp => ∃ (p : Nat) (q : Rat), m = s - p ∧ p ≤ s ∧ q = sumR p (fun p => el a s i p * el b t p k) ∧ fs q ≤ 2 + p * (A + B) ∧ fr = [(0, iv (i : Nat)), (1, iv (k : Nat)), (2, ptrA (mC r s a)), (3, ptrA (mC s t b)), (6, .ptr 6 0 0 0), (7, .ptr 7 0 0 0), (11, iv s), (12, iv (p : Nat))] ∧ hp = [(6, ⟨38, true, .one [.frac 0]⟩), (7, ⟨38, true, .one [.frac q]⟩)]) s ?_ ?_ ?_
  · kernel_rfl
  · exact ⟨0, 0, rfl, Nat.zero_le _, rfl, by rw [fs_zero]; omega, rfl, rfl⟩
  rintro m _ _ ⟨p, q, rfl, hp, hq, hfs, rfl, rfl⟩
  conv => whnf
  by_cases hlt : p < s
  · have t1 := dlt hlt
    have t2 := winc (i := p) (by omega)
    have o1 := m_at ha hi hlt
    have o2 := m_at hb hlt hk
    have b1 := el_sm sa ha.n hi hlt
    have b2 := el_sm sb hb.n hlt hk
    have b3 := fs_mul (el a s i p) (el b t p k)
    have b4 := Nat.mul_le_mul_right (A + B) (show p ≤ S by omega)
    have o3 := f_Mul (el a s i p) (el b t p k) (by omega)
    have o4 := f_Add q (el a s i p * el b t p k) (by omega)
    have b5 := fs_add q (el a s i p * el b t p k)
    have e1 : sumR (p + 1) (fun p => el a s i p * el b t p k) = q + el a s i p * el b t p k := by rw [hq]; rfl
    have e2 : fs (q + el a s i p * el b t p k) ≤ 2 + (p + 1) * (A + B) := by rw [Nat.succ_mul]; omega
    clear hq hfs b1 b2 b3 b4 b5
    generalize q + el a s i p * el b t p k = q1 at *
    (repeat ((first | refine step_w1 rfl rfl ?_ | refine step_i (by kernel_rfl) ?_ | refine g_c (by assumption) ?_ | refine g_o (op_loadA rfl (ev_ok rfl) (tgt rfl) rfl (Nat.succ_ne_zero _) rfl) ?_ | rw [t1] | rw [t2]); conv => whnf))
    exact ⟨s - (p + 1), fun k => k, [0, 1, 2, 3, 6, 7, 11, 12], [6, 7], by omega, by kernel_rfl, p + 1, q1, rfl, hlt, e1.symm, e2, rfl, rfl⟩
  · have t1 := dge hlt
    have hP : p = s := by omega
    subst hP
    rw [← hq]
    (repeat (first | (refine step_w2 rfl rfl ?_; conv => whnf) | (rw [t1]; conv => whnf))); (first | exact Recast.refl _ | exact Frz.recast (Recast.refl _) rfl | (refine Frz.one rfl rfl ?_; skip) | (refine Frz.tup ?_; skip))
theorem m_Mul {r s t A B : Nat} (S : Nat) {a b : List Rat} (ha : OKM r s a) (hb : OKM s t b) (sa : Sm A a) (sb : Sm B b) (hS : s ≤ S) (h : A + B + (2 + S * (A + B)) ≤ 1073741824) :
    CallOK Tryz.prog 70 [mA r s a, mA s t b] [] (.tup [mA r t (mmul r s t a b), iv 0]) [] [] := by
  have k0 := m_all2 ha hb
  have k1 := m_Make2 ha.r hb.c _ 173 (ptrP (mC r s a)) (ptrP (mC s t b)) (m_Mul1 ha hb sa sb hS h)
  refine callV (Z := [2, 3, 9]) tabOK mixedOK Tryz.func70 rfl (by kernel_rfl) rfl rfl (by kernel_rfl) rfl ?_
  intro W0 w0 ρ0 hE
  conv => whnf
  (repeat ((first | refine step_w2 rfl rfl ?_ | refine g_c (by assumption) ?_ | rw [bne_self_eq_false] | refine g_o (op_loadA rfl (ev_ok rfl) (tgt rfl) rfl (Nat.succ_ne_zero _) rfl) ?_ | refine g_o (op_fieldA rfl (ev_ok rfl) (tgt rfl) rfl rfl (Nat.succ_ne_zero _) rfl) ?_ | refine g_o (op_makeFunc rfl rfl rfl) ?_); conv => whnf)); (first | exact Recast.refl _ | exact Frz.recast (Recast.refl _) rfl | (refine Frz.one rfl rfl ?_; skip) | (refine Frz.tup ?_; skip))

theorem Sm_row {a : List Rat} {r c i A : Nat} (sa : Sm A a) (ha : a.length = r * c) (hi : i < r) : Sm A (rowL a c i) := by
  intro k hk
  rw [rowL_len hi ha] at hk
  rw [rowL_get hk]; exact el_sm sa ha hi hk
theorem m_Equal (a b : List Rat) (ha : a.length < 1099511627776) (hb : b.length < 1099511627776) : CallOK Tryz.prog 161 [fvec a, fvec b] [] (.val (.bool (decide (a = b)))) [] [] := by
  refine callV (Z := []) tabOK mixedOK Tryz.func161 rfl (by kernel_rfl) rfl rfl (by kernel_rfl) rfl ?_
  intro W0 w0 ρ0 hE
  conv => whnf
  by_cases hab : a.length = b.length
  · have t0 : ((a.length : Int) != (b.length : Int)) = false := by rw [hab]; exact bne_self_eq_false _
    (repeat (first | (refine step_w2 rfl rfl ?_; conv => whnf) | (refine g_o (op_lenM rfl rfl rfl (ev_ok rfl) (tgt rfl) rfl) ?_; conv => whnf) | (rw [t0]; conv => whnf)))
    refine SW_loopN hE (fun k => k) [0, 1, 4, 11, 12, 13] [] (fun m fr hp => ∃ i, m = a.length - i ∧ i ≤ a.length ∧ a.take i = b.take i ∧ fr = [(0, fvec a), (1, fvec b), (4, .val (.bool false)), (11, fvec a), (12, .val (.int .i64 (a.length : Nat))), (13, .val (.int .i64 (i : Nat)))] ∧ hp = []) a.length ?_ ?_ ?_
    · kernel_rfl
    · exact ⟨0, rfl, Nat.zero_le _, rfl, rfl, rfl⟩
    rintro m _ _ ⟨i, rfl, hi, ht, rfl, rfl⟩
    conv => whnf
    by_cases hlt : i < a.length
    · have t1 := dlt hlt
      have t2 := winc (i := i) (by omega)
      by_cases hv : a.getD i 0 = b.getD i 0
      · have t3 : (!decide (a.getD i 0 = b.getD i 0)) = false := by rw [decide_eq_true hv]; rfl
        (repeat ((first | refine step_w1 rfl rfl ?_ | refine step_w2 rfl rfl ?_ | refine step_i (by kernel_rfl) ?_ | refine g_o (op_indexN (α := Rat) (d := 0) rfl (ev_ok rfl) (ev_ok rfl) (tgt rfl) rfl (tgt rfl) rfl (by omega)) ?_ | refine g_o (op_loadA rfl (ev_ok rfl) (tgt rfl) rfl (Nat.succ_ne_zero _) rfl) ?_ | refine ⟨_, op_neAgg tabOK goodOK rfl (ev_ok rfl) (ev_ok rfl) rfl rfl rfl rfl (q_same _ _) q_guard, ?_⟩ | rw [t1] | rw [t3] | rw [t2]); conv => whnf))
        exact ⟨a.length - (i + 1), fun k => k, [0, 1, 4, 11, 12, 13], [], by omega, by kernel_rfl, i + 1, rfl, hlt, by rw [take_snoc a i hlt, take_snoc b i (by omega), ht, hv], rfl, rfl⟩
      · have t3 : (!decide (a.getD i 0 = b.getD i 0)) = true := by rw [decide_eq_false hv]; rfl
        have e : decide (a = b) = false := decide_eq_false (fun h => hv (by rw [h]))
        rw [e]
        (repeat ((first | refine step_w1 rfl rfl ?_ | refine step_i (by kernel_rfl) ?_ | refine g_o (op_indexN (α := Rat) (d := 0) rfl (ev_ok rfl) (ev_ok rfl) (tgt rfl) rfl (tgt rfl) rfl (by omega)) ?_ | refine g_o (op_loadA rfl (ev_ok rfl) (tgt rfl) rfl (Nat.succ_ne_zero _) rfl) ?_ | refine ⟨_, op_neAgg tabOK goodOK rfl (ev_ok rfl) (ev_ok rfl) rfl rfl rfl rfl (q_same _ _) q_guard, ?_⟩ | rw [t1] | rw [t3]); conv => whnf)); (first | exact Recast.refl _ | exact Frz.recast (Recast.refl _) rfl | (refine Frz.one rfl rfl ?_; skip) | (refine Frz.tup ?_; skip))
    · have t1 := dge hlt
      have hI : i = a.length := by omega
      have e : decide (a = b) = true := decide_eq_true (by rw [hI, List.take_length] at ht; rw [ht, hab, List.take_length])
      rw [e]
      (repeat (first | (refine step_w2 rfl rfl ?_; conv => whnf) | (rw [t1]; conv => whnf))); (first | exact Recast.refl _ | exact Frz.recast (Recast.refl _) rfl | (refine Frz.one rfl rfl ?_; skip) | (refine Frz.tup ?_; skip))
  · have t0 : ((a.length : Int) != (b.length : Int)) = true := bne_iff_ne.2 (by omega)
    have e : decide (a = b) = false := decide_eq_false (fun h => hab (by rw [h]))
    rw [e]
    (repeat (first | (refine step_w1 rfl rfl ?_; conv => whnf) | (refine g_o (op_lenM rfl rfl rfl (ev_ok rfl) (tgt rfl) rfl) ?_; conv => whnf) | (rw [t0]; conv => whnf))); (first | exact Recast.refl _ | exact Frz.recast (Recast.refl _) rfl | (refine Frz.one rfl rfl ?_; skip) | (refine Frz.tup ?_; skip))
/-- Whether two matrices are equal. -/
def sameF (r c s t : Int) (a b : List Rat) : Bool := r == s && c == t && decide (a = b)
theorem m_Same (r c s t : Int) (a b : List Rat) (ha : a.length < 1099511627776) (hb : b.length < 1099511627776) : CallOK Tryz.prog 60 [mA r c a, mA s t b] [] (.val (.bool (sameF r c s t a b))) [] [] := by
  have k1 := m_Equal a b ha hb
  unfold sameF
  refine callV (Z := []) tabOK mixedOK Tryz.func60 rfl (by kernel_rfl) rfl rfl (by kernel_rfl) rfl ?_
  intro W0 w0 ρ0 hE
  conv => whnf
  cases h1 : (r == s)
  · (repeat (first | (refine step_w2 rfl rfl ?_; conv => whnf) | (refine g_o (op_pickF rfl (ev_ok rfl) (ev_ok rfl)) ?_; conv => whnf))); (first | exact Recast.refl _ | exact Frz.recast (Recast.refl _) rfl | (refine Frz.one rfl rfl ?_; skip) | (refine Frz.tup ?_; skip))
  · cases h2 : (c == t)
    · (repeat ((first | refine step_w1 rfl rfl ?_ | refine step_w2 rfl rfl ?_ | refine g_o (op_pickT rfl (ev_ok rfl) (ev_ok rfl)) ?_ | refine g_o (op_pickF rfl (ev_ok rfl) (ev_ok rfl)) ?_ | rw [h2]); conv => whnf)); (first | exact Recast.refl _ | exact Frz.recast (Recast.refl _) rfl | (refine Frz.one rfl rfl ?_; skip) | (refine Frz.tup ?_; skip))
    · (repeat ((first | refine step_w1 rfl rfl ?_ | refine g_c (by assumption) ?_ | refine g_o (op_pickT rfl (ev_ok rfl) (ev_ok rfl)) ?_ | rw [h2]); conv => whnf)); (first | exact Recast.refl _ | exact Frz.recast (Recast.refl _) rfl | (refine Frz.one rfl rfl ?_; skip) | (refine Frz.tup ?_; skip))
end Go.Proofs.YtkpfineikahgfaaGreatDoor

namespace Go.Proofs.YtkpfineikahgfaaGreatDoor
open Go.Sx
set_option linter.unusedSimpArgs false
set_option linter.unusedVariables false
set_option maxRecDepth 100000
set_option maxHeartbeats 4000000

end Go.Proofs.YtkpfineikahgfaaGreatDoor

namespace Go.Proofs.YtkpfineikahgfaaGreatDoor
open Go.Sx
set_option linter.unusedSimpArgs false
set_option linter.unusedVariables false
set_option maxRecDepth 100000
set_option maxHeartbeats 4000000

/-- The text of a matrix. -/
def rowsL (r c : Nat) (a : List Rat) : List (List Rat) := (List.range r).map (rowL a c)
def tM (r c : Nat) (a : List Rat) : ByteArray := ⟨(Lib.join (((rowsL r c a).map tV).map (·.data.toList)) [32]).toArray⟩
theorem rowsL_get {r c i : Nat} {a : List Rat} (hi : i < r) : (rowsL r c a).getD i [] = rowL a c i := by simp [rowsL, List.getD_eq_getElem?_getD, hi]
theorem rowsL_len (r c : Nat) (a : List Rat) : (rowsL r c a).length = r := by simp [rowsL]
theorem tV_size {a : List Rat} {B : Nat} (h : ∀ i, i < a.length → fs (a.getD i 0) ≤ B) : (tV a).data.toList.length ≤ 2 + a.length * (2 * B + 5) := by
  have h1 := join_size ((a.map tQ).map (·.data.toList)) (2 * B + 4) (by
    intro x hx
    obtain ⟨s, hs, rfl⟩ := List.mem_map.1 hx
    obtain ⟨q, hq, rfl⟩ := List.mem_map.1 hs
    obtain ⟨i, hi, rfl⟩ := mem_getD hq 0
    have h1 := tQ_size (a.getD i 0)
    have h2 := h i hi
    have : (tQ (a.getD i 0)).data.toList.length = (tQ (a.getD i 0)).size := Array.length_toList
    show (tQ (a.getD i 0)).data.toList.length ≤ _
    omega)
  rw [List.length_map, List.length_map] at h1
  have e1 : "[".toByteArray.data.toList.length = 1 := by decide +kernel
  have e2 : "]".toByteArray.data.toList.length = 1 := by decide +kernel
  unfold tV
  rw [ByteArray.data_append, ByteArray.data_append, Array.toList_append, Array.toList_append, List.length_append, List.length_append]
  show "[".toByteArray.data.toList.length + (Lib.join ((a.map tQ).map (·.data.toList)) [32]).length + "]".toByteArray.data.toList.length ≤ _
  rw [e1, e2]
  rw [show 2 * B + 4 + 1 = 2 * B + 5 from rfl] at h1
  omega
theorem rows_sm {r c B : Nat} {a : List Rat} (ha : a.length = r * c) (sa : Sm B a) {l : List Rat} (h : l ∈ rowsL r c a) : l.length = c ∧ Sm B l := by
  obtain ⟨i, hi, rfl⟩ := List.mem_map.1 h
  have hi' := List.mem_range.1 hi
  exact ⟨rowL_len hi' ha, Sm_row sa ha hi'⟩
theorem tM_join {r c B : Nat} {a : List Rat} (ha : OKM r c a) (sa : Sm B a) (hB : B ≤ 1000000) : (Lib.join (((rowsL r c a).map tV).map (·.data.toList)) [32]).length ≤ 140737488355328 := by
  refine Nat.le_trans (join_size _ (2 + 2048 * (2 * B + 5)) ?_) ?_
  · intro x hx
    obtain ⟨s, hs, rfl⟩ := List.mem_map.1 hx
    obtain ⟨l, hl, rfl⟩ := List.mem_map.1 hs
    obtain ⟨h1, h2⟩ := rows_sm ha.n sa hl
    refine Nat.le_trans (tV_size h2) ?_
    have := Nat.mul_le_mul_right (2 * B + 5) (show l.length ≤ 2048 by rw [h1]; exact ha.c)
    omega
  · rw [List.length_map, List.length_map, rowsL_len]
    have := Nat.mul_le_mul_right (2 + 2048 * (2 * B + 5) + 1) ha.r
    omega
theorem app_snocS {l : List ByteArray} {i : Nat} {d : ByteArray} (h : i < l.length) : (⟨9, true, .seq 1 ((l.take (i + 1)).map sel)⟩ : Blk) = ⟨9, true, .seq 1 (List.take i ((l.take i).map sel) ++ List.take 1 (List.drop 0 [sel (l.getD i d)]))⟩ := by
  have hl : ((l.take i).map sel).length = i := by rw [List.length_map, List.length_take]; omega
  have e : l.take (i + 1) = l.take i ++ [l.getD i d] := by rw [List.take_add_one, List.getD_eq_getElem?_getD, List.getElem?_eq_getElem h]; rfl
  rw [e, List.map_append, List.take_of_length_le (l := (l.take i).map sel) (by omega)]; rfl
abbrev sblkM (l : List ByteArray) : Blk := ⟨9, true, .seq 1 (l.map sel)⟩
theorem m_Text {r c B : Nat} {a : List Rat} (ha : OKM r c a) (sa : Sm B a) (hB : B ≤ 1000000) : CallOK Tryz.prog 80 [mA r c a] [] (.val (.string (tM r c a))) [] [] := by
  have k0 := m_Check0 ha
  have hr := ha.r
  have la := rowsL_len r c a
  have hz : ((rowsL r c a).map tV).length = r := by rw [List.length_map, rowsL_len]
  have kj := t_Join ((rowsL r c a).map tV) (by omega) (tM_join ha sa hB)
  refine callF (Z := [1]) tabOK mixedOK Tryz.func80 rfl (by kernel_rfl) (by first | rfl | (simp [keylessL, keyless, keylessL_map, *]; done)) (by first | rfl | (simp [keylessL, keyless, keylessL_map, *]; done)) (by kernel_rfl) rfl ?_
  intro w0 ρ0 hE
  conv => whnf
  (repeat ((first | refine step_w2 rfl rfl ?_ | refine g_c (by assumption) ?_ | rw [bne_self_eq_false] | refine g_o (op_loadA rfl (ev_ok rfl) (tgt rfl) rfl (Nat.succ_ne_zero _) rfl) ?_ | refine g_o (op_fieldA rfl (ev_ok rfl) (tgt rfl) rfl rfl (Nat.succ_ne_zero _) rfl) ?_); conv => whnf))
  refine SWx_adopt (t := 3) (k := 2001) (s := 1) (blk := sblkM []) rfl rfl rfl ?_
  refine SW_loopS hE (fun k => k) [1, 3, 9, 10] [2001] (fun m fr hp => ∃ i : Nat, m = r - i ∧ i ≤ r ∧ fr = [(1, ptrA (mC r c a)), (3, .slc 2001 1 0 i), (9, iv r), (10, iv (i : Nat))] ∧ hp = [(2001, sblkM (((rowsL r c a).map tV).take i))]) r ?_ ?_ ?_
  · kernel_rfl
  · exact ⟨0, rfl, Nat.zero_le _, rfl, rfl⟩
  rintro m _ _ ⟨i, rfl, hi, rfl, rfl⟩
  have hlt0 : ((((rowsL r c a).map tV).take i).map sel).length = i := by rw [List.length_map, List.length_take]; omega
  by_cases hlt : i < r
  · have t1 := dlt hlt
    have t2 := winc (i := i) (by omega)
    have o1 := m_rowV ha hlt
    have l1 := rowL_len hlt ha.n
    have o2 := t_VecG (rowL a c i) B (by have := ha.c; omega) (Sm_row sa ha.n hlt) (by omega)
    have hget : ((rowsL r c a).map tV).getD i ByteArray.empty = tV (rowL a c i) := by rw [map_get (d := []) (by rw [rowsL_len]; exact hlt), rowsL_get hlt]
    have e1 := app_snocS (l := (rowsL r c a).map tV) (d := ByteArray.empty) (i := i) (by omega)
    rw [hget] at e1
    refine SWx.of hE ?_
    conv => whnf
    (repeat ((first | refine step_w1 rfl rfl ?_ | refine step_oA (by first | omega | decide | (simp only [tl0, dlen, List.length_replicate, List.length_set, List.length_map, List.length_zipWith, List.length_take, List.length_append, List.length_cons, List.length_nil]; omega)) ?_ | refine g_c (by assumption) ?_ | refine g_o (op_loadA rfl (ev_ok rfl) (tgt rfl) rfl (Nat.succ_ne_zero _) rfl) ?_ | rw [t1] | rw [t2]); conv => whnf))
    refine ⟨r - (i + 1), renBy [(19, 2001)], [1, 3, 9, 10], [19], by omega, by kernel_rfl, i + 1, rfl, hlt, rfl, ?_⟩
    rw [sblkM, e1]; rfl
  · have t1 := dge hlt
    obtain rfl : i = r := by omega
    rw [List.take_of_length_le (by omega)]
    refine SWx_freezeM 3 2001 (fun _ h => h) (fun _ => rfl) rfl rfl hz.symm ?_
    refine SWx.of hE ?_
    conv => whnf
    (repeat (first | (refine step_w2 rfl rfl ?_; conv => whnf) | (refine g_c (by assumption) ?_; conv => whnf) | (rw [t1]; conv => whnf))); (first | exact Recast.refl _ | exact Frz.recast (Recast.refl _) rfl | (refine Frz.one rfl rfl ?_; skip) | (refine Frz.tup ?_; skip))
end Go.Proofs.YtkpfineikahgfaaGreatDoor

namespace Go.Sx
set_option linter.unusedSimpArgs false
set_option linter.unusedVariables false
theorem addKey_RR {E : Env} {k : Nat} {blk : Blk} {fr : List (Nat × SV)} {hp : List (Nat × Blk)} (hk : find hp k = none) (he : blk.data.empty) {a : Act} {w : World} (hR : RR E (fn fr hp) a w) :
    RR E (fn fr ((k, blk) :: hp)) a w := by
  obtain ⟨ρ, hext, hfx, hR⟩ := hR
  have hkn : ρ.key k = none := by
    cases hx : ρ.key k with
    | none => rfl
    | some x =>
      obtain ⟨b, hb⟩ := hR.hp.dom k x hx
      simp only [fn, LV.blk, hk] at hb
      cases hb
  have hblk : ∀ j b, (fn fr ((k, blk) :: hp) (.k j)).blk = some b → (j = k ∧ b = blk) ∨ (j ≠ k ∧ (fn fr hp (.k j)).blk = some b) := by
    intro j b hb
    simp only [fn, LV.blk, find] at hb ⊢
    cases hj : Nat.beq k j with
    | true => rw [hj] at hb; simp only [Option.some.injEq] at hb; exact .inl ⟨(Nat.eq_of_beq_eq_true hj).symm, hb.symm⟩
    | false => rw [hj] at hb; exact .inr ⟨by rintro rfl; simp [Nat.beq_refl] at hj, hb⟩
  have hne : ∀ j x, ρ.key j = some x → j ≠ k := fun j x hx h => by rw [h, hkn] at hx; cases hx
  refine ⟨ρ, hext, fun j hj => ?_, { defers := hR.defers, size := hR.size, fr := fun u sv hu => hR.fr u sv hu, pres := hR.pres, hp := ?_ }⟩
  · have := hfx j hj
    simp only [fn, LV.blk, find] at this ⊢
    cases hb : Nat.beq k j with
    | true => simp
    | false => exact this
  · constructor
    · intro j b hb
      rcases hblk j b hb with ⟨rfl, rfl⟩ | ⟨_, h1⟩
      · exact .inr (.inr ⟨hkn, he⟩)
      · exact hR.hp.blk j b h1
    · intro j j' x x' b b' hx hx' hn hxe hb hb'
      rcases hblk j b hb with ⟨h1, _⟩ | ⟨_, h1⟩
      · exact absurd h1 (hne j x hx)
      · rcases hblk j' b' hb' with ⟨h2, _⟩ | ⟨_, h2⟩
        · exact absurd h2 (hne j' x' hx')
        · exact hR.hp.sep j j' x x' b b' hx hx' hn hxe h1 h2
    · intro j b x hb hw hl hx
      rcases hblk j b hb with ⟨h1, _⟩ | ⟨_, h1⟩
      · exact absurd h1 (hne j x hx)
      · exact hR.hp.own j b x h1 hw hl hx
    · intro j x hx
      obtain ⟨b, hb⟩ := hR.hp.dom j x hx
      have := hne j x hx
      refine ⟨b, ?_⟩
      simp only [fn, LV.blk, find] at hb ⊢
      cases hj : Nat.beq k j with
      | true => exact absurd (Nat.eq_of_beq_eq_true hj).symm this
      | false => exact hb
    · exact hR.hp.imm
    · intro j b x hb hw hl hx
      rcases hblk j b hb with ⟨h1, _⟩ | ⟨_, h1⟩
      · exact absurd h1 (hne j x hx)
      · exact hR.hp.immw j b x h1 hw hl hx

/-- A block's contents told in other words. -/
theorem retell_RR {E : Env} {j : Nat} {ty : TypeId} {wr : Bool} {cs cs' : List SV} {fr : List (Nat × SV)} {hp : List (Nat × Blk)} (hj : find hp j = some ⟨ty, wr, .one cs⟩) (hd : ∀ ρ z, HasZ ρ cs z → HasZ ρ cs' z) {a : Act} {w : World} (hR : RR E (fn fr hp) a w) :
    RR E (fn fr ((j, ⟨ty, wr, .one cs'⟩) :: hp)) a w := by
  obtain ⟨ρ, hext, hfx, hR⟩ := hR
  have hblk : ∀ i b, (fn fr ((j, ⟨ty, wr, .one cs'⟩) :: hp) (.k i)).blk = some b → ∃ b0, (fn fr hp (.k i)).blk = some b0 ∧ b0.wr = b.wr ∧ b0.data.live = b.data.live ∧ (b0 = b ∨ (i = j ∧ b0 = ⟨ty, wr, .one cs⟩ ∧ b = ⟨ty, wr, .one cs'⟩)) := by
    intro i b hb
    simp only [fn, LV.blk, find] at hb ⊢
    cases hi : Nat.beq j i with
    | true =>
      rw [hi] at hb
      simp only [Option.some.injEq] at hb
      obtain rfl := Nat.eq_of_beq_eq_true hi
      subst hb
      exact ⟨_, hj, rfl, rfl, .inr ⟨rfl, rfl, rfl⟩⟩
    | false => rw [hi] at hb; exact ⟨b, hb, rfl, rfl, .inl rfl⟩
  refine ⟨ρ, hext, fun i hi => ?_, { defers := hR.defers, size := hR.size, fr := fun u sv hu => hR.fr u sv hu, pres := hR.pres, hp := ?_ }⟩
  · have := hfx i hi
    simp only [fn, LV.blk, find] at this ⊢
    cases hb : Nat.beq j i with
    | true => simp
    | false => exact this
  · constructor
    · intro i b hb
      obtain ⟨b0, h1, h2, h3, rfl | ⟨rfl, rfl, rfl⟩⟩ := hblk i b hb
      · exact hR.hp.blk i b0 h1
      · rcases hR.hp.blk i _ h1 with h4 | ⟨b', t, vs, ex, g1, g2, g3, g4, g5⟩ | ⟨_, h4⟩
        · cases h4
        · refine .inr (.inl ⟨b', t, vs, ex, g1, g2, ?_, g4, g5⟩)
          simp only [DataC] at g3 ⊢
          obtain ⟨z, g6, g7⟩ := g3
          exact ⟨z, hd ρ z g6, g7⟩
        · exact h4.elim
    · intro i i' x x' b b' hx hx' hn hxe hb hb' hl hl'
      obtain ⟨b0, h1, h2, h3, _⟩ := hblk i b hb
      obtain ⟨b0', h1', h2', h3', _⟩ := hblk i' b' hb'
      rw [← h2]
      exact hR.hp.sep i i' x x' b0 b0' hx hx' hn hxe h1 h1' (h3.trans hl) (h3'.trans hl')
    · intro i b x hb hw hl hx
      obtain ⟨b0, h1, h2, h3, _⟩ := hblk i b hb
      exact hR.hp.own i b0 x h1 (h2.trans hw) (h3.trans hl) hx
    · intro i x hx
      obtain ⟨b, hb⟩ := hR.hp.dom i x hx
      simp only [fn, LV.blk, find] at hb ⊢
      cases hi : Nat.beq j i with
      | true => exact ⟨_, rfl⟩
      | false => exact ⟨b, hb⟩
    · exact hR.hp.imm
    · intro i b x hb hw hl hx
      obtain ⟨b0, h1, h2, h3, _⟩ := hblk i b hb
      exact hR.hp.immw i b0 x h1 (h2.trans hw) (h3.trans hl) hx

theorem HasZ_adopt {ρ : Rho} {k s : Nat} : ∀ {cs : List SV} {p : Nat} {z : List (List Value)}, cs[p]? = some (.val (.slice none 0 0)) → HasZ ρ cs z → HasZ ρ (cs.set p (.slc k s 0 0)) z
  | [], p, z, h, _ => by simp at h
  | c :: cs, 0, z, h, hz => by
    simp only [List.getElem?_cons_zero, Option.some.injEq] at h
    subst h
    simp only [HasZ, List.set_cons_zero] at hz ⊢
    obtain ⟨x, r, rfl, h1, h2⟩ := hz
    refine ⟨x, r, rfl, ?_, h2⟩
    simp only [HasC] at h1 ⊢
    exact .inr ⟨trivial, none, h1.1⟩
  | c :: cs, p + 1, z, h, hz => by
    simp only [List.getElem?_cons_succ] at h
    simp only [HasZ, List.set_cons_succ] at hz ⊢
    obtain ⟨x, r, rfl, h1, h2⟩ := hz
    exact ⟨x, r, rfl, h1, HasZ_adopt h h2⟩

theorem SWx_adoptB {E : Env} {j k s p : Nat} {ty : TypeId} {wr : Bool} {cs cs' : List SV} {c : Code} {K : Post'} {blk : Blk} {fr : List (Nat × SV)} {hp : List (Nat × Blk)} (hj : find hp j = some ⟨ty, wr, .one cs⟩) (hp' : cs[p]? = some (.val (.slice none 0 0))) (hk : find hp k = none) (he : blk.data.empty)
    (hcs : cs.set p (.slc k s 0 0) = cs') (hs : SWx E c K fr ((k, blk) :: (j, ⟨ty, wr, .one cs'⟩) :: hp)) : SWx E c K fr hp := ⟨fun a w hR => hs.run a w (by
    subst hcs
    refine addKey_RR ?_ he (retell_RR hj (fun ρ z hz => HasZ_adopt hp' hz) hR)
    simp only [find]
    cases hb : Nat.beq j k with
    | false => exact hk
    | true => rw [Nat.eq_of_beq_eq_true hb, hk] at hj; cases hj)⟩

theorem tst_tt {t : Bool} {A B : Prop} (h : t = true) (k : A) : (t = true → A) ∧ (t = false → B) := ⟨fun _ => k, fun h' => (by rw [h] at h'; cases h')⟩
theorem tst_ff {t : Bool} {A B : Prop} (h : t = false) (k : B) : (t = true → A) ∧ (t = false → B) := ⟨fun h' => (by rw [h] at h'; cases h'), fun _ => k⟩

/-- One value told in the words of another. -/
def Wk (c d : SV) : Prop := c.isOne = d.isOne ∧ ∀ ρ x, HasC ρ c x → HasC ρ d x
def WkL (l m : List SV) : Prop := (∀ z, List.zipWith mkV l z = List.zipWith mkV m z) ∧ ∀ ρ z, HasZ ρ l z → HasZ ρ m z
theorem Wk.refl {c : SV} : Wk c c := ⟨rfl, fun _ _ h => h⟩
theorem Wk.nil {w : Nat} {a : Option Addr} : Wk (.val (.slice a 0 0)) (vecA w []) := ⟨rfl, fun _ _ h => nil_vec h⟩
theorem WkL.nil : WkL [] [] := ⟨fun _ => rfl, fun _ _ h => h⟩
theorem WkL.cons {c d : SV} {l m : List SV} (h : Wk c d) (k : WkL l m) : WkL (c :: l) (d :: m) :=
  ⟨fun z => by cases z with
    | nil => rfl
    | cons x r => rw [List.zipWith_cons_cons, List.zipWith_cons_cons, k.1 r, mkV_eq h.1], fun ρ z hz => by
    simp only [HasZ] at hz ⊢
    obtain ⟨x, r, rfl, h1, h2⟩ := hz
    exact ⟨x, r, rfl, h.2 ρ x h1, k.2 ρ r h2⟩⟩
theorem Wk.agg {l m : List SV} (h : WkL l m) : Wk (.agg l) (.agg m) := ⟨rfl, fun ρ x hx => by
  simp only [HasC] at hx ⊢
  obtain ⟨z, h1, h2⟩ := hx
  exact ⟨z, h.2 ρ z h1, h2⟩⟩
theorem CallOK.wk {P : Program} {f : FuncId} {args args' : List SV} {fk : List (Nat × Blk)} {c : SV} {new upd : List (Nat × Blk)} (h : CallOK P f args' fk c new upd) (hw : WkL args args') : CallOK P f args fk c new upd := CallOK.args h hw.2 hw.1

/-- Three values as one. -/
def ag3 {α β γ : Type} (f : α → SV) (g : β → SV) (h : γ → SV) (p : α × β × γ) : SV := .agg [f p.1, g p.2.1, h p.2.2]
theorem Opens.struct3 {H : Type} {enc : TypeId × Value → H} {P : Program} {W : World} {hg : TabsW W} {t : TypeId} {f0 f1 f2 : Field} {α β γ : Type} {a : α → SV} {b : β → SV} {c : γ → SV} {ga : α → Prop} {gb : β → Prop} {gc : γ → Prop} (ht : P.underlying t = some (.struct #[f0, f1, f2])) (o0 : f0.offset = 0) (o1 : f1.offset = P.cellsOf f0.type)
    (o2 : f2.offset = P.cellsOf f0.type + P.cellsOf f1.type) (hc : P.cellsOf t = P.cellsOf f0.type + P.cellsOf f1.type + P.cellsOf f2.type)
    (h0 : Opens enc P hg f0.type a ga) (h1 : Opens enc P hg f1.type b gb) (h2 : Opens enc P hg f2.type c gc) : Opens enc P hg t (ag3 a b c) (fun p => ga p.1 ∧ gb p.2.1 ∧ gc p.2.2) := fun fuel cs x h => by
  obtain ⟨xs, n, rfl, _, hlen, hxl, hf⟩ := DataW.trod_struct ht h
  have hx0 : xs.length = 3 := hxl
  obtain ⟨y0, y1, y2, rfl⟩ : ∃ y0 y1 y2, xs = [y0, y1, y2] := by
    match xs, hx0 with
    | [y0, y1, y2], _ => exact ⟨y0, y1, y2, rfl⟩
  have g0 := hf 0 f0 rfl
  have g1 := hf 1 f1 rfl
  have g2 := hf 2 f2 rfl
  obtain ⟨p, p1, p2⟩ := h0 _ _ _ g0
  obtain ⟨q, q1, q2⟩ := h1 _ _ _ g1
  obtain ⟨r, r1, r2⟩ := h2 _ _ _ g2
  refine ⟨(p, q, r), ⟨p1, q1, r1⟩, ?_⟩
  simp only [ag3, HasC]
  refine ⟨[_, _, _], by simp only [HasZ]; exact ⟨_, _, rfl, p2, _, _, rfl, q2, _, _, rfl, r2, rfl⟩, ?_⟩
  simp only [List.flatten_cons, List.flatten_nil, List.append_nil, o0, o1, o2, List.drop_zero]
  rw [List.take_of_length_le (l := cs.drop (P.cellsOf f0.type + P.cellsOf f1.type)) (by rw [List.length_drop]; omega), ← List.drop_drop, List.take_append_drop, List.take_append_drop]
end Go.Sx

namespace Go.Proofs.YtkpfineikahgfaaGreatDoor
open Go.Sx
set_option linter.unusedSimpArgs false
set_option linter.unusedVariables false
set_option maxRecDepth 100000
set_option maxHeartbeats 4000000

theorem wrap_u8 {n : Int} (h0 : 0 ≤ n) (h : n < 256) : IntKind.u8.wrap n = n := by
  simp [IntKind.wrap, IntKind.bits, IntKind.signed]; omega
theorem app_one {α : Type} {l : List α} {i : Nat} {d : α} (h : i < l.length) : l.take (i + 1) = (l.take i).take i ++ (([l.getD i d] : List α).drop 0).take 1 := (app_snoc h).symm
end Go.Proofs.YtkpfineikahgfaaGreatDoor

namespace Go.Proofs.YtkpfineikahgfaaGreatDoor
open Go.Sx
set_option linter.unusedSimpArgs false
set_option linter.unusedVariables false
set_option maxRecDepth 100000
set_option maxHeartbeats 4000000

def tdF : Nat → Nat → List Nat
  | 0, _ => []
  | f + 1, n => if n = 0 then [] else n % 10000 :: tdF f (n / 10000)
def tdW (n : Nat) : List Nat := tdF n n
/-- Words are 32 bits wide. -/
def W4 (xs : List Int) : Prop := ∀ i, 0 ≤ xs.getD i 0 ∧ xs.getD i 0 < 10000

theorem W4.set {xs : List Int} (h : W4 xs) {i : Nat} {v : Int} (h0 : 0 ≤ v) (h1 : v < 10000) : W4 (xs.set i v) := by
  intro j
  rw [getD_set]
  split
  · exact ⟨h0, h1⟩
  · exact h j

/-- The tdW as the machine has them. -/
def td (n : Nat) : List Int := (tdW n).map Int.ofNat

end Go.Proofs.YtkpfineikahgfaaGreatDoor

namespace Go.Proofs.YtkpfineikahgfaaGreatDoor
open Go.Sx
set_option linter.unusedSimpArgs false
set_option linter.unusedVariables false
set_option maxRecDepth 100000
set_option maxHeartbeats 4000000

end Go.Proofs.YtkpfineikahgfaaGreatDoor

namespace Go.Proofs.YtkpfineikahgfaaGreatDoor
open Go.Sx
set_option linter.unusedSimpArgs false
set_option linter.unusedVariables false
set_option maxRecDepth 100000
set_option maxHeartbeats 4000000

end Go.Proofs.YtkpfineikahgfaaGreatDoor

namespace Go.Proofs.YtkpfineikahgfaaGreatDoor
open Go.Sx
set_option linter.unusedSimpArgs false
set_option linter.unusedVariables false
set_option maxRecDepth 100000
set_option maxHeartbeats 4000000

end Go.Proofs.YtkpfineikahgfaaGreatDoor

namespace Go.Proofs.YtkpfineikahgfaaGreatDoor
open Go.Sx
set_option linter.unusedSimpArgs false
set_option linter.unusedVariables false
set_option maxRecDepth 100000
set_option maxHeartbeats 4000000

/-- What is loaded from a slice that is a value. -/
theorem run_firstV {P : Program} {ρ : Rho} {w : World} {s n : Nat} {vs : List SV} {d : Sx.Data} {v : Value} (hv : Has ρ (vecA s vs) v) (himm : ∀ b o, ρ.imm b = some o → w.heap[b]? = some o)
    (hr : ∀ z, HasZ (bareR ρ.imm ρ.glob) vs z → (∀ x ∈ vs, x.width = s) → Go.Sx.Rows ρ s d z) (hn : n = vs.length) :
    ∃ z, Go.Sx.Rows ρ s d z ∧ (∀ w', (∀ b, b < w.heap.size → w'.heap[b]? = w.heap[b]?) → (Builtin.firstCells s n v).run P w' = .ok (((z.drop 0).take n).flatten).toArray w') ∧ Builtin.lenOf v = Pure.pure n := by
  subst hn
  rcases has_vec hv with ⟨rfl, a, rfl⟩ | ⟨b, cap, z, pre, ex, ty, fz, h1, h2, h3, h4, h5, h6⟩
  · refine ⟨[], hr [] (by simp only [HasZ]) (fun x hx => by cases hx), fun w' _ => ?_, rfl⟩
    cases a with
    | none => simp [Builtin.firstCells]
    | some a => simp [Builtin.firstCells, loadCells, loadCellsFrom]
  · have hzr := hr z h2 h3
    obtain ⟨zl, zw⟩ := hzr.len
    have hzl : z.length = vs.length := HasZ_length h2
    subst h6
    refine ⟨z, hzr, fun w' hw' => ?_, rfl⟩
    have hh0 := himm _ _ h1
    have hblt : b < w.heap.size := by
      rcases Nat.lt_or_ge b w.heap.size with h' | h'
      · exact h'
      · simp [Array.getElem?_eq_none h'] at hh0
    have hh : w'.heap[b]? = some (.cells (pre ++ (z.flatten ++ ex)).toArray ty fz) := by rw [hw' b hblt]; exact hh0
    have e0 : (z.drop 0).take vs.length = z := by rw [List.drop_zero, List.take_of_length_le (by omega)]
    rw [e0]
    have hlen : z.flatten.length = vs.length * s := by rw [flatten_len (s := s) _ zw, hzl]
    refine run_firstCells_some (P := P) w' s vs.length _ vs.length cap _ hlen ?_
    intro j u hj
    have hadd : (⟨b, pre.length, none⟩ : Addr).add j = ⟨b, pre.length + j, none⟩ := by unfold Addr.add; split <;> simp_all
    rw [hadd, cell_of_row w' b (pre.length + j) _ ty fz hh]
    have hlt : j < z.flatten.length := (List.getElem?_eq_some_iff.1 hj).1
    simp only [List.getElem?_toArray]
    rw [List.getElem?_append_right (by omega), Nat.add_sub_cancel_left, List.getElem?_append_left hlt]
    exact hj

theorem HasZ_intsU {ρ : Rho} {kd : IntKind} : ∀ (xs : List Int) (z : List (List Value)), HasZ ρ (xs.map (iel kd)) z → z = xs.map fun x => [.int kd x]
  | [], z, h => by simpa only [List.map_nil, HasZ] using h
  | x :: xs, z, h => by
    simp only [List.map_cons, HasZ] at h
    obtain ⟨y, r, rfl, h1, h2⟩ := h
    rw [HasZ_intsU xs r h2]
    simp only [iel, HasC] at h1
    rw [h1.1, List.map_cons]
theorem rows_ints {kd : IntKind} (xs : List Int) : ∀ (ρ : Rho) z, HasZ (bareR ρ.imm ρ.glob) (xs.map (iel kd)) z → (∀ x ∈ xs.map (iel kd), x.width = 1) → Go.Sx.Rows ρ 1 (.ints kd xs) z :=
  fun ρ z h _ => ⟨rfl, HasZ_intsU xs z h⟩

theorem op_appendV {P : Program} {o : Oper} {fr : List (Nat × SV)} {fk : List (Nat × Blk)} {t t2 e : TypeId} {x y : Operand} {xs : Array Operand} {ts : Array TypeId} {ti t0 te : TI} {k kn n m : Nat} {d d' d2 : Sx.Data} {vs : List SV} (ho : o.op = .call ⟨.builtin .append, xs, ts⟩) (hxs : xs = #[x, y]) (hts : ts = #[t, t2])
    (hx : EvOK fr x (.slc k te.size 0 n)) (hy : EvOK fr y (vecA te.size vs)) (hr2 : ∀ (ρ : Rho) z, HasZ (bareR ρ.imm ρ.glob) vs z → (∀ x ∈ vs, x.width = te.size) → Go.Sx.Rows ρ te.size d2 z) (ht : TOK P t ti) (hk : ti.kind = .slc e) (ht2 : TOK P t2 t0) (hk2 : t0.kind = .slc e) (he : TOK P e te)
    (hf : (k, ⟨e, true, d⟩) ∈ fk) (hl : d.live = true) (hw : dwidth d = some te.size)
    (hn : n ≤ dlen d) (hmv : m = vs.length) (hm : 0 + m ≤ dlen d2) (hd : dapp d n d2 0 m = some d') (hbytes : (n + m) * te.bytes ≤ 140737488355328) (h63 : n + m ≤ 9223372036854775807) :
    OpOK P o fr fk (.slc kn te.size 0 (n + m)) [(kn, ⟨e, true, d'⟩)] [(k, ⟨e, true, .dead⟩)] :=
  ok_value fun ρ a w hp => by
    have hvx := hx ρ a hp.hft
    have hvy := hy ρ a hp.hft
    obtain ⟨i, zv, i1, i2', i3, i4, i5, i6, i7, _⟩ := he.info
    have hu := ht.kind; rw [hk] at hu
    have hu2 := ht2.kind; rw [hk2] at hu2
    obtain ⟨z, hz, hzc⟩ := blk_rows (hp.hfk k _ hf) hl hw
    obtain ⟨z2, hz2, hrun2, hlen2⟩ := run_firstV (P := P) (d := d2) hvy hp.imm (hr2 ρ) hmv
    obtain ⟨zl, zw⟩ := hz.len
    obtain ⟨zl2, zw2⟩ := hz2.len
    have hrows := (dapp_rows hd hz hz2).1
    have hfresh := hp.fresh kn _ (List.mem_cons_self ..)
    simp only at zl
    have hsegw : ∀ u ∈ (z2.drop 0).take m, u.length = te.size := fun u hu => zw2 u (List.mem_of_mem_drop (List.mem_of_mem_take hu))
    have hsegl : ((z2.drop 0).take m).length = m := by rw [List.length_take, List.length_drop]; omega
    have hnews : (((z2.drop 0).take m).flatten).length = m * te.size := by rw [flatten_len _ hsegw, hsegl]
    have hnone : ∀ u ∈ (((z2.drop 0).take m).flatten), u.oneCell' = true := fun u hu => by
      obtain ⟨q, hq, hu⟩ := List.mem_flatten.1 hu
      exact hz2.one' q (List.mem_of_mem_drop (List.mem_of_mem_take hq)) u hu
    have hcall : ∀ v w', (Builtin.append_ ts o.type #[a.eval x, a.eval y]).run P w = .ok v w' → (execOp a.eval o).run P w = .ok (.value v) w' := by
      intro v w' h
      simp only [execOp, ho, resolve, invoke, builtin, hxs, Sem.run_bind, Sem.run_pure, Result.andThen_ok, List.map_toArray, List.map_cons, List.map_nil]
      rw [h]
      rfl
    have zone : ∀ v ∈ zv.cells.toList, v.oneCell' = true := by
      have h1 := (HasZ.len (ρ := ρ) te.zero _ (zero_has i6)).2
      rw [i5, List.flatMap_def]; exact h1
    have h63' : ¬ ((n + m : Nat) : Int) > IntKind.i64.max := by
      have : IntKind.i64.max = 9223372036854775807 := by decide
      omega
    -- the growing way
    have grow : ∀ (base : Option Addr) (cap : Nat), a.eval x = .slice base n cap → cap < n + m → (∀ w', (∀ b, b < w.heap.size → w'.heap[b]? = w.heap[b]?) → (Builtin.firstCells te.size n (.slice base n cap)).run P w' = .ok ((z.take n).flatten).toArray w') →
        ∃ v w' ρ', (execOp a.eval o).run P w = .ok (.value v) w' ∧ Post ρ w (.slc kn te.size 0 (n + m)) [(kn, ⟨e, true, d'⟩)] [(k, ⟨e, true, .dead⟩)] v ρ' w' := by
      intro base cap hbx hcap hfirst
      have hfit : ¬ Builtin.nextslicecap (n + m) cap * i.bytes > 2 ^ 48 := by
        have := growslice_fits (bytes := te.bytes) hcap hbytes
        rw [i3]; simpa using this
      have hgc : n + m ≤ grownCap w (n + m) cap e := by
        simp only [grownCap, Question.cut]
        omega
      have hpost := post_row (hL := hrows.notLoop) (ρ := ρ) (w := w.drew) (k := kn) (s := te.size) (n := n + m) (cap := grownCap w (n + m) cap e) (ty := e) (d := d') (vs := (z.take n ++ (z2.drop 0).take m).flatten) (ex := (Builtin.zeroCells zv.cells (grownCap w (n + m) cap e - (n + m))).toList) hfresh hrows.data hgc
        (by
          have h1 : ((z.take n ++ (z2.drop 0).take m).flatten).length = (n + m) * te.size := by
            rw [flatten_len (s := te.size) _ (fun u hu => (List.mem_append.1 hu).elim (fun h => zw u (List.mem_of_mem_take h)) (hsegw u)), List.length_append, hsegl, List.length_take]
            congr 1
            omega
          rw [List.length_append, h1, Array.length_toList]
          have h2 : (Builtin.zeroCells zv.cells (grownCap w (n + m) cap e - (n + m))).size = (grownCap w (n + m) cap e - (n + m)) * te.size := by simp [Builtin.zeroCells, i7]
          rw [h2, ← Nat.add_mul, show n + m + (grownCap w (n + m) cap e - (n + m)) = grownCap w (n + m) cap e from by omega]
          exact Nat.le_refl _) (zeroCells_one zone _)
      refine ⟨_, _, _, hcall _ _ ?_, { hpost with
        pres := ⟨hpost.pres.os, hpost.pres.tape, hpost.pres.output, hpost.pres.size, fun b hb hn => hpost.pres.block b hb (fun hh => by obtain ⟨_, _, _, hh, _⟩ := hh; cases hh)⟩
        blk := fun j b hj => by
          rcases hj with hj | hj
          · simp only [List.mem_singleton, Prod.mk.injEq] at hj
            obtain ⟨rfl, rfl⟩ := hj
            exact .inl rfl
          · exact hpost.blk j b (.inr hj)
        once := fun j b b' h1 h2 h3 h4 => by
          simp only [List.mem_singleton, Prod.mk.injEq] at h1 h2
          rw [h2.2] at h4
          cases h4
        newb := fun j b q hj hq => .inl ((hpost.newb j b q hj hq).elim id (fun hh => by obtain ⟨_, _, _, hh, _⟩ := hh; cases hh)) }⟩
      have hz0 : (if false = true then (Pure.pure 0 : Sem Nat) else Builtin.lenOf (a.eval y)).run P w = .ok m w := by rw [hlen2]; rfl
      have hcap' : ¬ n + m ≤ cap := by omega
      have hnb : (w.drew).heap = w.heap := rfl
      have hr1 := hfirst w.drew (fun b _ => rfl)
      have hr2 := hrun2 w.drew (fun b _ => rfl)
      simp only [Builtin.append_, hts, hbx, List.getElem?_toArray, List.getElem?_cons_zero, List.getElem?_cons_succ, Sem.run_bind, run_underlying hu, run_underlying hu2, Result.andThen_ok, he.sizeOf, Sem.run_pure, Bool.false_eq_true, if_false, hlen2]
      have hti : ∀ w', (typeInfo e).run P w' = .ok i w' := fun w' => by simp [typeInfo, i1]
      have hzv : ∀ w', (Go.zeroValue e).run P w' = .ok zv w' := fun w' => by simp [Go.zeroValue, typeInfo, i1, i4]
      have hcond : ¬ (((n + m : Nat) : Int) > IntKind.i64.max ∧ (False ∨ i.bytes = 0)) := fun h => h63' h.1
      have hforced : (Question.appendCap (n + m) cap e).forced = false := rfl
      simp only [hcap', if_false, Sem.run_bind, hti, Result.andThen_ok, hcond, hfit, run_choose, hforced, Bool.false_eq_true, World.drew_eq, run_askRoom, hr1, Bool.not_false, if_true, hr2, hzv, newRow, run_newObj, Sem.run_pure, World.alloc_eq]
      have harr : ((z.take n).flatten.toArray ++ ((z2.drop 0).take m).flatten.toArray ++ Builtin.zeroCells zv.cells (grownCap w (n + m) cap e - (n + m))) = ((z.take n ++ (z2.drop 0).take m).flatten ++ (Builtin.zeroCells zv.cells (grownCap w (n + m) cap e - (n + m))).toList).toArray := by
        apply Array.ext'
        simp
      show Result.ok (Value.slice (some ⟨w.drew.heap.size, 0, none⟩) (n + m) (grownCap w (n + m) cap e)) (w.drew.alloc (.cells ((z.take n).flatten.toArray ++ ((z2.drop 0).take m).flatten.toArray ++ Builtin.zeroCells zv.cells (grownCap w (n + m) cap e - (n + m))) e)) = _
      rw [harr]
    -- the ways
    rcases has_slc hvx with ⟨b, tt, cap, e1, e2, e3, e4⟩ | ⟨rfl, ad, e4⟩
    · rcases hzc with ⟨b', tt', ex, c1, c2, c3, c4⟩ | ⟨c1, _⟩
      · rw [e1] at c1
        cases c1
        simp only at c2
        rcases Nat.lt_or_ge cap (n + m) with hlt | hge
        · refine grow _ cap e4 hlt ?_
          obtain ⟨z3, hz3, hrun3, _⟩ := run_first (P := P) hvx (hp.hfk k _ hf) hl hw (by simpa using hn)
          intro w' hw'
          have h0 := run_firstCells_some (P := P) w' te.size n ⟨b, 0 * te.size, none⟩ n cap ((z.take n).flatten) (by
            rw [flatten_len (s := te.size) _ (fun u hu => zw u (List.mem_of_mem_take hu)), List.length_take]; congr 1; omega) (by
            intro j u hj
            have hblt : b < w.heap.size := by
              rcases Nat.lt_or_ge b w.heap.size with h' | h'
              · exact h'
              · simp [Array.getElem?_eq_none h'] at c2
            have hh : w'.heap[b]? = some (.cells (z.flatten ++ ex).toArray e (0, 0)) := by rw [hw' b hblt]; exact c2
            have hadd : (⟨b, 0 * te.size, none⟩ : Addr).add j = ⟨b, j, none⟩ := addr_add0 b te.size j
            rw [hadd, cell_of_row w' b j _ e (0, 0) hh]
            rw [flatten_take (s := te.size) _ _ zw] at hj
            have h6 : z.flatten[j]? = some u := by
              rw [List.getElem?_take] at hj
              split at hj
              · exact hj
              · cases hj
            have hlt2 : j < z.flatten.length := (List.getElem?_eq_some_iff.1 h6).1
            simp only [List.getElem?_toArray]
            rw [List.getElem?_append_left hlt2]
            exact h6)
          exact h0
        · -- in place
          have hblt : b < w.heap.size := by
            rcases Nat.lt_or_ge b w.heap.size with h' | h'
            · exact h'
            · simp [Array.getElem?_eq_none h'] at c2
          have hr2 := hrun2 w (fun b _ => rfl)
          have hfitc : 0 * te.size + n * te.size + (((z2.drop 0).take m).flatten).length ≤ (z.flatten ++ ex).length := by
            rw [hnews, c3, Nat.zero_mul, Nat.zero_add, ← Nat.add_mul]
            exact Nat.le_trans (Nat.mul_le_mul_right _ hge) (by simpa using e3)
          have hsc := run_storeCells_at (P := P) b (n * te.size) e (((z2.drop 0).take m).flatten) 0 (z.flatten ++ ex).toArray w c2 (by simp only [List.size_toArray]; simpa using hfitc) hnone
          have hadd : (⟨b, 0 * te.size, none⟩ : Addr).add (n * te.size) = ⟨b, n * te.size, none⟩ := addr_add0 b te.size _
          have hcells : ((z.flatten ++ ex).take (n * te.size + 0) ++ (((z2.drop 0).take m).flatten) ++ (z.flatten ++ ex).drop (n * te.size + 0 + (((z2.drop 0).take m).flatten).length)) =
              (z.take n ++ (z2.drop 0).take m).flatten ++ (z.flatten ++ ex).drop (n * te.size + m * te.size) := by
            rw [Nat.add_zero, hnews, List.flatten_append, flatten_take (s := te.size) _ _ zw, List.take_append_of_le_length (by rw [flatten_len (s := te.size) _ zw]; exact Nat.mul_le_mul_right _ (by omega))]
          rw [hcells] at hsc
          let ρ' : Rho := ⟨fun j => if j = kn then some (b, tt) else ρ.key j, ρ.imm, ρ.glob⟩
          have hle : ρ.Le ρ' := ⟨fun j q hq => by
            show (if j = kn then _ else _) = _
            by_cases hj : j = kn
            · subst hj; rw [hfresh] at hq; cases hq
            · rw [if_neg hj]; exact hq, fun b o hb => hb⟩
          refine ⟨.slice (some ⟨b, 0 * te.size, none⟩) (n + m) cap, w.setRow b ((z.take n ++ (z2.drop 0).take m).flatten ++ (z.flatten ++ ex).drop (n * te.size + m * te.size)).toArray, ρ', hcall _ _ ?_, ?_⟩
          · simp only [Builtin.append_, hts, e4, List.getElem?_toArray, List.getElem?_cons_zero, List.getElem?_cons_succ, Sem.run_bind, run_underlying hu, run_underlying hu2, Result.andThen_ok, he.sizeOf, Sem.run_pure, Bool.false_eq_true, if_false, hlen2, hge, if_true, Bool.not_false, hr2, hadd, hsc]
          · refine ⟨hle, slc_has (.inl ⟨b, tt, cap, ?_, hge, e3, rfl⟩), ?_, ⟨rfl, rfl, rfl, by simp [World.setRow], ?_⟩, ?_, ?_, ?_, ?_, fun b o hb => .inl hb⟩
            · show (if kn = kn then _ else _) = _
              rw [if_pos rfl]
            · intro j hj
              show (if j = kn then _ else _) = _
              rw [if_neg]
              rintro rfl
              exact hj _ (List.mem_cons_self ..)
            · intro q hq hnq
              refine heap_setRow_other fun hqb => hnq ⟨k, _, tt, List.mem_cons_self .., ?_⟩
              rw [hqb]; exact e1
            · intro j bj hj
              rcases hj with hj | hj
              · simp only [List.mem_singleton, Prod.mk.injEq] at hj
                obtain ⟨rfl, rfl⟩ := hj
                exact .inl rfl
              · simp only [List.mem_singleton, Prod.mk.injEq] at hj
                obtain ⟨rfl, rfl⟩ := hj
                refine .inr (.inl ⟨b, tt, _, (z.flatten ++ ex).drop (n * te.size + m * te.size), ?_, by rw [Data.obj_cells hrows.notLoop]; exact heap_setRow_same c2, hrows.data.mono hle, ?_, ?_⟩)
                · show (if j = j then _ else _) = _
                  rw [if_pos rfl]
                · have h1 : ((z.take n ++ (z2.drop 0).take m).flatten).length = (n + m) * te.size := by
                    rw [flatten_len (s := te.size) _ (fun u hu => (List.mem_append.1 hu).elim (fun h => zw u (List.mem_of_mem_take h)) (hsegw u)), List.length_append, hsegl, List.length_take]
                    congr 1
                    omega
                  rw [List.length_append, h1, List.length_drop, c3, Nat.add_mul]
                  rw [hnews, c3] at hfitc
                  omega
                · intro u hu
                  have := List.mem_of_mem_drop hu
                  rcases List.mem_append.1 this with h | h
                  · obtain ⟨q, hq, hu'⟩ := List.mem_flatten.1 h
                    exact hz.one' q hq u hu'
                  · exact c4 u h
            · intro j c c' h1 h2 h3 h4
              simp only [List.mem_singleton, Prod.mk.injEq] at h1 h2
              rw [h2.2] at h4
              cases h4
            · intro j bj q hj hq
              simp only [List.mem_singleton, Prod.mk.injEq] at hj
              obtain ⟨rfl, rfl⟩ := hj
              have hq' : (if j = j then some (b, tt) else ρ.key j) = some q := hq
              rw [if_pos rfl] at hq'
              cases hq'
              exact .inr ⟨k, _, tt, List.mem_cons_self .., rfl, e1⟩
            · intro j bj j' bj' q q' hj hj' hne
              simp only [List.mem_singleton, Prod.mk.injEq] at hj hj'
              exact absurd (hj.1.trans hj'.1.symm) hne
      · rw [e1] at c1; cases c1
    · rcases Nat.eq_zero_or_pos m with rfl | hm0
      · -- nothing onto nothing
        have hr2 := hrun2 w (fun b _ => rfl)
        refine ⟨.slice ad 0 0, w, ρ, hcall _ _ ?_, ?_⟩
        · have hst : ∀ q : Addr, (storeCells q ([] : List Value)).run P w = .ok () w := fun q => rfl
          have hseg0 : ((z2.drop 0).take 0).flatten = [] := by simp
          rw [hseg0] at hr2
          cases ad <;> simp only [Builtin.append_, hts, e4, List.getElem?_toArray, List.getElem?_cons_zero, List.getElem?_cons_succ, Sem.run_bind, run_underlying hu, run_underlying hu2, Result.andThen_ok, he.sizeOf, Sem.run_pure, Bool.false_eq_true, if_false, hlen2, Nat.add_zero, Nat.le_refl, if_true, Bool.not_false, hr2, hst]
        · have hemp : d'.empty ∨ True := .inr trivial
          have hd0 : d'.empty := by
            unfold dapp at hd
            split at hd
            · split at hd
              · simp only [Option.some.injEq] at hd; subst hd; simp [Data.empty]
              · simp at hd
            · simp only [Option.some.injEq] at hd; subst hd; simp [Data.empty]
            · split at hd
              · simp only [Option.some.injEq] at hd; subst hd; simp [Data.empty]
              · simp at hd
            · simp at hd
          refine ⟨.refl ρ, slc_has (.inr ⟨rfl, ad, rfl⟩), fun _ _ => rfl, .refl _ _, ?_, ?_, ?_, ?_, fun b o hb => .inl hb⟩
          · intro j bj hj
            rcases hj with hj | hj
            · simp only [List.mem_singleton, Prod.mk.injEq] at hj
              obtain ⟨rfl, rfl⟩ := hj
              exact .inl rfl
            · simp only [List.mem_singleton, Prod.mk.injEq] at hj
              obtain ⟨rfl, rfl⟩ := hj
              exact .inr (.inr ⟨hfresh, hd0⟩)
          · intro j c c' h1 h2 h3 h4
            simp only [List.mem_singleton, Prod.mk.injEq] at h1 h2
            rw [h2.2] at h4
            cases h4
          · intro j bj q hj hq
            simp only [List.mem_singleton, Prod.mk.injEq] at hj
            obtain ⟨rfl, rfl⟩ := hj
            rw [hfresh] at hq; cases hq
          · intro j bj j' bj' q q' hj hj' hne
            simp only [List.mem_singleton, Prod.mk.injEq] at hj hj'
            exact absurd (hj.1.trans hj'.1.symm) hne
      · refine grow ad 0 e4 (by omega) ?_
        intro w' _
        cases ad with
        | none => simp [Builtin.firstCells]
        | some q => simp [Builtin.firstCells, loadCells, loadCellsFrom]

end Go.Proofs.YtkpfineikahgfaaGreatDoor

namespace Go.Proofs.YtkpfineikahgfaaGreatDoor
open Go.Sx
set_option linter.unusedSimpArgs false
set_option linter.unusedVariables false
set_option maxRecDepth 100000
set_option maxHeartbeats 4000000

section
variable {a b R d P F T lb : Nat}
end
end Go.Proofs.YtkpfineikahgfaaGreatDoor

namespace Go.Proofs.YtkpfineikahgfaaGreatDoor
open Go.Sx
set_option linter.unusedSimpArgs false
set_option linter.unusedVariables false
set_option maxRecDepth 100000
set_option maxHeartbeats 4000000

end Go.Proofs.YtkpfineikahgfaaGreatDoor

namespace Go.Proofs.YtkpfineikahgfaaGreatDoor
open Go.Sx
set_option linter.unusedSimpArgs false
set_option linter.unusedVariables false
set_option maxRecDepth 100000
set_option maxHeartbeats 4000000

end Go.Proofs.YtkpfineikahgfaaGreatDoor

namespace Go.Proofs.YtkpfineikahgfaaGreatDoor
open Go.Sx
set_option linter.unusedSimpArgs false
set_option linter.unusedVariables false
set_option maxRecDepth 100000
set_option maxHeartbeats 4000000

end Go.Proofs.YtkpfineikahgfaaGreatDoor

namespace Go.Proofs.YtkpfineikahgfaaGreatDoor
open Go.Sx
set_option linter.unusedSimpArgs false
set_option linter.unusedVariables false
set_option maxRecDepth 100000
set_option maxHeartbeats 4000000

end Go.Proofs.YtkpfineikahgfaaGreatDoor

namespace Go.Proofs.YtkpfineikahgfaaGreatDoor
open Go.Sx
set_option linter.unusedSimpArgs false
set_option linter.unusedVariables false
set_option maxRecDepth 100000
set_option maxHeartbeats 4000000

end Go.Proofs.YtkpfineikahgfaaGreatDoor

namespace Go.Proofs.YtkpfineikahgfaaGreatDoor
open Go.Sx
set_option linter.unusedSimpArgs false
set_option linter.unusedVariables false
set_option maxRecDepth 100000
set_option maxHeartbeats 4000000

end Go.Proofs.YtkpfineikahgfaaGreatDoor

namespace Go.Proofs.YtkpfineikahgfaaGreatDoor
open Go.Sx
set_option linter.unusedSimpArgs false
set_option linter.unusedVariables false
set_option maxRecDepth 100000
set_option maxHeartbeats 4000000

end Go.Proofs.YtkpfineikahgfaaGreatDoor

namespace Go.Proofs.YtkpfineikahgfaaGreatDoor
open Go.Sx
set_option linter.unusedSimpArgs false
set_option linter.unusedVariables false
set_option maxRecDepth 100000
set_option maxHeartbeats 4000000

abbrev m4 : List Rat := ofInts [1, 2, 3, 4]
end Go.Proofs.YtkpfineikahgfaaGreatDoor

namespace Go.Proofs.YtkpfineikahgfaaGreatDoor
open Go.Sx
set_option linter.unusedSimpArgs false
set_option linter.unusedVariables false
set_option maxRecDepth 100000
set_option maxHeartbeats 8000000

theorem OKM_mk {r c : Nat} {F : Nat → Nat → Rat} (hr : r ≤ 2048) (hc : c ≤ 2048) : OKM r c (mk r c F) := ⟨hr, hc, mk_len ..⟩
end Go.Proofs.YtkpfineikahgfaaGreatDoor

namespace Go.Proofs.YtkpfineikahgfaaGreatDoor
open Go.Sx
set_option linter.unusedSimpArgs false
set_option linter.unusedVariables false
set_option maxRecDepth 100000
set_option maxHeartbeats 8000000

theorem Sm_one (n : Nat) : Sm 10 (mone n) := Sm_mk fun i k _ _ => by unfold delta; split <;> decide +kernel

end Go.Proofs.YtkpfineikahgfaaGreatDoor

namespace Go.Proofs.YtkpfineikahgfaaGreatDoor
open Go.Sx
set_option linter.unusedSimpArgs false
set_option linter.unusedVariables false
set_option maxRecDepth 100000
set_option maxHeartbeats 8000000

end Go.Proofs.YtkpfineikahgfaaGreatDoor

namespace Go.Proofs.YtkpfineikahgfaaGreatDoor
open Go.Sx
set_option linter.unusedSimpArgs false
set_option linter.unusedVariables false
set_option maxRecDepth 100000
set_option maxHeartbeats 8000000

end Go.Proofs.YtkpfineikahgfaaGreatDoor

namespace Go.Proofs.YtkpfineikahgfaaGreatDoor
open Go.Sx
set_option linter.unusedSimpArgs false
set_option linter.unusedVariables false
set_option maxRecDepth 100000
set_option maxHeartbeats 40000000

end Go.Proofs.YtkpfineikahgfaaGreatDoor

namespace Go.Sx
set_option linter.unusedSimpArgs false
set_option linter.unusedVariables false
section
variable {P : Program} {o : Oper} {ft : List (Nat × SV)} {fk : List (Nat × Blk)}
end
end Go.Sx
namespace Go.Proofs.YtkpfineikahgfaaGreatDoor
open Go.Sx
set_option linter.unusedSimpArgs false
set_option linter.unusedVariables false
set_option maxRecDepth 100000
set_option maxHeartbeats 8000000

end Go.Proofs.YtkpfineikahgfaaGreatDoor

namespace Go.Proofs.YtkpfineikahgfaaGreatDoor
open Go.Sx
set_option linter.unusedSimpArgs false
set_option linter.unusedVariables false
set_option maxRecDepth 100000
set_option maxHeartbeats 40000000

/-- An index reduced. -/
def plF (n : Nat) (p : Int) : Int := p % (n : Int)
/-- The indices below n, and the given ones reduced. -/
def places (l : List Int) (n : Nat) (b : Bool) : List Int := (if b then (List.range n).map (fun i => ((i : Nat) : Int)) else []) ++ (if n = 0 then [] else l.map (plF n))
abbrev iblkM (l : List Int) : Blk := ⟨3, true, .ints .i64 l⟩
theorem app_int {l : List Int} {x : Int} : iblkM (l ++ [x]) = ⟨3, true, .ints .i64 (List.take l.length l ++ List.take 1 (List.drop 0 [x]))⟩ := by
  rw [iblkM, List.take_of_length_le (Nat.le_refl _)]; rfl
end Go.Proofs.YtkpfineikahgfaaGreatDoor

namespace Go.Proofs.YtkpfineikahgfaaGreatDoor
open Go.Sx
set_option linter.unusedSimpArgs false
set_option linter.unusedVariables false
set_option maxRecDepth 100000
set_option maxHeartbeats 4000000

end Go.Proofs.YtkpfineikahgfaaGreatDoor

namespace Go.Proofs.YtkpfineikahgfaaGreatDoor
open Go.Sx
set_option linter.unusedSimpArgs false
set_option linter.unusedVariables false
set_option maxRecDepth 100000
set_option maxHeartbeats 40000000

/-- The size of a sum over permutations. -/
def pS (n B : Nat) : Nat → Nat
  | 0 => 2
  | m + 1 => 2 + n * (B + pS n B m)
theorem pS_mono {n B : Nat} (hn : n ≤ 5) (hB : B ≤ 1000) : ∀ m, pS n B m ≤ pS 5 1000 m
  | 0 => Nat.le_refl _
  | m + 1 => Nat.add_le_add_left (Nat.mul_le_mul hn (Nat.add_le_add hB (pS_mono hn hB m))) 2
theorem pS_top {n B m : Nat} (hn : n ≤ 5) (hB : B ≤ 1000) (hm : m ≤ 5) : pS n B m ≤ 3912812 := by
  refine Nat.le_trans (pS_mono hn hB m) ?_
  obtain rfl | rfl | rfl | rfl | rfl | rfl : m = 0 ∨ m = 1 ∨ m = 2 ∨ m = 3 ∨ m = 4 ∨ m = 5 := by omega
  all_goals decide
theorem fs_sg (t : Nat) (x : Rat) : fs (sg t * x) = fs x := by
  induction t with
  | zero => rw [sg]; congr 1; grind
  | succ t ih => rw [sg, show -sg t * x = -(sg t * x) by grind, fs_neg, ih]
theorem term_fs {n B S i : Nat} {a : List Rat} (ha : a.length = n * n) (sa : Sm B a) (hi : i < n) (k : Nat) (l : List Nat) (hk : k < n) {D : Rat} (hD : fs D ≤ S) : fs (if k ∈ l then 0 else sg (turns l k) * el a n i k * D) ≤ B + S := by
  split
  · rw [fs_zero]
    have := fs_two D
    omega
  · have h1 := el_sm sa ha hi hk
    have h3 := fs_mul (el a n i k) D
    rw [Rat.mul_assoc, fs_sg]; omega
theorem picks_fs {n B : Nat} {a : List Rat} (ha : a.length = n * n) (sa : Sm B a) : ∀ (m i : Nat) (l : List Nat), i + m = n → fs (picksR n (el a n) m i l) ≤ pS n B m
  | 0, _, _, _ => Nat.le_of_eq fs_one
  | m + 1, i, l, h => by
    rw [picksR, pS]
    exact sum_fs (B := B + pS n B m) n fun k hk => term_fs ha sa (by omega) k l hk (picks_fs ha sa m (i + 1) (l ++ [k]) (by omega))
end Go.Proofs.YtkpfineikahgfaaGreatDoor

namespace Go.Proofs.YtkpfineikahgfaaGreatDoor
open Go.Sx
set_option linter.unusedSimpArgs false
set_option linter.unusedVariables false
set_option maxRecDepth 100000
set_option maxHeartbeats 4000000
variable {M : Nat}

theorem c_fFrom (ok : NatOK M) (n : Int) (d : Nat) (h1 : sz n.natAbs ≤ M) (h2 : sz d ≤ M) (hd : d ≠ 0) : CallOK Tryz.prog 113 [.int n, .nat d] [] (.tup [.frac (mkRat n d), .val (.int .i64 0)]) [] [] := by
  have k1 := c_lowest ok n d h1 h2 hd
  refine callV (Z := []) tabOK mixedOK Tryz.func113 rfl (by kernel_rfl) rfl rfl (by kernel_rfl) rfl ?_
  intro W0 w0 ρ0 hE
  conv => whnf
  skip
  refine ⟨_, op_eqAgg tabOK goodOK rfl (ev_ok rfl) (ev_ok rfl) rfl rfl rfl rfl (eqTy_nat d 0) guard_nat, ?_⟩
  rw [decide_eq_false hd]
  conv => whnf
  (repeat (first | (refine step_w2 rfl rfl ?_; conv => whnf) | (refine g_c (by assumption) ?_; conv => whnf))); exact Recast.refl _
/-- Few words. -/
structure Words (M : Nat) (xs : List Int) : Prop where
  w32 : W32 xs
  len : xs.length < 1099511627776
  fit : 32 * xs.length + 33 ≤ M

end Go.Proofs.YtkpfineikahgfaaGreatDoor

namespace Go.Proofs.YtkpfineikahgfaaGreatDoor
open Go.Sx
set_option linter.unusedSimpArgs false
set_option linter.unusedVariables false
set_option maxRecDepth 100000
set_option maxHeartbeats 4000000

/-- An integer's size. -/
def zs (z : Int) : Nat := sz z.natAbs + 1
theorem zs_add (a b : Int) : zs (a + b) ≤ zs a + zs b := by
  have := sz_add (a := a.natAbs) (b := b.natAbs) (k := max (sz a.natAbs) (sz b.natAbs)) (by omega) (by omega)
  have := sz_mono (Int.natAbs_add_le a b)
  unfold zs; omega
theorem zs_neg (a : Int) : zs (-a) = zs a := by unfold zs; rw [Int.natAbs_neg]
theorem zs_sub (a b : Int) : zs (a - b) ≤ zs a + zs b := by rw [Int.sub_eq_add_neg, ← zs_neg b]; exact zs_add _ _
theorem zs_mul (a b : Int) : zs (a * b) ≤ zs a + zs b := by
  have := sz_mul a.natAbs b.natAbs
  unfold zs; rw [Int.natAbs_mul]; omega
theorem zs_div (a b : Int) : zs (a / b) ≤ zs a := by
  have := sz_mono (Int.natAbs_ediv_le_natAbs a b)
  unfold zs; omega
theorem zs_zero : zs 0 = 1 := rfl
theorem zs_1 : zs 1 = 2 := by decide +kernel
theorem zs_i64 {n : Int} (h0 : -9223372036854775808 ≤ n) (h1 : n < 9223372036854775808) : zs n ≤ 65 := by
  have := sz_i64 h0 h1; unfold zs; omega
theorem zs_abs (z : Int) : zs (z.natAbs : Int) = zs z := by unfold zs; rw [Int.natAbs_natCast]
theorem fs_zs (z : Int) : fs (z : Rat) ≤ zs z + 1 := by
  have := fsz_int (n := z) (k := sz z.natAbs + 1) (by omega) (by omega)
  unfold fs zs; omega
theorem zz_Add (a b : Int) (h : zs a + zs b ≤ 1073741824) : CallOK Tryz.prog 37 [.int a, .int b] [] (.int (a + b)) [] [] := c_iAdd natBig a b (by unfold zs at h; omega) (by unfold zs at h; omega)
theorem zz_Sub (a b : Int) (h : zs a + zs b ≤ 1073741824) : CallOK Tryz.prog 179 [.int a, .int b] [] (.int (a - b)) [] [] := c_iSub natBig a b (by unfold zs at h; omega) (by unfold zs at h; omega)
theorem zz_Mul (a b : Int) (h : zs a + zs b ≤ 1073741824) : CallOK Tryz.prog 40 [.int a, .int b] [] (.int (a * b)) [] [] := c_iMul natBig a b (by unfold zs at h; omega)
/-- The third result tells whether there is one. -/
theorem zz_Div (a b : Int) (h : zs a + zs b ≤ 1073741824) : ∃ r ok, CallOK Tryz.prog 191 [.int a, .int b] [] (.tup [.int (a / b), .int r, .val (.bool ok)]) [] [] := by
  by_cases h0 : b = 0
  · subst h0; rw [Int.ediv_zero]; exact ⟨_, _, c_iDivZ natBig a⟩
  · exact ⟨_, _, c_iDiv natBig a b (by unfold zs at h; omega) (by unfold zs at h; omega) h0⟩

abbrev zvec (l : List Int) : SV := mvec 3 .int l
abbrev wA (r c : Int) (a : List Int) : SV := .agg [iv r, iv c, zvec a]
abbrev wC (r c : Int) (a : List Int) : List SV := [iv r, iv c, zvec a]
def mkz (r c : Nat) (f : Mz) : List Int := (List.range (r * c)).map fun p => f (p / c) (p % c)
abbrev elz (a : List Int) (c i k : Nat) : Int := a.getD (i * c + k) 0
theorem mkz_len (r c : Nat) (f : Mz) : (mkz r c f).length = r * c := by simp [mkz]
theorem mkz_at {r c : Nat} {f : Mz} {p : Nat} (hp : p < r * c) : (mkz r c f).getD p 0 = f (p / c) (p % c) := by
  simp [mkz, List.getD_eq_getElem?_getD, hp]
theorem mkz_el {r c i k : Nat} {f : Mz} (hi : i < r) (hk : k < c) : elz (mkz r c f) c i k = f i k := by
  rw [elz, mkz_at (idx_lt hi hk), idx_div hk, idx_mod hk]
theorem zec_ext {a b : List Int} {n : Nat} (ha : a.length = n) (hb : b.length = n) (h : ∀ p, p < n → a.getD p 0 = b.getD p 0) : a = b := by
  refine List.ext_getElem (by omega) fun p h1 h2 => ?_
  have := h p (by omega)
  rwa [List.getD_eq_getElem?_getD, List.getD_eq_getElem?_getD, List.getElem?_eq_getElem h1, List.getElem?_eq_getElem h2] at this
theorem maz_ext {a b : List Int} {r c : Nat} (ha : a.length = r * c) (hb : b.length = r * c) (h : ∀ i k, i < r → k < c → elz a c i k = elz b c i k) : a = b := by
  refine zec_ext ha hb fun p hp => ?_
  obtain ⟨h1, h2, h3⟩ := idx_split hp
  have := h _ _ h1 h2
  rwa [elz, elz, h3] at this
theorem mkz_ext {a : List Int} {r c : Nat} {f : Mz} (ha : a.length = r * c) (h : ∀ i k, i < r → k < c → f i k = elz a c i k) : mkz r c f = a :=
  maz_ext (mkz_len ..) ha fun i k hi hk => by rw [mkz_el hi hk, h i k hi hk]
theorem mkz_congr {r c : Nat} {f g : Mz} (h : ∀ i k, i < r → k < c → f i k = g i k) : mkz r c f = mkz r c g :=
  mkz_ext (mkz_len ..) fun i k hi hk => by rw [mkz_el hi hk, h i k hi hk]
theorem mkz_self {a : List Int} {r c : Nat} (ha : a.length = r * c) : mkz r c (elz a c) = a := mkz_ext ha fun _ _ _ _ => rfl
/-- All elements are of a size. -/
def Zm (B : Nat) (l : List Int) : Prop := ∀ p, p < l.length → zs (l.getD p 0) ≤ B
theorem Zm_mk {r c B : Nat} {f : Mz} (h : ∀ i k, i < r → k < c → zs (f i k) ≤ B) : Zm B (mkz r c f) := by
  intro p hp
  rw [mkz_len] at hp
  obtain ⟨h1, h2, _⟩ := idx_split hp
  rw [mkz_at hp]; exact h _ _ h1 h2
theorem elz_zm {a : List Int} {r c B i k : Nat} (h : Zm B a) (ha : a.length = r * c) (hi : i < r) (hk : k < c) : zs (elz a c i k) ≤ B := h _ (by rw [ha]; exact idx_lt hi hk)
theorem Zm.mono {B C : Nat} {a : List Int} (h : Zm B a) (hBC : B ≤ C) : Zm C a := fun p hp => Nat.le_trans (h p hp) hBC
/-- A matrix of integers that fits. -/
structure OKZ (R C : Nat) (a : List Int) : Prop where
  r : R ≤ 2048
  c : C ≤ 2048
  n : a.length = R * C
theorem OKZ.mk' {r c : Nat} (hr : r ≤ 2048) (hc : c ≤ 2048) (f : Mz) : OKZ r c (mkz r c f) := ⟨hr, hc, mkz_len ..⟩

theorem b_frac (n : Int) (h : zs n ≤ 536870912) : CallOK Tryz.prog 126 [.int n] [] (.frac n) [] [] := by
  have k1 := c_nOf 1 (by decide)
  have k2 := c_fFrom natBig n 1 (by unfold zs at h; omega) (by rw [sz_one]; decide) (by decide)
  rw [Rat.mkRat_one] at k2
  refine callV (Z := []) tabOK mixedOK Tryz.func126 rfl (by kernel_rfl) rfl rfl (by kernel_rfl) rfl ?_
  intro W0 w0 ρ0 hE
  conv => whnf
  (repeat (first | (refine step_i (by kernel_rfl) ?_; conv => whnf) | (refine g_c (by assumption) ?_; conv => whnf))); (first | exact Recast.refl _ | exact Frz.recast (Recast.refl _) rfl | (refine Frz.one rfl rfl ?_; skip) | (refine Frz.tup ?_; skip))

abbrev zB3 (xs : List Int) : Blk := ⟨36, true, .seq 3 (xs.map .int)⟩
/-- A slice that is being filled. -/
abbrev zfil (l : List Int) (n i : Nat) : Blk := ⟨36, true, .seq 3 ((l.map SV.int).take i ++ List.replicate (n - i) (SV.int 0))⟩
theorem zfil_all {l : List Int} {n : Nat} (h : l.length = n) : zfil l n n = zB3 l := by
  rw [zfil, fill_all (by rw [List.length_map, h])]
theorem map_getD {α β : Type} {f : α → β} {l : List α} {i : Nat} {d : α} {e : β} (h : i < l.length) : (l.map f).getD i e = f (l.getD i d) := by
  simp [List.getD_eq_getElem?_getD, List.getElem?_eq_getElem h]
theorem zfil_set {l : List Int} {n i : Nat} (hi : i < n) (hn : l.length = n) : ((l.map SV.int).take i ++ List.replicate (n - i) (SV.int 0)).set i (.int (l.getD i 0)) = (l.map SV.int).take (i + 1) ++ List.replicate (n - (i + 1)) (SV.int 0) := by
  rw [← fill_set (e := SV.int 0) hi (by rw [List.length_map, hn]), map_getD (d := 0) (by omega)]
theorem zfil_len {l : List Int} {n i : Nat} (hi : i ≤ n) (hn : l.length = n) : ((l.map SV.int).take i ++ List.replicate (n - i) (SV.int 0)).length = n := fill_len hi (by rw [List.length_map, hn])

theorem zfil_get {l : List Int} {n i : Nat} (hi : i < n) (hn : l.length = n) : ((l.map SV.int).take i ++ List.replicate (n - i) (SV.int 0)).getD i SV.any = .int 0 := fill_get hi (by rw [List.length_map, hn])
theorem b_overF (l : List Int) (hl : l.length < 1099511627776) (h : ∀ i, i < l.length → zs (l.getD i 0) ≤ 536870912) : CallOK Tryz.prog 207 [zvec l, .clo 126 [] []] [] (fvec (ofInts l)) [] [] := by
  refine callF (Z := []) tabOK mixedOK Tryz.func207 rfl (by kernel_rfl) (by first | rfl | (simp [keylessL, keyless, keylessL_map, *]; done)) (by first | rfl | (simp [keylessL, keyless, keylessL_map, *]; done)) (by kernel_rfl) rfl ?_
  intro w0 ρ0 hE
  conv => whnf
  (repeat (first | (refine step_oA (by first | omega | decide | (simp only [tl0, dlen, List.length_replicate, List.length_set, List.length_map, List.length_zipWith, List.length_take, List.length_append, List.length_cons, List.length_nil]; omega)) ?_; conv => whnf) | (refine g_o (op_lenM rfl rfl rfl (ev_ok rfl) (tgt rfl) rfl) ?_; conv => whnf) | (rw [Int.toNat_natCast]; conv => whnf)))
  have hz : (ofInts l).length = l.length := by simp [ofInts]
  refine SW_loopN hE (fun k => k) [1, 4, 5, 11, 12, 13] [10] (fun m fr hp => ∃ i, m = l.length - i ∧ i ≤ l.length ∧ fr = [(1, .clo 126 [] []), (4, .val (.slice none 0 0)), (5, .slc 10 5 0 l.length), (11, zvec l), (12, iv (l.length : Nat)), (13, iv (i : Nat))] ∧
    hp = [(10, ⟨38, true, .fracs ((ofInts l).take i ++ List.replicate (l.length - i) 0)⟩)]) l.length ?_ ?_ ?_
  · kernel_rfl
  · exact ⟨0, rfl, Nat.zero_le _, rfl, rfl⟩
  rintro m _ _ ⟨i, rfl, hi, rfl, rfl⟩
  conv => whnf
  have hlen := fill_len (d := (0 : Rat)) hi hz
  by_cases hlt : i < l.length
  · have t1 := dlt hlt
    have t2 := winc (i := i) (by omega)
    have k1 := b_frac (l.getD i 0) (h i hlt)
    rw [← map_get (f := fun (n : Int) => ((n : Int) : Rat)) (e := 0) hlt] at k1
    (repeat ((first | refine step_w1 rfl rfl ?_ | refine step_oL (by first | omega | decide | (simp only [tl0, dlen, List.length_replicate, List.length_set, List.length_map, List.length_zipWith, List.length_take, List.length_append, List.length_cons, List.length_nil]; omega)) ?_ | refine step_oA (by first | omega | decide | (simp only [tl0, dlen, List.length_replicate, List.length_set, List.length_map, List.length_zipWith, List.length_take, List.length_append, List.length_cons, List.length_nil]; omega)) ?_ | refine g_c (by assumption) ?_ | refine g_o (op_loadA rfl (ev_ok rfl) (tgt rfl) rfl (Nat.succ_ne_zero _) rfl) ?_ | refine g_o (op_indexN (α := Int) (d := 0) rfl (ev_ok rfl) (ev_ok rfl) (tgt rfl) rfl (tgt rfl) rfl (by omega)) ?_ | rw [t1] | rw [t2] | rw [Int.toNat_natCast] | rw [Nat.zero_add]); conv => whnf))
    refine ⟨l.length - (i + 1), fun k => k, [1, 4, 5, 11, 12, 13], [10], by omega, by kernel_rfl, i + 1, rfl, hlt, rfl, ?_⟩
    rw [← fill_set (e := 0) hlt hz]
    rfl
  · have t1 := dge hlt
    have hI : i = l.length := by omega
    subst hI
    rw [fill_all hz]
    (repeat (first | (refine step_w2 rfl rfl ?_; conv => whnf) | (rw [t1]; conv => whnf))); (first | exact Recast.refl _ | exact Frz.recast (Recast.refl _) rfl | (refine Frz.one rfl rfl ?_; (repeat (first | (refine FrzC.fracs rfl ?_; (first | rfl | omega | (simp <;> fail) | (simp <;> omega)))))) | (refine Frz.tup ?_; skip))
theorem b_mat (r c : Int) (l : List Int) (hl : l.length < 1099511627776) (h : ∀ i, i < l.length → zs (l.getD i 0) ≤ 536870912) : CallOK Tryz.prog 124 [wA r c l] [] (mA r c (ofInts l)) [] [] := by
  have k1 := b_overF l hl h
  refine callV (Z := []) tabOK mixedOK Tryz.func124 rfl (by kernel_rfl) rfl rfl (by kernel_rfl) rfl ?_
  intro W0 w0 ρ0 hE
  conv => whnf
  (repeat (first | (refine step_i (by kernel_rfl) ?_; conv => whnf) | (refine g_c (by assumption) ?_; conv => whnf))); (first | exact Recast.refl _ | exact Frz.recast (Recast.refl _) rfl | (refine Frz.one rfl rfl ?_; skip) | (refine Frz.tup ?_; skip))
theorem b_Check (r c : Int) (l : List Int) (hl : l.length < 1099511627776) (h : ∀ i, i < l.length → zs (l.getD i 0) ≤ 536870912) : CallOK Tryz.prog 44 [wA r c l] [] (iv (checkF r c l.length)) [] [] := by
  have k1 := b_mat r c l hl h
  have k2 := m_Check r c (ofInts l) (by simp [ofInts]; exact hl)
  rw [show (ofInts l).length = l.length from by simp [ofInts]] at k2
  refine callV (Z := []) tabOK mixedOK Tryz.func44 rfl (by kernel_rfl) rfl rfl (by kernel_rfl) rfl ?_
  intro W0 w0 ρ0 hE
  conv => whnf
  (repeat (first | (refine g_c (by assumption) ?_; conv => whnf))); (first | exact Recast.refl _ | exact Frz.recast (Recast.refl _) rfl | (refine Frz.one rfl rfl ?_; skip) | (refine Frz.tup ?_; skip))
theorem b_Frac (r c : Int) (l : List Int) (hl : l.length < 1099511627776) (h : ∀ i, i < l.length → zs (l.getD i 0) ≤ 536870912) : CallOK Tryz.prog 45 [wA r c l] [] (if checkF r c l.length = 0 then .tup [mA r c (ofInts l), iv 0] else .tup [mA 0 0 [], iv (checkF r c l.length)]) [] [] := by
  have k1 := b_Check r c l hl h
  have k2 := b_mat r c l hl h
  by_cases hc : checkF r c l.length = 0
  · rw [if_pos hc]
    rw [hc] at k1
    refine callV (Z := []) tabOK mixedOK Tryz.func45 rfl (by kernel_rfl) rfl rfl (by kernel_rfl) rfl ?_
    intro W0 w0 ρ0 hE
    conv => whnf
    (repeat (first | (refine step_w2 rfl rfl ?_; conv => whnf) | (refine g_c (by assumption) ?_; conv => whnf))); (first | exact Recast.refl _ | exact Frz.recast (Recast.refl _) rfl | (refine Frz.one rfl rfl ?_; skip) | (refine Frz.tup ?_; skip))
  · rw [if_neg hc]
    have t1 : (checkF r c l.length != 0) = true := bne_iff_ne.2 hc
    refine callF (Z := []) tabOK mixedOK Tryz.func45 rfl (by kernel_rfl) (by first | rfl | (simp [keylessL, keyless, keylessL_map, *]; done)) (by first | rfl | (simp [keylessL, keyless, keylessL_map, *]; done)) (by kernel_rfl) rfl ?_
    intro w0 ρ0 hE
    conv => whnf
    (repeat (first | (refine step_w1 rfl rfl ?_; conv => whnf) | (refine g_c (by assumption) ?_; conv => whnf) | (rw [t1]; conv => whnf))); (first | exact Recast.refl _ | exact Frz.recast (Recast.refl _) rfl | (refine Frz.one rfl rfl ?_; skip) | (refine Frz.tup ?_; (repeat (first | exact FrzC.keyless rfl | exact FrzL.nil | refine FrzL.cons ?_ ?_ | exact FrzC.nilS | refine FrzC.agg ?_))))
theorem b_square (r c : Int) (l : List Int) (hl : l.length < 1099511627776) (h : ∀ i, i < l.length → zs (l.getD i 0) ≤ 536870912) : CallOK Tryz.prog 100 [wA r c l] [] (iv (if checkF r c l.length = 0 then (if r = c then 0 else 1) else checkF r c l.length)) [] [] := by
  have k1 := b_Check r c l hl h
  by_cases hc : checkF r c l.length = 0
  · rw [if_pos hc]
    rw [hc] at k1
    by_cases hrc : r = c
    · have t2 : (r != c) = false := by rw [hrc]; exact bne_self_eq_false _
      rw [if_pos hrc]
      refine callV (Z := []) tabOK mixedOK Tryz.func100 rfl (by kernel_rfl) rfl rfl (by kernel_rfl) rfl ?_
      intro W0 w0 ρ0 hE
      conv => whnf
      (repeat ((first | refine step_w2 rfl rfl ?_ | refine g_c (by assumption) ?_ | rw [bne_self_eq_false] | rw [t2]); conv => whnf)); (first | exact Recast.refl _ | exact Frz.recast (Recast.refl _) rfl | (refine Frz.one rfl rfl ?_; skip) | (refine Frz.tup ?_; skip))
    · have t2 : (r != c) = true := bne_iff_ne.2 hrc
      rw [if_neg hrc]
      refine callV (Z := []) tabOK mixedOK Tryz.func100 rfl (by kernel_rfl) rfl rfl (by kernel_rfl) rfl ?_
      intro W0 w0 ρ0 hE
      conv => whnf
      (repeat ((first | refine step_w1 rfl rfl ?_ | refine step_w2 rfl rfl ?_ | refine g_c (by assumption) ?_ | rw [bne_self_eq_false] | rw [t2]); conv => whnf)); (first | exact Recast.refl _ | exact Frz.recast (Recast.refl _) rfl | (refine Frz.one rfl rfl ?_; skip) | (refine Frz.tup ?_; skip))
  · rw [if_neg hc]
    have t1 : (checkF r c l.length != 0) = true := bne_iff_ne.2 hc
    refine callV (Z := []) tabOK mixedOK Tryz.func100 rfl (by kernel_rfl) rfl rfl (by kernel_rfl) rfl ?_
    intro W0 w0 ρ0 hE
    conv => whnf
    (repeat (first | (refine step_w1 rfl rfl ?_; conv => whnf) | (refine g_c (by assumption) ?_; conv => whnf) | (rw [t1]; conv => whnf))); (first | exact Recast.refl _ | exact Frz.recast (Recast.refl _) rfl | (refine Frz.one rfl rfl ?_; skip) | (refine Frz.tup ?_; skip))
end Go.Proofs.YtkpfineikahgfaaGreatDoor

namespace Go.Proofs.YtkpfineikahgfaaGreatDoor
open Go.Sx
set_option linter.unusedSimpArgs false
set_option linter.unusedVariables false
set_option maxRecDepth 100000
set_option maxHeartbeats 4000000

theorem b_at {r c : Nat} {a : List Int} (h : OKZ r c a) {i k : Nat} (hi : i < r) (hk : k < c) : CallOK Tryz.prog 93 [wA r c a, iv i, iv k] [] (.int (elz a c i k)) [] [] := by
  obtain ⟨t1, t2⟩ := idx_w (i := i) (k := k) (c := c) (by have := h.r; omega) h.c (by have := h.c; omega)
  have hlt := idx_lt hi hk
  rw [← h.n] at hlt
  refine callV (Z := []) tabOK mixedOK Tryz.func93 rfl (by kernel_rfl) rfl rfl (by kernel_rfl) rfl ?_
  intro W0 w0 ρ0 hE
  conv => whnf
  (repeat ((first | refine g_o (op_loadA rfl (ev_ok rfl) (tgt rfl) rfl (Nat.succ_ne_zero _) rfl) ?_ | refine g_o (op_indexM (α := Int) (d := 0) rfl (ev_ok rfl) (ev_ok rfl) (tgt rfl) rfl (tgt rfl) rfl (by omega)) ?_ | rw [t1] | rw [t2] | rw [Int.toNat_natCast]); conv => whnf)); (first | exact Recast.refl _ | exact Frz.recast (Recast.refl _) rfl | (refine Frz.one rfl rfl ?_; skip) | (refine Frz.tup ?_; skip))

abbrev zW : Blk := ⟨55, true, .one [iv 0, iv 0, .val (.slice none 0 0)]⟩
abbrev bW (r c K : Nat) : Blk := ⟨55, true, .one [iv r, iv c, .slc K 3 0 (r * c)]⟩
theorem b_madeF {r c : Nat} (hr : r ≤ 2048) (hc : c ≤ 2048) (F : Mz) (g : FuncId) (R C : Int) (l : List Int)
    (hf : ∀ i k, i < r → k < c → CallOK Tryz.prog g ([wA R C l] ++ ([iv (i : Nat), iv (k : Nat)] ++ [])) [] (.int (F i k)) [] []) :
    CallOK Tryz.prog 94 [iv r, iv c, .clo g [wA R C l] []] [] (wA r c (mkz r c F)) [] [] := by
  have hz : (mkz r c F).length = r * c := mkz_len ..
  have hrc : r * c ≤ 2048 * 2048 := Nat.mul_le_mul hr hc
  have t1 : IntKind.i64.wrap ((r : Int) * (c : Int)) = ((r * c : Nat) : Int) := by rw [← Int.natCast_mul, wrap_i64 (by omega) (by omega)]
  refine callF (Z := []) tabOK mixedOK Tryz.func94 rfl (by kernel_rfl) (by first | rfl | (simp [keylessL, keyless, keylessL_map, *]; done)) (by first | rfl | (simp [keylessL, keyless, keylessL_map, *]; done)) (by kernel_rfl) rfl ?_
  intro w0 ρ0 hE
  conv => whnf
  (repeat (first | (refine step_oA (by first | omega | decide | (simp only [tl0, dlen, List.length_replicate, List.length_set, List.length_map, List.length_zipWith, List.length_take, List.length_append, List.length_cons, List.length_nil]; omega)) ?_; conv => whnf) | (rw [t1]; conv => whnf) | (rw [Int.toNat_natCast]; conv => whnf)))
  refine SW_loopN hE (fun k => k) [0, 1, 2, 6, 7, 17, 18] [6, 7, 15] (fun m fr hp => ∃ i : Nat, m = r - i ∧ i ≤ r ∧ fr = [(0, iv r), (1, iv c), (2, .clo g [wA R C l] []), (6, .ptr 6 0 0 0), (7, .ptr 7 0 0 0), (17, iv r), (18, iv (i : Nat))] ∧
    hp = [(6, zW), (7, bW r c 15), (15, zfil (mkz r c F) (r * c) (i * c))]) r ?_ ?_ ?_
  · kernel_rfl
  · exact ⟨0, rfl, Nat.zero_le _, rfl, by rw [Nat.zero_mul, zfil, List.take_zero]; rfl⟩
  rintro m _ _ ⟨i, rfl, hi, rfl, rfl⟩
  conv => whnf
  by_cases hlt : i < r
  · have t2 := dlt hlt
    have t3 := winc (i := i) (by omega)
    have hic : (i + 1) * c ≤ r * c := Nat.mul_le_mul_right c hlt
    rw [Nat.succ_mul] at hic
    (repeat (first | (refine step_w1 rfl rfl ?_; conv => whnf) | (rw [t2]; conv => whnf)))
    refine SW_loopN hE (fun k => k) [0, 1, 2, 6, 7, 8, 17, 18, 21, 22] [6, 7, 15] (fun m fr hp => ∃ k : Nat, m = c - k ∧ k ≤ c ∧ fr = [(0, iv r), (1, iv c), (2, .clo g [wA R C l] []), (6, .ptr 6 0 0 0), (7, .ptr 7 0 0 0), (8, iv (i : Nat)), (17, iv r), (18, iv (i : Nat)), (21, iv c), (22, iv (k : Nat))] ∧
      hp = [(6, zW), (7, bW r c 15), (15, zfil (mkz r c F) (r * c) (i * c + k))]) c ?_ ?_ ?_
    · kernel_rfl
    · exact ⟨0, rfl, Nat.zero_le _, rfl, rfl⟩
    rintro m _ _ ⟨k, rfl, hk, rfl, rfl⟩
    conv => whnf
    by_cases hlk : k < c
    · have t4 := dlt hlk
      have t5 := winc (i := k) (by omega)
      obtain ⟨w1, w2⟩ := idx_w (i := i) (k := k) (c := c) (by omega) (by omega) (by omega)
      have hlen := zfil_len (l := mkz r c F) (show i * c + k ≤ r * c by omega) hz
      have t6 := zfil_get (l := mkz r c F) (show i * c + k < r * c by omega) hz
      have o2 := hf i k hlt hlk
      rw [← mkz_el (f := F) hlt hlk] at o2
      (repeat ((first | refine step_w1 rfl rfl ?_ | refine step_i (by kernel_rfl) ?_ | refine step_oL (by first | omega | decide | (simp only [tl0, dlen, List.length_replicate, List.length_set, List.length_map, List.length_zipWith, List.length_take, List.length_append, List.length_cons, List.length_nil]; omega)) ?_ | refine step_oA (by first | omega | decide | (simp only [tl0, dlen, List.length_replicate, List.length_set, List.length_map, List.length_zipWith, List.length_take, List.length_append, List.length_cons, List.length_nil]; omega)) ?_ | refine g_c (by assumption) ?_ | rw [t4] | rw [t5] | rw [w1] | rw [w2] | rw [t6] | rw [Int.toNat_natCast] | rw [Nat.zero_add]); conv => whnf))
      refine ⟨c - (k + 1), fun k => k, [0, 1, 2, 6, 7, 8, 17, 18, 21, 22], [6, 7, 15], by omega, by kernel_rfl, k + 1, rfl, hlk, rfl, ?_⟩
      rw [show i * c + (k + 1) = i * c + k + 1 from rfl, zfil, ← zfil_set (show i * c + k < r * c by omega) hz]
      rfl
    · have t4 := dge hlk
      obtain rfl : k = c := by omega
      (repeat (first | (refine step_w2 rfl rfl ?_; conv => whnf) | (rw [t4]; conv => whnf) | (rw [t3]; conv => whnf)))
      refine ⟨r - (i + 1), fun k => k, [0, 1, 2, 6, 7, 17, 18], [6, 7, 15], by omega, by kernel_rfl, i + 1, rfl, hlt, rfl, ?_⟩
      rw [Nat.succ_mul]
      rfl
  · have t2 := dge hlt
    obtain rfl : i = r := by omega
    rw [zfil_all hz]
    (repeat (first | (refine step_w2 rfl rfl ?_; conv => whnf) | (rw [t2]; conv => whnf)))
    (first | exact Recast.refl _ | exact Frz.recast (Recast.refl _) rfl | (refine Frz.one rfl rfl ?_; (repeat (first | exact FrzC.keyless rfl | exact FrzL.nil | refine FrzL.cons ?_ ?_ | refine FrzC.agg ?_ | (refine FrzC.seq rfl (by first | rfl | (apply keylessL_map; intro _; rfl)) ?_; (first | rfl | omega | (simp <;> fail) | (simp <;> omega)))))) | (refine Frz.tup ?_; skip))
theorem b_made1 {r c : Nat} (hr : r ≤ 2048) (hc : c ≤ 2048) (F : Mz) (g : FuncId) (p : Pred)
    (hf : ∀ i k, i < r → k < c → CallOK Tryz.prog g ([] ++ ([iv (i : Nat), iv (k : Nat)] ++ [.atom p])) [] (.int (F i k)) [] []) :
    CallOK Tryz.prog 94 [iv r, iv c, .clo g [] [.atom p]] [] (wA r c (mkz r c F)) [] [] := by
  have hz : (mkz r c F).length = r * c := mkz_len ..
  have hrc : r * c ≤ 2048 * 2048 := Nat.mul_le_mul hr hc
  have t1 : IntKind.i64.wrap ((r : Int) * (c : Int)) = ((r * c : Nat) : Int) := by rw [← Int.natCast_mul, wrap_i64 (by omega) (by omega)]
  refine callF (Z := []) tabOK mixedOK Tryz.func94 rfl (by kernel_rfl) (by first | rfl | (simp [keylessL, keyless, keylessL_map, *]; done)) (by first | rfl | (simp [keylessL, keyless, keylessL_map, *]; done)) (by kernel_rfl) rfl ?_
  intro w0 ρ0 hE
  conv => whnf
  (repeat (first | (refine step_oA (by first | omega | decide | (simp only [tl0, dlen, List.length_replicate, List.length_set, List.length_map, List.length_zipWith, List.length_take, List.length_append, List.length_cons, List.length_nil]; omega)) ?_; conv => whnf) | (rw [t1]; conv => whnf) | (rw [Int.toNat_natCast]; conv => whnf)))
  refine SW_loopN hE (fun k => k) [0, 1, 2, 6, 7, 17, 18] [6, 7, 15] (fun m fr hp => ∃ i : Nat, m = r - i ∧ i ≤ r ∧ fr = [(0, iv r), (1, iv c), (2, .clo g [] [.atom p]), (6, .ptr 6 0 0 0), (7, .ptr 7 0 0 0), (17, iv r), (18, iv (i : Nat))] ∧
    hp = [(6, zW), (7, bW r c 15), (15, zfil (mkz r c F) (r * c) (i * c))]) r ?_ ?_ ?_
  · kernel_rfl
  · exact ⟨0, rfl, Nat.zero_le _, rfl, by rw [Nat.zero_mul, zfil, List.take_zero]; rfl⟩
  rintro m _ _ ⟨i, rfl, hi, rfl, rfl⟩
  conv => whnf
  by_cases hlt : i < r
  · have t2 := dlt hlt
    have t3 := winc (i := i) (by omega)
    have hic : (i + 1) * c ≤ r * c := Nat.mul_le_mul_right c hlt
    rw [Nat.succ_mul] at hic
    (repeat (first | (refine step_w1 rfl rfl ?_; conv => whnf) | (rw [t2]; conv => whnf)))
    refine SW_loopN hE (fun k => k) [0, 1, 2, 6, 7, 8, 17, 18, 21, 22] [6, 7, 15] (fun m fr hp => ∃ k : Nat, m = c - k ∧ k ≤ c ∧ fr = [(0, iv r), (1, iv c), (2, .clo g [] [.atom p]), (6, .ptr 6 0 0 0), (7, .ptr 7 0 0 0), (8, iv (i : Nat)), (17, iv r), (18, iv (i : Nat)), (21, iv c), (22, iv (k : Nat))] ∧
      hp = [(6, zW), (7, bW r c 15), (15, zfil (mkz r c F) (r * c) (i * c + k))]) c ?_ ?_ ?_
    · kernel_rfl
    · exact ⟨0, rfl, Nat.zero_le _, rfl, rfl⟩
    rintro m _ _ ⟨k, rfl, hk, rfl, rfl⟩
    conv => whnf
    by_cases hlk : k < c
    · have t4 := dlt hlk
      have t5 := winc (i := k) (by omega)
      obtain ⟨w1, w2⟩ := idx_w (i := i) (k := k) (c := c) (by omega) (by omega) (by omega)
      have hlen := zfil_len (l := mkz r c F) (show i * c + k ≤ r * c by omega) hz
      have t6 := zfil_get (l := mkz r c F) (show i * c + k < r * c by omega) hz
      have o2 := hf i k hlt hlk
      rw [← mkz_el (f := F) hlt hlk] at o2
      (repeat ((first | refine step_w1 rfl rfl ?_ | refine step_i (by kernel_rfl) ?_ | refine step_oL (by first | omega | decide | (simp only [tl0, dlen, List.length_replicate, List.length_set, List.length_map, List.length_zipWith, List.length_take, List.length_append, List.length_cons, List.length_nil]; omega)) ?_ | refine step_oA (by first | omega | decide | (simp only [tl0, dlen, List.length_replicate, List.length_set, List.length_map, List.length_zipWith, List.length_take, List.length_append, List.length_cons, List.length_nil]; omega)) ?_ | refine g_c (by assumption) ?_ | rw [t4] | rw [t5] | rw [w1] | rw [w2] | rw [t6] | rw [Int.toNat_natCast] | rw [Nat.zero_add]); conv => whnf))
      refine ⟨c - (k + 1), fun k => k, [0, 1, 2, 6, 7, 8, 17, 18, 21, 22], [6, 7, 15], by omega, by kernel_rfl, k + 1, rfl, hlk, rfl, ?_⟩
      rw [show i * c + (k + 1) = i * c + k + 1 from rfl, zfil, ← zfil_set (show i * c + k < r * c by omega) hz]
      rfl
    · have t4 := dge hlk
      obtain rfl : k = c := by omega
      (repeat (first | (refine step_w2 rfl rfl ?_; conv => whnf) | (rw [t4]; conv => whnf) | (rw [t3]; conv => whnf)))
      refine ⟨r - (i + 1), fun k => k, [0, 1, 2, 6, 7, 17, 18], [6, 7, 15], by omega, by kernel_rfl, i + 1, rfl, hlt, rfl, ?_⟩
      rw [Nat.succ_mul]
      rfl
  · have t2 := dge hlt
    obtain rfl : i = r := by omega
    rw [zfil_all hz]
    (repeat (first | (refine step_w2 rfl rfl ?_; conv => whnf) | (rw [t2]; conv => whnf)))
    (first | exact Recast.refl _ | exact Frz.recast (Recast.refl _) rfl | (refine Frz.one rfl rfl ?_; (repeat (first | exact FrzC.keyless rfl | exact FrzL.nil | refine FrzL.cons ?_ ?_ | refine FrzC.agg ?_ | (refine FrzC.seq rfl (by first | rfl | (apply keylessL_map; intro _; rfl)) ?_; (first | rfl | omega | (simp <;> fail) | (simp <;> omega)))))) | (refine Frz.tup ?_; skip))
theorem b_made2 {r c : Nat} (hr : r ≤ 2048) (hc : c ≤ 2048) (F : Mz) (g : FuncId) (p q : Pred)
    (hf : ∀ i k, i < r → k < c → CallOK Tryz.prog g ([] ++ ([iv (i : Nat), iv (k : Nat)] ++ [.atom p, .atom q])) [] (.int (F i k)) [] []) :
    CallOK Tryz.prog 94 [iv r, iv c, .clo g [] [.atom p, .atom q]] [] (wA r c (mkz r c F)) [] [] := by
  have hz : (mkz r c F).length = r * c := mkz_len ..
  have hrc : r * c ≤ 2048 * 2048 := Nat.mul_le_mul hr hc
  have t1 : IntKind.i64.wrap ((r : Int) * (c : Int)) = ((r * c : Nat) : Int) := by rw [← Int.natCast_mul, wrap_i64 (by omega) (by omega)]
  refine callF (Z := []) tabOK mixedOK Tryz.func94 rfl (by kernel_rfl) (by first | rfl | (simp [keylessL, keyless, keylessL_map, *]; done)) (by first | rfl | (simp [keylessL, keyless, keylessL_map, *]; done)) (by kernel_rfl) rfl ?_
  intro w0 ρ0 hE
  conv => whnf
  (repeat (first | (refine step_oA (by first | omega | decide | (simp only [tl0, dlen, List.length_replicate, List.length_set, List.length_map, List.length_zipWith, List.length_take, List.length_append, List.length_cons, List.length_nil]; omega)) ?_; conv => whnf) | (rw [t1]; conv => whnf) | (rw [Int.toNat_natCast]; conv => whnf)))
  refine SW_loopN hE (fun k => k) [0, 1, 2, 6, 7, 17, 18] [6, 7, 15] (fun m fr hp => ∃ i : Nat, m = r - i ∧ i ≤ r ∧ fr = [(0, iv r), (1, iv c), (2, .clo g [] [.atom p, .atom q]), (6, .ptr 6 0 0 0), (7, .ptr 7 0 0 0), (17, iv r), (18, iv (i : Nat))] ∧
    hp = [(6, zW), (7, bW r c 15), (15, zfil (mkz r c F) (r * c) (i * c))]) r ?_ ?_ ?_
  · kernel_rfl
  · exact ⟨0, rfl, Nat.zero_le _, rfl, by rw [Nat.zero_mul, zfil, List.take_zero]; rfl⟩
  rintro m _ _ ⟨i, rfl, hi, rfl, rfl⟩
  conv => whnf
  by_cases hlt : i < r
  · have t2 := dlt hlt
    have t3 := winc (i := i) (by omega)
    have hic : (i + 1) * c ≤ r * c := Nat.mul_le_mul_right c hlt
    rw [Nat.succ_mul] at hic
    (repeat (first | (refine step_w1 rfl rfl ?_; conv => whnf) | (rw [t2]; conv => whnf)))
    refine SW_loopN hE (fun k => k) [0, 1, 2, 6, 7, 8, 17, 18, 21, 22] [6, 7, 15] (fun m fr hp => ∃ k : Nat, m = c - k ∧ k ≤ c ∧ fr = [(0, iv r), (1, iv c), (2, .clo g [] [.atom p, .atom q]), (6, .ptr 6 0 0 0), (7, .ptr 7 0 0 0), (8, iv (i : Nat)), (17, iv r), (18, iv (i : Nat)), (21, iv c), (22, iv (k : Nat))] ∧
      hp = [(6, zW), (7, bW r c 15), (15, zfil (mkz r c F) (r * c) (i * c + k))]) c ?_ ?_ ?_
    · kernel_rfl
    · exact ⟨0, rfl, Nat.zero_le _, rfl, rfl⟩
    rintro m _ _ ⟨k, rfl, hk, rfl, rfl⟩
    conv => whnf
    by_cases hlk : k < c
    · have t4 := dlt hlk
      have t5 := winc (i := k) (by omega)
      obtain ⟨w1, w2⟩ := idx_w (i := i) (k := k) (c := c) (by omega) (by omega) (by omega)
      have hlen := zfil_len (l := mkz r c F) (show i * c + k ≤ r * c by omega) hz
      have t6 := zfil_get (l := mkz r c F) (show i * c + k < r * c by omega) hz
      have o2 := hf i k hlt hlk
      rw [← mkz_el (f := F) hlt hlk] at o2
      (repeat ((first | refine step_w1 rfl rfl ?_ | refine step_i (by kernel_rfl) ?_ | refine step_oL (by first | omega | decide | (simp only [tl0, dlen, List.length_replicate, List.length_set, List.length_map, List.length_zipWith, List.length_take, List.length_append, List.length_cons, List.length_nil]; omega)) ?_ | refine step_oA (by first | omega | decide | (simp only [tl0, dlen, List.length_replicate, List.length_set, List.length_map, List.length_zipWith, List.length_take, List.length_append, List.length_cons, List.length_nil]; omega)) ?_ | refine g_c (by assumption) ?_ | rw [t4] | rw [t5] | rw [w1] | rw [w2] | rw [t6] | rw [Int.toNat_natCast] | rw [Nat.zero_add]); conv => whnf))
      refine ⟨c - (k + 1), fun k => k, [0, 1, 2, 6, 7, 8, 17, 18, 21, 22], [6, 7, 15], by omega, by kernel_rfl, k + 1, rfl, hlk, rfl, ?_⟩
      rw [show i * c + (k + 1) = i * c + k + 1 from rfl, zfil, ← zfil_set (show i * c + k < r * c by omega) hz]
      rfl
    · have t4 := dge hlk
      obtain rfl : k = c := by omega
      (repeat (first | (refine step_w2 rfl rfl ?_; conv => whnf) | (rw [t4]; conv => whnf) | (rw [t3]; conv => whnf)))
      refine ⟨r - (i + 1), fun k => k, [0, 1, 2, 6, 7, 17, 18], [6, 7, 15], by omega, by kernel_rfl, i + 1, rfl, hlt, rfl, ?_⟩
      rw [Nat.succ_mul]
      rfl
  · have t2 := dge hlt
    obtain rfl : i = r := by omega
    rw [zfil_all hz]
    (repeat (first | (refine step_w2 rfl rfl ?_; conv => whnf) | (rw [t2]; conv => whnf)))
    (first | exact Recast.refl _ | exact Frz.recast (Recast.refl _) rfl | (refine Frz.one rfl rfl ?_; (repeat (first | exact FrzC.keyless rfl | exact FrzL.nil | refine FrzL.cons ?_ ?_ | refine FrzC.agg ?_ | (refine FrzC.seq rfl (by first | rfl | (apply keylessL_map; intro _; rfl)) ?_; (first | rfl | omega | (simp <;> fail) | (simp <;> omega)))))) | (refine Frz.tup ?_; skip))
theorem b_made3 {r c : Nat} (hr : r ≤ 2048) (hc : c ≤ 2048) (F : Mz) (g : FuncId) (p q s : Pred)
    (hf : ∀ i k, i < r → k < c → CallOK Tryz.prog g ([] ++ ([iv (i : Nat), iv (k : Nat)] ++ [.atom p, .atom q, .atom s])) [] (.int (F i k)) [] []) :
    CallOK Tryz.prog 94 [iv r, iv c, .clo g [] [.atom p, .atom q, .atom s]] [] (wA r c (mkz r c F)) [] [] := by
  have hz : (mkz r c F).length = r * c := mkz_len ..
  have hrc : r * c ≤ 2048 * 2048 := Nat.mul_le_mul hr hc
  have t1 : IntKind.i64.wrap ((r : Int) * (c : Int)) = ((r * c : Nat) : Int) := by rw [← Int.natCast_mul, wrap_i64 (by omega) (by omega)]
  refine callF (Z := []) tabOK mixedOK Tryz.func94 rfl (by kernel_rfl) (by first | rfl | (simp [keylessL, keyless, keylessL_map, *]; done)) (by first | rfl | (simp [keylessL, keyless, keylessL_map, *]; done)) (by kernel_rfl) rfl ?_
  intro w0 ρ0 hE
  conv => whnf
  (repeat (first | (refine step_oA (by first | omega | decide | (simp only [tl0, dlen, List.length_replicate, List.length_set, List.length_map, List.length_zipWith, List.length_take, List.length_append, List.length_cons, List.length_nil]; omega)) ?_; conv => whnf) | (rw [t1]; conv => whnf) | (rw [Int.toNat_natCast]; conv => whnf)))
  refine SW_loopN hE (fun k => k) [0, 1, 2, 6, 7, 17, 18] [6, 7, 15] (fun m fr hp => ∃ i : Nat, m = r - i ∧ i ≤ r ∧ fr = [(0, iv r), (1, iv c), (2, .clo g [] [.atom p, .atom q, .atom s]), (6, .ptr 6 0 0 0), (7, .ptr 7 0 0 0), (17, iv r), (18, iv (i : Nat))] ∧
    hp = [(6, zW), (7, bW r c 15), (15, zfil (mkz r c F) (r * c) (i * c))]) r ?_ ?_ ?_
  · kernel_rfl
  · exact ⟨0, rfl, Nat.zero_le _, rfl, by rw [Nat.zero_mul, zfil, List.take_zero]; rfl⟩
  rintro m _ _ ⟨i, rfl, hi, rfl, rfl⟩
  conv => whnf
  by_cases hlt : i < r
  · have t2 := dlt hlt
    have t3 := winc (i := i) (by omega)
    have hic : (i + 1) * c ≤ r * c := Nat.mul_le_mul_right c hlt
    rw [Nat.succ_mul] at hic
    (repeat (first | (refine step_w1 rfl rfl ?_; conv => whnf) | (rw [t2]; conv => whnf)))
    refine SW_loopN hE (fun k => k) [0, 1, 2, 6, 7, 8, 17, 18, 21, 22] [6, 7, 15] (fun m fr hp => ∃ k : Nat, m = c - k ∧ k ≤ c ∧ fr = [(0, iv r), (1, iv c), (2, .clo g [] [.atom p, .atom q, .atom s]), (6, .ptr 6 0 0 0), (7, .ptr 7 0 0 0), (8, iv (i : Nat)), (17, iv r), (18, iv (i : Nat)), (21, iv c), (22, iv (k : Nat))] ∧
      hp = [(6, zW), (7, bW r c 15), (15, zfil (mkz r c F) (r * c) (i * c + k))]) c ?_ ?_ ?_
    · kernel_rfl
    · exact ⟨0, rfl, Nat.zero_le _, rfl, rfl⟩
    rintro m _ _ ⟨k, rfl, hk, rfl, rfl⟩
    conv => whnf
    by_cases hlk : k < c
    · have t4 := dlt hlk
      have t5 := winc (i := k) (by omega)
      obtain ⟨w1, w2⟩ := idx_w (i := i) (k := k) (c := c) (by omega) (by omega) (by omega)
      have hlen := zfil_len (l := mkz r c F) (show i * c + k ≤ r * c by omega) hz
      have t6 := zfil_get (l := mkz r c F) (show i * c + k < r * c by omega) hz
      have o2 := hf i k hlt hlk
      rw [← mkz_el (f := F) hlt hlk] at o2
      (repeat ((first | refine step_w1 rfl rfl ?_ | refine step_i (by kernel_rfl) ?_ | refine step_oL (by first | omega | decide | (simp only [tl0, dlen, List.length_replicate, List.length_set, List.length_map, List.length_zipWith, List.length_take, List.length_append, List.length_cons, List.length_nil]; omega)) ?_ | refine step_oA (by first | omega | decide | (simp only [tl0, dlen, List.length_replicate, List.length_set, List.length_map, List.length_zipWith, List.length_take, List.length_append, List.length_cons, List.length_nil]; omega)) ?_ | refine g_c (by assumption) ?_ | rw [t4] | rw [t5] | rw [w1] | rw [w2] | rw [t6] | rw [Int.toNat_natCast] | rw [Nat.zero_add]); conv => whnf))
      refine ⟨c - (k + 1), fun k => k, [0, 1, 2, 6, 7, 8, 17, 18, 21, 22], [6, 7, 15], by omega, by kernel_rfl, k + 1, rfl, hlk, rfl, ?_⟩
      rw [show i * c + (k + 1) = i * c + k + 1 from rfl, zfil, ← zfil_set (show i * c + k < r * c by omega) hz]
      rfl
    · have t4 := dge hlk
      obtain rfl : k = c := by omega
      (repeat (first | (refine step_w2 rfl rfl ?_; conv => whnf) | (rw [t4]; conv => whnf) | (rw [t3]; conv => whnf)))
      refine ⟨r - (i + 1), fun k => k, [0, 1, 2, 6, 7, 17, 18], [6, 7, 15], by omega, by kernel_rfl, i + 1, rfl, hlt, rfl, ?_⟩
      rw [Nat.succ_mul]
      rfl
  · have t2 := dge hlt
    obtain rfl : i = r := by omega
    rw [zfil_all hz]
    (repeat (first | (refine step_w2 rfl rfl ?_; conv => whnf) | (rw [t2]; conv => whnf)))
    (first | exact Recast.refl _ | exact Frz.recast (Recast.refl _) rfl | (refine Frz.one rfl rfl ?_; (repeat (first | exact FrzC.keyless rfl | exact FrzL.nil | refine FrzL.cons ?_ ?_ | refine FrzC.agg ?_ | (refine FrzC.seq rfl (by first | rfl | (apply keylessL_map; intro _; rfl)) ?_; (first | rfl | omega | (simp <;> fail) | (simp <;> omega)))))) | (refine Frz.tup ?_; skip))
end Go.Proofs.YtkpfineikahgfaaGreatDoor

namespace Go.Proofs.YtkpfineikahgfaaGreatDoor
open Go.Sx
set_option linter.unusedSimpArgs false
set_option linter.unusedVariables false
set_option maxRecDepth 100000
set_option maxHeartbeats 4000000

/-- Numbers below n, and one more. -/
def upN (n : Nat) : List Int := (List.range n).map fun i : Nat => (i : Int)
theorem upN_succ (i : Nat) : upN (i + 1) = upN i ++ [(i : Int)] := by simp [upN, List.range_succ]
theorem upN_len (i : Nat) : (upN i).length = i := by simp [upN]
abbrev upL (n : Nat) (l : List Int) : List Int := upN n ++ l
theorem upL_len (n : Nat) (l : List Int) : (upL n l).length = n + l.length := by simp [upN_len]
theorem upL_at {n : Nat} {l : List Int} {i : Nat} (hi : i < n) : (upL n l).getD i 0 = i := by
  simp [upL, upN, List.getD_eq_getElem?_getD, List.getElem?_append_left, hi]
theorem upL_last {n : Nat} {x : Int} : (upL n [x]).getD n 0 = x := by
  simp [upL, upN, List.getD_eq_getElem?_getD]
theorem b_part1 {r c : Nat} {a : List Int} (ha : OKZ r c a) {p q : List Int} (hp : ∀ i, i < p.length → 0 ≤ p.getD i 0 ∧ p.getD i 0 < r) (hq : ∀ i, i < q.length → 0 ≤ q.getD i 0 ∧ q.getD i 0 < c) {i k : Nat} (hi : i < p.length) (hk : k < q.length) (hl : p.length ≤ 2048) (hl2 : q.length ≤ 2048) :
    CallOK Tryz.prog 189 ([] ++ ([iv (i : Nat), iv (k : Nat)] ++ [ptrA (wC r c a), ptrA [ivec .i64 p], ptrA [ivec .i64 q]])) [] (.int (elz a c (p.getD i 0).toNat (q.getD k 0).toNat)) [] [] := by
  obtain ⟨p1, p2⟩ := hp i hi
  obtain ⟨q1, q2⟩ := hq k hk
  have k1 := b_at ha (i := (p.getD i 0).toNat) (k := (q.getD k 0).toNat) (by omega) (by omega)
  rw [Int.toNat_of_nonneg p1, Int.toNat_of_nonneg q1] at k1
  refine callV (Z := []) tabOK mixedOK Tryz.func189 rfl (by kernel_rfl) rfl rfl (by kernel_rfl) rfl ?_
  intro W0 w0 ρ0 hE
  conv => whnf
  (repeat ((first | refine step_i (by kernel_rfl) ?_ | refine g_c (by assumption) ?_ | refine g_o (op_loadA rfl (ev_ok rfl) (tgt rfl) rfl (Nat.succ_ne_zero _) rfl) ?_ | refine g_o (op_indexN (α := Int) (d := 0) rfl (ev_ok rfl) (ev_ok rfl) (tgt rfl) rfl (tgt rfl) rfl (by omega)) ?_); conv => whnf)); (first | exact Recast.refl _ | exact Frz.recast (Recast.refl _) rfl | (refine Frz.one rfl rfl ?_; skip) | (refine Frz.tup ?_; skip))
theorem b_part {r c : Nat} {a : List Int} (ha : OKZ r c a) {p q : List Int} (hp : ∀ i, i < p.length → 0 ≤ p.getD i 0 ∧ p.getD i 0 < r) (hq : ∀ i, i < q.length → 0 ≤ q.getD i 0 ∧ q.getD i 0 < c) (hl : p.length ≤ 2048) (hl2 : q.length ≤ 2048) :
    CallOK Tryz.prog 97 [wA r c a, ivec .i64 p, ivec .i64 q] [] (wA p.length q.length (mkz p.length q.length fun i k => elz a c (p.getD i 0).toNat (q.getD k 0).toNat)) [] [] := by
  have k1 := b_made3 hl hl2 _ 189 (ptrP (wC r c a)) (ptrP [ivec .i64 p]) (ptrP [ivec .i64 q]) (fun i k hi hk => b_part1 ha hp hq hi hk hl hl2)
  refine callV (Z := [3, 4, 5]) tabOK mixedOK Tryz.func97 rfl (by kernel_rfl) rfl rfl (by kernel_rfl) rfl ?_
  intro W0 w0 ρ0 hE
  conv => whnf
  (repeat ((first | refine g_c (by assumption) ?_ | refine g_o (op_lenM rfl rfl rfl (ev_ok rfl) (tgt rfl) rfl) ?_ | refine g_o (op_loadA rfl (ev_ok rfl) (tgt rfl) rfl (Nat.succ_ne_zero _) rfl) ?_ | refine g_o (op_makeFunc rfl rfl rfl) ?_); conv => whnf)); (first | exact Recast.refl _ | exact Frz.recast (Recast.refl _) rfl | (refine Frz.one rfl rfl ?_; skip) | (refine Frz.tup ?_; skip))
end Go.Proofs.YtkpfineikahgfaaGreatDoor

namespace Go.Proofs.YtkpfineikahgfaaGreatDoor
open Go.Sx
set_option linter.unusedSimpArgs false
set_option linter.unusedVariables false
set_option maxRecDepth 100000
set_option maxHeartbeats 40000000

theorem b_upToM (n : Nat) (l : List Int) (hn : n ≤ 2048) (hl : l.length ≤ 2048) : CallOK Tryz.prog 98 [iv n, ivec .i64 l] [] (.slc 2001 1 0 (n + l.length)) [(2001, iblkM (upL n l))] [] := by
  refine callK (Z := []) tabOK mixedOK Tryz.func98 rfl (by kernel_rfl) (args := [iv n, ivec .i64 l]) (fk := []) (c := .slc 17 1 0 (n + l.length)) (new := [(17, iblkM (upL n l))]) (upd := []) (ShapeOK.of rfl rfl rfl rfl rfl rfl rfl rfl rfl rfl rfl) rfl (renBy [(17, 2001)]) NamesOK.one ?_
  intro W0 w0 ρ0 hE
  conv => whnf
  skip
  refine SWx_adopt (t := 4) (k := 2002) (s := 1) (blk := iblkM []) rfl rfl rfl ?_
  refine SW_loopN hE (fun k => k) [1, 4, 6, 7] [2002] (fun m fr hp => ∃ i : Nat, m = n - i ∧ i ≤ n ∧ fr = [(1, ivec .i64 l), (4, .slc 2002 1 0 i), (6, iv n), (7, iv (i : Nat))] ∧ hp = [(2002, iblkM (upN i))]) n ?_ ?_ ?_
  · kernel_rfl
  · exact ⟨0, rfl, Nat.zero_le _, rfl, rfl⟩
  rintro m _ _ ⟨i, rfl, hi, rfl, rfl⟩
  conv => whnf
  have lq := upN_len i
  by_cases hlt : i < n
  · have t1 := dlt hlt
    have t2 := winc (i := i) (by omega)
    have e1 := app_int (l := upN i) (x := (i : Int))
    rw [lq, ← upN_succ] at e1
    (repeat ((first | refine step_oA (by first | omega | decide | (simp only [tl0, dlen, List.length_replicate, List.length_set, List.length_map, List.length_zipWith, List.length_take, List.length_append, List.length_cons, List.length_nil]; omega)) ?_ | refine tst_tt t1 ?_ | rw [t1] | rw [t2]); conv => whnf))
    refine ⟨n - (i + 1), renBy [(13, 2002)], [1, 4, 6, 7], [13], by omega, by kernel_rfl, i + 1, rfl, hlt, rfl, ?_⟩
    rw [e1]; rfl
  · have t1 := dge hlt
    obtain rfl : i = n := by omega
    (repeat (first | (refine tst_ff t1 ?_; conv => whnf) | (rw [t1]; conv => whnf)))
    refine ⟨.slc 17 1 0 (i + l.length), [(2002, iblkM (upN i))], [(17, iblkM (upL i l))], [(2002, ⟨3, true, .dead⟩)], op_appendV rfl rfl rfl (ev_ok rfl) (ev_ok rfl) (rows_ints l) (tabOK.get (t := 62) rfl) rfl (tabOK.get (t := 62) rfl) rfl (tabOK.get (t := 3) rfl) (List.mem_cons_self ..) rfl rfl (by show i ≤ (upN i).length; omega) (m := l.length) (List.length_map _).symm (by show 0 + l.length ≤ l.length; omega) (by simp [dapp, List.take_of_length_le (show (upN i).length ≤ i by omega)]) (by show (i + _) * ti3.bytes ≤ _; simp only [tiB3]; omega) (by omega), one_fk rfl, one_new rfl, one_upd (List.mem_cons_self ..) rfl rfl rfl, ?_⟩
    conv => whnf
    exact ⟨Recast.refl _, (fun k b h => by simp only [List.mem_singleton, Prod.mk.injEq] at h; obtain ⟨rfl, rfl⟩ := h; rfl), (fun _ _ h => by cases h)⟩
theorem b_upToV (n : Nat) (l : List Int) (hn : n ≤ 2048) (hl : l.length ≤ 2048) : CallOK Tryz.prog 98 [iv n, ivec .i64 l] [] (ivec .i64 (upL n l)) [] [] := by
  refine callF (Z := []) tabOK mixedOK Tryz.func98 rfl (by kernel_rfl) (by first | rfl | (simp [keylessL, keyless, keylessL_map, *]; done)) (by first | rfl | (simp [keylessL, keyless, keylessL_map, *]; done)) (by kernel_rfl) rfl ?_
  intro w0 ρ0 hE
  conv => whnf
  skip
  refine SWx_adopt (t := 4) (k := 2002) (s := 1) (blk := iblkM []) rfl rfl rfl ?_
  refine SW_loopN hE (fun k => k) [1, 4, 6, 7] [2002] (fun m fr hp => ∃ i : Nat, m = n - i ∧ i ≤ n ∧ fr = [(1, ivec .i64 l), (4, .slc 2002 1 0 i), (6, iv n), (7, iv (i : Nat))] ∧ hp = [(2002, iblkM (upN i))]) n ?_ ?_ ?_
  · kernel_rfl
  · exact ⟨0, rfl, Nat.zero_le _, rfl, rfl⟩
  rintro m _ _ ⟨i, rfl, hi, rfl, rfl⟩
  conv => whnf
  have lq := upN_len i
  by_cases hlt : i < n
  · have t1 := dlt hlt
    have t2 := winc (i := i) (by omega)
    have e1 := app_int (l := upN i) (x := (i : Int))
    rw [lq, ← upN_succ] at e1
    (repeat ((first | refine step_oA (by first | omega | decide | (simp only [tl0, dlen, List.length_replicate, List.length_set, List.length_map, List.length_zipWith, List.length_take, List.length_append, List.length_cons, List.length_nil]; omega)) ?_ | refine tst_tt t1 ?_ | rw [t1] | rw [t2]); conv => whnf))
    refine ⟨n - (i + 1), renBy [(13, 2002)], [1, 4, 6, 7], [13], by omega, by kernel_rfl, i + 1, rfl, hlt, rfl, ?_⟩
    rw [e1]; rfl
  · have t1 := dge hlt
    obtain rfl : i = n := by omega
    (repeat (first | (refine tst_ff t1 ?_; conv => whnf) | (rw [t1]; conv => whnf)))
    refine ⟨.slc 17 1 0 (i + l.length), [(2002, iblkM (upN i))], [(17, iblkM (upL i l))], [(2002, ⟨3, true, .dead⟩)], op_appendV rfl rfl rfl (ev_ok rfl) (ev_ok rfl) (rows_ints l) (tabOK.get (t := 62) rfl) rfl (tabOK.get (t := 62) rfl) rfl (tabOK.get (t := 3) rfl) (List.mem_cons_self ..) rfl rfl (by show i ≤ (upN i).length; omega) (m := l.length) (List.length_map _).symm (by show 0 + l.length ≤ l.length; omega) (by simp [dapp, List.take_of_length_le (show (upN i).length ≤ i by omega)]) (by show (i + _) * ti3.bytes ≤ _; simp only [tiB3]; omega) (by omega), one_fk rfl, one_new rfl, one_upd (List.mem_cons_self ..) rfl rfl rfl, ?_⟩
    conv => whnf
    refine Frz.one rfl rfl (FrzC.ints rfl ?_)
    rw [upL_len]
end Go.Proofs.YtkpfineikahgfaaGreatDoor

namespace Go.Sx
set_option linter.unusedSimpArgs false
set_option linter.unusedVariables false
/-- What a pointer leads to is taken for good. -/
theorem SWx_freezeP {E : Env} (t k : Nat) {c : Code} {K : Post'} {fr : List (Nat × SV)} {hp : List (Nat × Blk)} {ty : TypeId} {cs : List SV} (hW : ∀ b, ¬ E.W0 b) (ht : lk fr t = some (.ptr k 0 0 0)) (hk : find hp k = some ⟨ty, true, .one cs⟩)
    (hkl : keylessL cs = true) (hs : SWx E c K ((t, ptrA cs) :: fr) (setB hp k ⟨ty, true, .dead⟩)) : SWx E c K fr hp := by
  refine ⟨fun a W hR => hs.run a W ?_⟩
  have hl : (Data.one cs).live = true := rfl
  obtain ⟨ρ, hext, hfx, hR⟩ := hR
  have hkb : (fn fr hp (.k k)).blk = some ⟨ty, true, .one cs⟩ := by simp only [fn, LV.blk]; exact hk
  have hv := hR.fr t _ (by simp only [fn, LV.sv]; exact ht)
  obtain ⟨x, hx, hxv⟩ := (Has_iff (c := .ptr k 0 0 0) rfl).1 hv
  have hlayk : ∀ j b, (fn ((t, ptrA cs) :: fr) (setB hp k ⟨ty, true, .dead⟩) (.k j)).blk = some b → (j = k ∧ b = ⟨ty, true, .dead⟩) ∨ (j ≠ k ∧ (fn fr hp (.k j)).blk = some b) := by
    intro j b hb
    simp only [fn, LV.blk, find_setB] at hb ⊢
    by_cases hj : j = k
    · rw [if_pos hj] at hb; exact .inl ⟨hj, (Option.some.inj hb).symm⟩
    · rw [if_neg hj] at hb; exact .inr ⟨hj, hb⟩
  -- any map with more blocks will do
  have fin : ∀ ρ' : Rho, ρ'.key = ρ.key → (∀ b o, ρ.imm b = some o → ρ'.imm b = some o) → (∀ b o, ρ'.imm b = some o → ρ.imm b = some o ∨ E.w0.heap.size ≤ b) → (∀ b o, ρ'.imm b = some o → W.heap[b]? = some o) →
      (∀ j b x, j ≠ k → (fn fr hp (.k j)).blk = some b → b.wr = true → b.data.live = true → ρ.key j = some x → ρ'.imm x.1 = none) → (∀ D, W.heap[D]? = some (.deferred (some [])) → ρ.imm D = none → ρ'.imm D = none) → Has ρ' (ptrA cs) (a.tmps.getD t undef) →
      RR E (fn ((t, ptrA cs) :: fr) (setB hp k ⟨ty, true, .dead⟩)) a W := by
    intro ρ' hkey himm hnew hheap hnone hmark hhas
    have hle : ρ.Le ρ' := ⟨fun j y hy => by rw [hkey]; exact hy, himm⟩
    refine ⟨ρ', ⟨hext.le.trans hle, fun b o hb => (hnew b o hb).elim (fun h => hext.imm b o h) .inr, fun j hj => by rw [hkey]; exact hext.fix j hj⟩, fun j hj => ?_, { defers := ?_, size := hR.size, fr := ?_, pres := hR.pres, hp := ?_ }⟩
    · have := hfx j hj
      simp only [fn, LV.blk, find_setB] at this ⊢
      split
      · simp
      · exact this
    · obtain ⟨Ds, d1, d2, d3⟩ := hR.defers
      refine ⟨Ds, d1, d2, fun D hD => ?_⟩
      obtain ⟨e1, e2, e3⟩ := d3 D hD
      refine ⟨e1, e2, ?_⟩
      exact hmark D e2 e3
    · intro u sv hu
      simp only [fn, LV.sv, lk] at hu
      cases hb : Nat.beq t u with
      | true =>
        rw [hb] at hu
        simp only [Option.some.injEq] at hu
        subst hu
        rw [← Nat.eq_of_beq_eq_true hb]
        exact hhas
      | false => rw [hb] at hu; exact Has.mono hle _ _ (hR.fr u sv (by simp only [fn, LV.sv]; exact hu))
    · constructor
      · intro j b hb
        rcases hlayk j b hb with ⟨rfl, rfl⟩ | ⟨hj, hb⟩
        · exact .inl rfl
        · rcases hR.hp.blk j b hb with g0 | ⟨b', t', vs, ex, g1, g2, g3, g4⟩ | ⟨g1, g2⟩
          · exact .inl g0
          · exact .inr (.inl ⟨b', t', vs, ex, by rw [hkey]; exact g1, g2, g3.mono hle, g4⟩)
          · exact .inr (.inr ⟨by rw [hkey]; exact g1, g2⟩)
      · intro j j' y y' b b' hy hy' hne hyy hb hb' hl1 hl2
        rw [hkey] at hy hy'
        rcases hlayk j b hb with ⟨_, rfl⟩ | ⟨_, hb⟩
        · cases hl1
        rcases hlayk j' b' hb' with ⟨_, rfl⟩ | ⟨_, hb'⟩
        · cases hl2
        exact hR.hp.sep j j' y y' b b' hy hy' hne hyy hb hb' hl1 hl2
      · intro j b y hb hwr hl1 hy
        rw [hkey] at hy
        rcases hlayk j b hb with ⟨_, rfl⟩ | ⟨_, hb⟩
        · cases hl1
        exact hR.hp.own j b y hb hwr hl1 hy
      · intro j y hy
        rw [hkey] at hy
        obtain ⟨b, hb⟩ := hR.hp.dom j y hy
        simp only [fn, LV.blk, find_setB] at hb ⊢
        split
        · exact ⟨_, rfl⟩
        · exact ⟨b, hb⟩
      · exact hheap
      · intro j b y hb hwr hl1 hy
        rw [hkey] at hy
        rcases hlayk j b hb with ⟨_, rfl⟩ | ⟨hj, hb⟩
        · cases hl1
        exact hnone j b y hj hb hwr hl1 hy
  simp only [HasC] at hx
  obtain ⟨b, t', h1, rfl⟩ := hx
  rcases hR.hp.blk k _ hkb with g0 | ⟨b', t'', vs, ex, g1, g2, g3, g4, g5⟩ | ⟨g1, _⟩
  · cases g0
  · rw [h1] at g1
    cases g1
    rw [Data.obj_cells rfl] at g2
    have h2 : W.heap[b]? = some (.cells (vs ++ ex).toArray ty (0, 0)) := g2
    simp only [DataC] at g3
    obtain ⟨z, z1, rfl⟩ := g3
    have hB : E.w0.heap.size ≤ b := (hR.hp.own k _ _ hkb rfl hl h1).resolve_right (hW _)
    obtain ⟨u, hup⟩ := (Up.refl ρ W E.w0.heap.size).add hR.hp.imm hB h2
    refine fin ⟨ρ.key, _, u.glob⟩ rfl u.le (fun b o hb => (u.new b o hb).imp id (fun h => h.1)) (fun c p hc => ?_) (fun j blk y hj hb hwr hl1 hy => ?_) (fun D hD1 hD2 => ?_) ?_
    · rcases u.new c p hc with h | h
      · exact hR.hp.imm c p h
      · exact h.2
    · show (if y.1 = b then some _ else ρ.imm y.1) = none
      rw [if_neg]
      · exact hR.hp.immw j blk y hb hwr hl1 hy
      · intro he2
        have := hR.hp.sep k j (b, t') y _ _ h1 hy (fun h => hj h.symm) he2.symm hkb hb hl hl1
        cases this
    · show (if D = b then some _ else ρ.imm D) = none
      rw [if_neg, hD2]
      rintro rfl
      rw [hD1] at h2; cases h2
    · rw [hxv]
      have hz : HasZ (bareR (fun x => if x = b then some (.cells (z.flatten ++ ex).toArray ty (0, 0)) else ρ.imm x) u.glob) cs z := keylessL_has (ρ := ρ) u.le cs z hkl z1
      refine ptrA_has ⟨b, z, [], ex, ty, (0, 0), if_pos rfl, hz, ?_⟩
      simp [mkV, SV.isOne]
  · rw [h1] at g1; cases g1

/-- A slice value that is not empty is no nil. -/
theorem op_eqNilV {P : Program} {o : Oper} {ft : List (Nat × SV)} {fk : List (Nat × Blk)} {t t2 e : TypeId} {x y : Operand} {w : Nat} {xs : List SV} (ho : o.op = .binOp .eql t x y t2) (hx : EvOK ft x (vecA w xs)) (hy : EvOK ft y (.val (.slice none 0 0))) (hu : P.underlying t = some (.slice e)) (hne : xs ≠ []) : OpOK P o ft fk (.val (.bool false)) [] [] :=
  ok_pure fun ρ ac W hp => by
    have e2 := of_has_val (hy ρ ac hp.hft)
    rcases has_vec (hx ρ ac hp.hft) with ⟨h0, _⟩ | ⟨b, cap, z, pre, ex, ty, fz, _, _, _, _, _, h6⟩
    · exact absurd h0 hne
    · have hq : ∀ d b i n m, (Op.equalIn (d + 1) t (.slice (some ⟨b, i, none⟩) n m) (.slice none 0 0)).run P W = .ok false W := fun d b i n m => by simp [Op.equalIn, run_underlying hu]
      have hq' : ∀ b i n m, (Op.equal t (.slice (some ⟨b, i, none⟩) n m) (.slice none 0 0)).run P W = .ok false W := fun b i n m => hq 9999 b i n m
      refine ⟨_, ?_, has_val rfl⟩
      simp [execOp, ho, h6, e2, eqGuard, binOp, hq']
end Go.Sx
namespace Go.Proofs.YtkpfineikahgfaaGreatDoor
open Go.Sx
set_option linter.unusedSimpArgs false
set_option linter.unusedVariables false
set_option maxRecDepth 100000
set_option maxHeartbeats 4000000

abbrev sA (r c : Int) (a : List Int) (b s : Int) : SV := .agg [wA r c a, .int b, iv s]
abbrev sC (r c : Int) (a : List Int) (b s : Int) : List SV := [wA r c a, .int b, iv s]
theorem b_begin (r c : Int) (a : List Int) : CallOK Tryz.prog 92 [wA r c a] [] (sA r c a 1 0) [] [] := by
  have k1 := c_iOf 1 (by decide) (by decide)
  refine callV (Z := []) tabOK mixedOK Tryz.func92 rfl (by kernel_rfl) rfl rfl (by kernel_rfl) rfl ?_
  intro W0 w0 ρ0 hE
  conv => whnf
  (repeat (first | (refine step_i (by kernel_rfl) ?_; conv => whnf) | (refine g_c (by assumption) ?_; conv => whnf))); (first | exact Recast.refl _ | exact Frz.recast (Recast.refl _) rfl | (refine Frz.one rfl rfl ?_; skip) | (refine Frz.tup ?_; skip))
theorem b_cross (a b c d : Int) (h : zs a + zs b + (zs c + zs d) ≤ 1073741824) : CallOK Tryz.prog 192 [.int a, .int b, .int c, .int d] [] (.int (a * b - c * d)) [] [] := by
  have k1 := zz_Mul a b (by omega)
  have k2 := zz_Mul c d (by omega)
  have k3 := zz_Sub (a * b) (c * d) (by have := zs_mul a b; have := zs_mul c d; omega)
  refine callV (Z := []) tabOK mixedOK Tryz.func192 rfl (by kernel_rfl) rfl rfl (by kernel_rfl) rfl ?_
  intro W0 w0 ρ0 hE
  conv => whnf
  (repeat (first | (refine step_i (by kernel_rfl) ?_; conv => whnf) | (refine g_c (by assumption) ?_; conv => whnf))); (first | exact Recast.refl _ | exact Frz.recast (Recast.refl _) rfl | (refine Frz.one rfl rfl ?_; skip) | (refine Frz.tup ?_; skip))
/-- The cross product of elements that the next stage takes. -/
def crZ (a : List Int) (c i k : Nat) : Int := elz a c 0 0 * elz a c (i + 1) (k + 1) - elz a c (i + 1) 0 * elz a c 0 (k + 1)
theorem crZ_zs {a : List Int} {r c i k B : Nat} (h : Zm B a) (ha : a.length = (r + 1) * (c + 1)) (hi : i < r) (hk : k < c) : zs (crZ a (c + 1) i k) ≤ 4 * B := by
  have h1 := elz_zm h ha (i := 0) (k := 0) (by omega) (by omega)
  have h2 := elz_zm h ha (i := i + 1) (k := k + 1) (by omega) (by omega)
  have h3 := elz_zm h ha (i := i + 1) (k := 0) (by omega) (by omega)
  have h4 := elz_zm h ha (i := 0) (k := k + 1) (by omega) (by omega)
  have := zs_sub (elz a (c + 1) 0 0 * elz a (c + 1) (i + 1) (k + 1)) (elz a (c + 1) (i + 1) 0 * elz a (c + 1) 0 (k + 1))
  have := zs_mul (elz a (c + 1) 0 0) (elz a (c + 1) (i + 1) (k + 1))
  have := zs_mul (elz a (c + 1) (i + 1) 0) (elz a (c + 1) 0 (k + 1))
  unfold crZ; omega
theorem b_next1 {r c B : Nat} {a : List Int} {b s : Int} (ha : OKZ (r + 1) (c + 1) a) (za : Zm B a) (hb : 4 * B + zs b ≤ 1073741824) {i k : Nat} (hi : i < r) (hk : k < c) :
    CallOK Tryz.prog 190 ([] ++ ([iv (i : Nat), iv (k : Nat)] ++ [ptrA [.int (elz a (c + 1) 0 0)], ptrA (sC (r + 1 : Nat) (c + 1 : Nat) a b s)])) [] (.int (crZ a (c + 1) i k / b)) [] [] := by
  have h1 := elz_zm za ha.n (i := 0) (k := 0) (by omega) (by omega)
  have h2 := elz_zm za ha.n (i := i + 1) (k := k + 1) (by omega) (by omega)
  have h3 := elz_zm za ha.n (i := i + 1) (k := 0) (by omega) (by omega)
  have h4 := elz_zm za ha.n (i := 0) (k := k + 1) (by omega) (by omega)
  have h5 := crZ_zs za ha.n hi hk
  have w1 := winc (i := i) (by have := ha.r; omega)
  have w2 := winc (i := k) (by have := ha.c; omega)
  have k1 := b_at ha (i := i + 1) (k := k + 1) (by omega) (by omega)
  have k2 := b_at ha (i := i + 1) (k := 0) (by omega) (by omega)
  have k3 := b_at ha (i := 0) (k := k + 1) (by omega) (by omega)
  have k4 := b_cross (elz a (c + 1) 0 0) (elz a (c + 1) (i + 1) (k + 1)) (elz a (c + 1) (i + 1) 0) (elz a (c + 1) 0 (k + 1)) (by omega)
  obtain ⟨q, ok, k5⟩ := zz_Div (crZ a (c + 1) i k) b (by omega)
  unfold crZ at *
  refine callV (Z := []) tabOK mixedOK Tryz.func190 rfl (by kernel_rfl) rfl rfl (by kernel_rfl) rfl ?_
  intro W0 w0 ρ0 hE
  conv => whnf
  (repeat ((first | refine step_i (by kernel_rfl) ?_ | refine g_c (by assumption) ?_ | refine g_o (op_loadA rfl (ev_ok rfl) (tgt rfl) rfl (Nat.succ_ne_zero _) rfl) ?_ | refine g_o (op_fieldA rfl (ev_ok rfl) (tgt rfl) rfl rfl (Nat.succ_ne_zero _) rfl) ?_ | rw [w1] | rw [w2]); conv => whnf)); (first | exact Recast.refl _ | exact Frz.recast (Recast.refl _) rfl | (refine Frz.one rfl rfl ?_; skip) | (refine Frz.tup ?_; skip))
/-- The elements of the next stage. -/
abbrev nxt (r c : Nat) (a : List Int) (b : Int) : List Int := mkz r c fun i k => crZ a (c + 1) i k / b
theorem b_next {r c B : Nat} {a : List Int} {b s : Int} (ha : OKZ (r + 1) (c + 1) a) (za : Zm B a) (hb : 4 * B + zs b ≤ 1073741824) :
    CallOK Tryz.prog 99 [sA (r + 1 : Nat) (c + 1 : Nat) a b s] [] (sA r c (nxt r c a b) (elz a (c + 1) 0 0) s) [] [] := by
  have k1 := b_at ha (i := 0) (k := 0) (by omega) (by omega)
  have k2 := b_made2 (r := r) (c := c) (by have := ha.r; omega) (by have := ha.c; omega) (fun i k => crZ a (c + 1) i k / b) 190 (ptrP [.int (elz a (c + 1) 0 0)]) (ptrP (sC (r + 1 : Nat) (c + 1 : Nat) a b s)) fun i k hi hk => b_next1 ha za hb hi hk
  have w1 : IntKind.i64.wrap (((r + 1 : Nat) : Int) - 1) = (r : Int) := by rw [wrap_i64 (by omega) (by have := ha.r; omega)]; omega
  have w2 : IntKind.i64.wrap (((c + 1 : Nat) : Int) - 1) = (c : Int) := by rw [wrap_i64 (by omega) (by have := ha.c; omega)]; omega
  refine callF (Z := [1, 100002]) tabOK mixedOK Tryz.func99 rfl (by kernel_rfl) (by first | rfl | (simp [keylessL, keyless, keylessL_map, *]; done)) (by first | rfl | (simp [keylessL, keyless, keylessL_map, *]; done)) (by kernel_rfl) rfl ?_
  intro w0 ρ0 hE
  conv => whnf
  (repeat (first | (refine g_c (by assumption) ?_; conv => whnf) | (refine g_o (op_loadA rfl (ev_ok rfl) (tgt rfl) rfl (Nat.succ_ne_zero _) rfl) ?_; conv => whnf) | (refine g_o (op_fieldA rfl (ev_ok rfl) (tgt rfl) rfl rfl (Nat.succ_ne_zero _) rfl) ?_; conv => whnf)))
  refine SWx_freezeP 3 3 (fun _ h => h) rfl rfl rfl ?_
  refine SWx_go hE ?_
  conv => whnf
  (repeat ((first | refine g_c (by assumption) ?_ | refine g_o (op_loadA rfl (ev_ok rfl) (tgt rfl) rfl (Nat.succ_ne_zero _) rfl) ?_ | refine g_o (op_fieldA rfl (ev_ok rfl) (tgt rfl) rfl rfl (Nat.succ_ne_zero _) rfl) ?_ | refine g_o (op_makeFunc rfl rfl rfl) ?_ | rw [w1] | rw [w2]); conv => whnf))
  (first | exact Recast.refl _ | exact Frz.recast (Recast.refl _) rfl | (refine Frz.one rfl rfl ?_; skip) | (refine Frz.tup ?_; skip))

theorem rows_seqZ (l : List Int) : ∀ (ρ : Rho) z, HasZ (bareR ρ.imm ρ.glob) (l.map SV.int) z → (∀ x ∈ l.map SV.int, x.width = 3) → Go.Sx.Rows ρ 3 (.seq 3 (l.map .int)) z := fun _ _ h k => ⟨rfl, h, k⟩
theorem b_Clone (l : List Int) (hl : l.length < 1099511627776) (h0 : l ≠ []) : CallOK Tryz.prog 233 [zvec l] [] (.slc 2001 3 0 l.length) [(2001, zB3 l)] [] := by
  have hne : l.map SV.int ≠ [] := by simpa using h0
  refine callK (Z := []) tabOK mixedOK Tryz.func233 rfl (by kernel_rfl) (args := [zvec l]) (fk := []) (c := .slc 7 3 0 l.length) (new := [(7, zB3 l)]) (upd := []) (ShapeOK.of rfl rfl rfl rfl rfl rfl rfl rfl rfl rfl rfl) rfl (renBy [(7, 2001)]) NamesOK.one ?_
  intro W0 w0 ρ0 hE
  conv => whnf
  (repeat (first | (refine step_w2 rfl rfl ?_; conv => whnf) | (refine ⟨_, op_eqNilV rfl (ev_ok rfl) (ev_ok rfl) Tryz.underlying53 hne, ?_⟩; conv => whnf)))
  refine ⟨.slc 7 3 0 (0 + l.length), [(5, ⟨36, true, .seq 3 []⟩)], [(7, zB3 l)], [(5, ⟨36, true, .dead⟩)], op_appendV rfl rfl rfl (ev_ok rfl) (ev_ok rfl) (rows_seqZ l) (tabOK.get (t := 53) rfl) rfl (tabOK.get (t := 53) rfl) rfl (tabOK.get (t := 36) rfl) (List.mem_cons_self ..) rfl rfl (by simp [dlen]) (by simp) (by simp [dlen]) (by simp [dapp]; exact List.take_of_length_le (by simp)) (by show (0 + _) * ti36.bytes ≤ _; simp only [tiB36]; omega) (by omega), one_fk rfl, one_new rfl, one_upd (List.mem_cons_self ..) rfl rfl rfl, ?_⟩
  conv => whnf
  exact ⟨by rw [Nat.zero_add]; exact Recast.refl _, (fun k b h => by simp only [List.mem_singleton, Prod.mk.injEq] at h; obtain ⟨rfl, rfl⟩ := h; rfl), (fun _ _ h => by cases h)⟩
/-- A row brought to the top, in turn: k elements exchanged. -/
def swk (r c : Nat) (a : List Int) (i k : Nat) : List Int := mkz r c fun p q => if q < k then swapZ (elz a c) 0 i p q else elz a c p q
theorem set_elz {a : List Int} {r n i k j l : Nat} {q : Int} (ha : a.length = r * n) (hi : i < r) (hk : k < n) (hj : j < r) (hl : l < n) : elz (a.set (i * n + k) q) n j l = if i = j ∧ k = l then q else elz a n j l := by
  have h1 := idx_lt hi hk
  have h2 := idx_lt hj hl
  simp only [elz, List.getD_eq_getElem?_getD, List.getElem?_set]
  by_cases e : i * n + k = j * n + l
  · have e1 := congrArg (· / n) e
    have e2 := congrArg (· % n) e
    simp only [idx_div hk, idx_div hl, idx_mod hk, idx_mod hl] at e1 e2
    subst e1 e2
    simp [ha, h1]
  · rw [if_neg e, if_neg (by rintro ⟨rfl, rfl⟩; exact e rfl)]
theorem swk_zero {r c : Nat} {a : List Int} {i : Nat} (ha : a.length = r * c) : swk r c a i 0 = a :=
  mkz_ext ha fun p q _ _ => if_neg (by omega)
theorem swk_len (r c : Nat) (a : List Int) (i k : Nat) : (swk r c a i k).length = r * c := mkz_len ..
theorem swk_at {r c : Nat} {a : List Int} {i k p q : Nat} (hp : p < r) (hq : q < c) (hk : k ≤ q) : elz (swk r c a i k) c p q = elz a c p q := by
  rw [swk, mkz_el hp hq, if_neg (by omega)]
theorem swk_set {r c : Nat} {a : List Int} {i k : Nat} (hi : i < r) (h0 : 0 < i) (hk : k < c) :
    ((swk r c a i k).set k (elz a c i k)).set (i * c + k) (elz a c 0 k) = swk r c a i (k + 1) := by
  have hl := swk_len r c a i k
  have e0 : (swk r c a i k).set k (elz a c i k) = (swk r c a i k).set (0 * c + k) (elz a c i k) := by rw [Nat.zero_mul, Nat.zero_add]
  rw [e0]
  refine maz_ext (by rw [List.length_set, List.length_set, hl]) (swk_len ..) fun p q hp hq => ?_
  rw [set_elz (by rw [List.length_set, hl]) hi hk hp hq, set_elz hl (by omega) hk hp hq, swk, swk, mkz_el hp hq, mkz_el hp hq]
  unfold swapZ
  by_cases e1 : i = p ∧ k = q
  · obtain ⟨rfl, rfl⟩ := e1
    rw [if_pos ⟨rfl, rfl⟩, if_pos (by omega), if_neg (by omega), if_pos rfl]
  · rw [if_neg e1]
    by_cases e2 : 0 = p ∧ k = q
    · obtain ⟨rfl, rfl⟩ := e2
      rw [if_pos ⟨rfl, rfl⟩, if_pos (by omega), if_pos rfl]
    · rw [if_neg e2]
      by_cases e3 : q = k
      · subst e3
        rw [if_neg (by omega), if_pos (by omega), if_neg (fun h => e2 ⟨h.symm, rfl⟩), if_neg (fun h => e1 ⟨h.symm, rfl⟩)]
      · by_cases e4 : q < k
        · rw [if_pos e4, if_pos (show q < k + 1 by omega)]
        · rw [if_neg e4, if_neg (show ¬ q < k + 1 by omega)]
theorem swk_all {r c : Nat} {a : List Int} {i : Nat} : swk r c a i c = mkz r c (swapZ (elz a c) 0 i) := mkz_congr fun p q _ hq => if_pos hq
end Go.Proofs.YtkpfineikahgfaaGreatDoor

namespace Go.Proofs.YtkpfineikahgfaaGreatDoor
open Go.Sx
set_option linter.unusedSimpArgs false
set_option linter.unusedVariables false
set_option maxRecDepth 100000
set_option maxHeartbeats 40000000

theorem nest3 {ρ : Rho} {a b c : SV} {l : List SV} {x : List Value} (h : HasC ρ (.agg (a :: b :: c :: l)) x) : HasC ρ (.agg (.agg [a, b, c] :: l)) x := by
  simp only [HasC, HasZ] at h ⊢
  obtain ⟨z, ⟨x1, r1, rfl, h1, x2, r2, rfl, h2, x3, r3, rfl, h3, h4⟩, rfl⟩ := h
  exact ⟨_, ⟨_, r3, rfl, ⟨_, ⟨x1, _, rfl, h1, x2, _, rfl, h2, x3, _, rfl, h3, rfl⟩, rfl⟩, h4⟩, by simp⟩
abbrev zS : Blk := ⟨149, true, .one [iv 0, iv 0, .val (.slice none 0 0), .int 0, iv 0]⟩
abbrev bS (r c : Int) (a : List Int) (b s : Int) : Blk := ⟨149, true, .one (sC r c a b s)⟩
theorem b_turned_no {r c : Nat} {a : List Int} {b s : Int} (ha : OKZ r (c + 1) a) (h : ∀ i, i < r → elz a (c + 1) i 0 = 0) :
    CallOK Tryz.prog 188 [sA r (c + 1 : Nat) a b s] [] (.tup [sA r (c + 1 : Nat) a b s, .val (.bool false)]) [] [] := by
  have hr := ha.r
  refine callF (Z := []) tabOK mixedOK Tryz.func188 rfl (by kernel_rfl) (by first | rfl | (simp [keylessL, keyless, keylessL_map, *]; done)) (by first | rfl | (simp [keylessL, keyless, keylessL_map, *]; done)) (by kernel_rfl) rfl ?_
  intro w0 ρ0 hE
  conv => whnf
  (repeat (first | (rw [Nat.zero_add]; conv => whnf)))
  refine SW_loopN hE (fun k => k) [1, 2, 3, 9, 10] [1, 2] (fun m fr hp => ∃ i : Nat, m = r - i ∧ i ≤ r ∧ fr = [(1, .ptr 1 0 0 0), (2, .ptr 2 0 0 0), (3, .val (.bool false)), (9, iv r), (10, iv (i : Nat))] ∧
    hp = [(1, bS r (c + 1 : Nat) a b s), (2, zS)]) r ?_ ?_ ?_
  · kernel_rfl
  · exact ⟨0, rfl, Nat.zero_le _, rfl, rfl⟩
  rintro m _ _ ⟨i, rfl, hi, rfl, rfl⟩
  conv => whnf
  by_cases hlt : i < r
  · have t1 := dlt hlt
    have t2 := winc (i := i) (by omega)
    have k1 := b_at ha hlt (k := 0) (by omega)
    rw [h i hlt] at k1
    have k2 := c_Sign 0
    (repeat ((first | refine step_w1 rfl rfl ?_ | refine g_c (by assumption) ?_ | rw [t1] | rw [t2] | rw [Nat.zero_add]); conv => whnf))
    exact ⟨r - (i + 1), fun k => k, [1, 2, 3, 9, 10], [1, 2], by omega, by kernel_rfl, i + 1, rfl, hlt, rfl, rfl⟩
  · have t1 := dge hlt
    (repeat (first | (refine step_w2 rfl rfl ?_; conv => whnf) | (rw [t1]; conv => whnf)))
    (first | exact Recast.refl _ | exact Frz.recast (Recast.refl _) rfl | (refine Frz.one rfl rfl ?_; skip) | (refine Frz.tup ?_; skip))
theorem b_turned {r c : Nat} {a : List Int} {b s : Int} (ha : OKZ r (c + 1) a) {j : Nat} (hj : j < r) (h : ∀ i, i < j → elz a (c + 1) i 0 = 0) (h0 : elz a (c + 1) j 0 ≠ 0) (hs : 0 ≤ s ∧ s ≤ 1000) :
    CallOK Tryz.prog 188 [sA r (c + 1 : Nat) a b s] [] (.tup [sA r (c + 1 : Nat) (mkz r (c + 1) (swapZ (elz a (c + 1)) 0 j)) b (if 0 < j then s + 1 else s), .val (.bool true)]) [] [] := by
  have hr := ha.r
  have hc := ha.c
  refine callF (Z := []) tabOK mixedOK Tryz.func188 rfl (by kernel_rfl) (by first | rfl | (simp [keylessL, keyless, keylessL_map, *]; done)) (by first | rfl | (simp [keylessL, keyless, keylessL_map, *]; done)) (by kernel_rfl) rfl ?_
  intro w0 ρ0 hE
  conv => whnf
  (repeat (first | (rw [Nat.zero_add]; conv => whnf)))
  refine SW_loopN hE (fun k => k) [1, 2, 3, 9, 10] [1, 2] (fun m fr hp => ∃ i : Nat, m = r - i ∧ i ≤ j ∧ fr = [(1, .ptr 1 0 0 0), (2, .ptr 2 0 0 0), (3, .val (.bool false)), (9, iv r), (10, iv (i : Nat))] ∧
    hp = [(1, bS r (c + 1 : Nat) a b s), (2, zS)]) r ?_ ?_ ?_
  · kernel_rfl
  · exact ⟨0, rfl, Nat.zero_le _, rfl, rfl⟩
  rintro m _ _ ⟨i, rfl, hi, rfl, rfl⟩
  conv => whnf
  have hlt : i < r := by omega
  have t1 := dlt hlt
  have t2 := winc (i := i) (by omega)
  have k1 := b_at ha hlt (k := 0) (by omega)
  have k2 := c_Sign (elz a (c + 1) i 0)
  by_cases hij : i < j
  · rw [h i hij] at k1
    have k2 := c_Sign 0
    (repeat ((first | refine step_w1 rfl rfl ?_ | refine g_c (by assumption) ?_ | rw [t1] | rw [t2] | rw [Nat.zero_add]); conv => whnf))
    exact ⟨r - (i + 1), fun k => k, [1, 2, 3, 9, 10], [1, 2], by omega, by kernel_rfl, i + 1, rfl, hij, rfl, rfl⟩
  obtain rfl : i = j := by omega
  have t3 : ((elz a (c + 1) i 0).sign == 0) = false := beq_eq_false_iff_ne.2 fun e => h0 (Int.sign_eq_zero_iff_zero.1 e)
  by_cases hz : 0 < i
  · have t4 : decide ((i : Int) > 0) = true := decide_eq_true (by omega)
    rw [if_pos hz]
    have hl : a ≠ [] := by
      intro e; have := ha.n; rw [e] at this
      have h2 := idx_lt hlt (show 0 < c + 1 by omega)
      rw [← this] at h2; exact absurd h2 (Nat.not_lt_zero _)
    have k3 := b_Clone a (by have := ha.n; have : r * (c + 1) ≤ 2048 * 2048 := Nat.mul_le_mul hr hc; omega) hl
    have hn : a.length ≤ 2048 * 2048 := by rw [ha.n]; exact Nat.mul_le_mul hr hc
    (repeat ((first | refine step_w1 rfl rfl ?_ | refine step_w2 rfl rfl ?_ | refine g_c (by assumption) ?_ | refine g_cn (by assumption) rfl ?_ | rw [t1] | rw [t3] | rw [t4] | rw [Nat.zero_add]); conv => whnf))
    refine SW_loopN hE (fun k => k) [1, 2, 3, 4, 5, 9, 10, 27, 28] [1, 2, 2001] (fun m fr hp => ∃ k : Nat, m = c + 1 - k ∧ k ≤ c + 1 ∧ fr = [(1, .ptr 1 0 0 0), (2, .ptr 2 0 0 0), (3, .val (.bool false)), (4, iv (i : Nat)), (5, .slc 2001 3 0 a.length), (9, iv r), (10, iv (i : Nat)), (27, iv (c + 1 : Nat)), (28, iv (k : Nat))] ∧
      hp = [(1, bS r (c + 1 : Nat) a b s), (2, zS), (2001, zB3 (swk r (c + 1) a i k))]) (c + 1) ?_ ?_ ?_
    · kernel_rfl
    · exact ⟨0, rfl, Nat.zero_le _, rfl, by rw [swk_zero ha.n]; rfl⟩
    clear k1 k2 k3
    rintro m _ _ ⟨k, rfl, hk, rfl, rfl⟩
    conv => whnf
    by_cases hlk : k < c + 1
    · have t5 := dlt hlk
      have t6 := winc (i := k) (by omega)
      obtain ⟨w1, w2⟩ := idx_w (i := i) (k := k) (c := c + 1) (by omega) (by omega) (by omega)
      have hx := idx_lt hlt hlk
      have hk0 : k < r * (c + 1) := by have := idx_lt (show 0 < r by omega) hlk; omega
      have hsl := swk_len r (c + 1) a i k
      have g1 : ((swk r (c + 1) a i k).map SV.int).getD (i * (c + 1) + k) SV.any = .int (elz a (c + 1) i k) := by
        rw [map_getD (d := 0) (by rw [hsl]; exact hx)]
        exact congrArg SV.int (swk_at hlt hlk (Nat.le_refl _))
      have g2 : ((swk r (c + 1) a i k).map SV.int).getD k SV.any = .int (elz a (c + 1) 0 k) := by
        rw [map_getD (d := 0) (by rw [hsl]; exact hk0)]
        have := swk_at (a := a) (i := i) (p := 0) (q := k) (show 0 < r by omega) hlk (Nat.le_refl _)
        rw [elz, Nat.zero_mul, Nat.zero_add] at this
        exact congrArg SV.int this
      have hnl := ha.n
      have g3 : (((swk r (c + 1) a i k).map SV.int).set k (.int (elz a (c + 1) i k))).getD (i * (c + 1) + k) SV.any = .int (elz a (c + 1) i k) := by
        rw [← List.map_set, map_getD (d := 0) (by rw [List.length_set, hsl]; exact hx)]
        have hne : k ≠ i * (c + 1) + k := by have := Nat.mul_le_mul_right (c + 1) (show 1 ≤ i from hz); omega
        rw [List.getD_eq_getElem?_getD, List.getElem?_set_ne hne, ← List.getD_eq_getElem?_getD]
        exact congrArg SV.int (swk_at hlt hlk (Nat.le_refl _))
      (repeat ((first | refine step_w1 rfl rfl ?_ | refine step_i (by kernel_rfl) ?_ | refine step_oL (by first | omega | decide | (simp only [tl0, dlen, List.length_replicate, List.length_set, List.length_map, List.length_zipWith, List.length_take, List.length_append, List.length_cons, List.length_nil]; omega)) ?_ | refine step_oA (by first | omega | decide | (simp only [tl0, dlen, List.length_replicate, List.length_set, List.length_map, List.length_zipWith, List.length_take, List.length_append, List.length_cons, List.length_nil]; omega)) ?_ | rw [t5] | rw [w1] | rw [w2] | rw [g1] | rw [g2] | rw [g3] | rw [t6] | rw [Int.toNat_natCast] | rw [Nat.zero_add]); conv => whnf))
      refine ⟨c + 1 - (k + 1), fun k => k, [1, 2, 3, 4, 5, 9, 10, 27, 28], [1, 2, 2001], by omega, by kernel_rfl, k + 1, rfl, hlk, rfl, ?_⟩
      rw [← swk_set hlt hz hlk, zB3, List.map_set, List.map_set]
      rfl
    · have t5 := dge hlk
      obtain rfl : k = c + 1 := by omega
      rw [swk_all]
      have t7 : IntKind.i64.wrap (s + 1) = s + 1 := wrap_i64 (by omega) (by omega)
      (repeat (first | (refine step_w2 rfl rfl ?_; conv => whnf) | (rw [t5]; conv => whnf) | (rw [t7]; conv => whnf)))
      refine Frz.tup (FrzL.cons (FrzC.via (fun _ _ => nest3) rfl (FrzC.agg (FrzL.cons (FrzC.agg ?_) (FrzL.cons (FrzC.keyless rfl) (FrzL.cons (FrzC.keyless rfl) FrzL.nil))))) (FrzL.cons (FrzC.keyless rfl) FrzL.nil))
      exact FrzL.cons (FrzC.keyless rfl) (FrzL.cons (FrzC.keyless rfl) (FrzL.cons (FrzC.seq rfl (keylessL_map (fun _ => rfl) _) (by rw [List.length_map, mkz_len]; exact ha.n)) FrzL.nil))
  · obtain rfl : i = 0 := by omega
    have t4 : decide (((0 : Nat) : Int) > 0) = false := decide_eq_false (by omega)
    rw [if_neg hz, swapZ_self, mkz_self ha.n]
    (repeat ((first | refine step_w1 rfl rfl ?_ | refine step_w2 rfl rfl ?_ | refine g_c (by assumption) ?_ | rw [t1] | rw [t3]); conv => whnf))
    (first | exact Recast.refl _ | exact Frz.recast (Recast.refl _) rfl | (refine Frz.one rfl rfl ?_; skip) | (refine Frz.tup ?_; skip))
end Go.Proofs.YtkpfineikahgfaaGreatDoor

namespace Go.Proofs.YtkpfineikahgfaaGreatDoor
open Go.Sx
set_option linter.unusedSimpArgs false
set_option linter.unusedVariables false
set_option maxRecDepth 100000
set_option maxHeartbeats 4000000

/-- A row with a first element, or none. -/
theorem piv_or (a : List Int) (c r : Nat) : (∀ i, i < r → elz a c i 0 = 0) ∨ ∃ i, i < r ∧ elz a c i 0 ≠ 0 ∧ ∀ j, j < i → elz a c j 0 = 0 := by
  induction r with
  | zero => exact .inl fun i hi => by omega
  | succ r ih =>
    rcases ih with h | ⟨i, h1, h2⟩
    · by_cases g : elz a c r 0 = 0
      · refine .inl fun i hi => ?_
        by_cases e : i = r
        · rw [e, g]
        · exact h i (by omega)
      · exact .inr ⟨r, by omega, g, h⟩
    · exact .inr ⟨i, by omega, h2⟩
/-- What holds at stage s. -/
structure StOK (n s B : Nat) (A0 : Mz) (a : List Int) (b : Int) (w : Nat) : Prop where
  le : s ≤ n
  ex : ∃ A : Mz, a = mkz (n - s) (n - s) (bmZ s A) ∧ b = detZ s A ∧ b ≠ 0 ∧ detZ n A0 = sgZ w * detZ n A
  z : Zm (B * 4 ^ s) a
  zb : zs b ≤ B * 4 ^ s
  w : w ≤ s
theorem StOK.start {n B : Nat} {a : List Int} (ha : a.length = n * n) (hB : 2 ≤ B) (h : Zm B a) : StOK n 0 B (elz a n) a 1 0 where
  le := Nat.zero_le _
  ex := ⟨elz a n, by rw [← mkz_self ha, Nat.sub_zero]; exact mkz_congr fun i k hi hk => by rw [bmZ_zero, mkz_el hi hk], rfl, by decide, by rw [sgZ, Int.one_mul]⟩
  z := by rw [Nat.pow_zero, Nat.mul_one]; exact h
  zb := by rw [zs_1]; omega
  w := Nat.le_refl _
theorem StOK.fin {n B : Nat} {A0 : Mz} {a : List Int} {b : Int} {w : Nat} (h : StOK n n B A0 a b w) : detZ n A0 = if w % 2 = 1 then -b else b := by
  obtain ⟨A, _, rfl, _, e⟩ := h.ex
  rw [e, sgZ_mod]
  split <;> omega
theorem StOK.none {n s B : Nat} {A0 : Mz} {a : List Int} {b : Int} {w : Nat} (h : StOK n s B A0 a b w) (hs : s < n) (h0 : ∀ i, i < n - s → elz a (n - s) i 0 = 0) : detZ n A0 = 0 := by
  obtain ⟨A, rfl, rfl, hb, e⟩ := h.ex
  rw [e, bmZ_sing hb hs fun i hi => by have := h0 i (by omega); rwa [mkz_el (by omega) (by omega)] at this, Int.mul_zero]
/-- The stage with a row brought to the top. -/
theorem StOK.turn {n s B : Nat} {A0 : Mz} {a : List Int} {b : Int} {w j : Nat} (h : StOK n s B A0 a b w) (hj : s + j < n) :
    ∃ w', w' = (if 0 < j then w + 1 else w) ∧ (∃ A : Mz, mkz (n - s) (n - s) (swapZ (elz a (n - s)) 0 j) = mkz (n - s) (n - s) (bmZ s A) ∧ b = detZ s A ∧ b ≠ 0 ∧ detZ n A0 = sgZ w' * detZ n A) ∧ Zm (B * 4 ^ s) (mkz (n - s) (n - s) (swapZ (elz a (n - s)) 0 j)) := by
  obtain ⟨A, ha, hb, hb0, e⟩ := h.ex
  have hl : a.length = (n - s) * (n - s) := by rw [ha, mkz_len]
  refine ⟨_, rfl, ⟨swapZ A s (s + j), ?_, ?_, hb0, ?_⟩, ?_⟩
  · refine mkz_congr fun p q hp hq => ?_
    rw [bmZ_swap]
    have e2 : ∀ p, p < n - s → elz a (n - s) p q = bmZ s A p q := fun p hp => by rw [ha, mkz_el hp hq]
    unfold swapZ
    by_cases h1 : p = 0
    · rw [if_pos h1, if_pos h1, e2 j (by omega)]
    · rw [if_neg h1, if_neg h1]
      by_cases h2 : p = j
      · rw [if_pos h2, if_pos h2, e2 0 (by omega)]
      · rw [if_neg h2, if_neg h2, e2 p hp]
  · rw [detZ_swap_lead, hb]
  · by_cases g : 0 < j
    · rw [if_pos g, detZ_swap A (by omega) hj (by omega), sgZ, e, Int.neg_mul_neg]
    · rw [if_neg g, show s + j = s by omega, swapZ_self, e]
  · refine Zm_mk fun p q hp hq => ?_
    unfold swapZ
    split
    · exact elz_zm h.z hl (by omega) hq
    · split
      · exact elz_zm h.z hl (by omega) hq
      · exact elz_zm h.z hl hp hq
theorem StOK.next {n s B : Nat} {A0 : Mz} {a : List Int} {b : Int} {w : Nat} (hs : s < n) (hw : w ≤ s + 1) (hz : Zm (B * 4 ^ s) a) (hx : ∃ A : Mz, a = mkz (n - s) (n - s) (bmZ s A) ∧ b = detZ s A ∧ b ≠ 0 ∧ detZ n A0 = sgZ w * detZ n A) (h0 : elz a (n - s) 0 0 ≠ 0) :
    StOK n (s + 1) B A0 (nxt (n - (s + 1)) (n - (s + 1)) a b) (elz a (n - s) 0 0) w := by
  obtain ⟨A, ha, hb, hb0, e⟩ := hx
  have hl : a.length = (n - s) * (n - s) := by rw [ha, mkz_len]
  have hn : n - s = n - (s + 1) + 1 := by omega
  have e2 : ∀ p q, p < n - s → q < n - s → elz a (n - s) p q = bmZ s A p q := fun p q hp hq => by rw [ha, mkz_el hp hq]
  have hpow : B * 4 ^ (s + 1) = 4 * (B * 4 ^ s) := by rw [Nat.pow_succ]; rw [← Nat.mul_assoc, Nat.mul_comm]
  refine ⟨hs, ⟨A, ?_, ?_, h0, e⟩, ?_, ?_, hw⟩
  · refine mkz_congr fun i k hi hk => ?_
    rw [crZ, ← hn, e2 0 0 (by omega) (by omega), e2 (i + 1) (k + 1) (by omega) (by omega), e2 (i + 1) 0 (by omega) (by omega), e2 0 (k + 1) (by omega) (by omega), hb]
    exact bmZ_div (by rwa [hb] at hb0) i k
  · rw [e2 0 0 (by omega) (by omega), bmZ_first]
  · rw [hpow]
    refine Zm_mk fun i k hi hk => Nat.le_trans (zs_div _ _) ?_
    exact crZ_zs hz (by rw [hl, hn]) hi hk
  · rw [hpow]
    have := elz_zm hz hl (i := 0) (k := 0) (by omega) (by omega); omega
end Go.Proofs.YtkpfineikahgfaaGreatDoor

namespace Go.Proofs.YtkpfineikahgfaaGreatDoor
open Go.Sx
set_option linter.unusedSimpArgs false
set_option linter.unusedVariables false
set_option maxRecDepth 100000
set_option maxHeartbeats 40000000


abbrev zIB : Blk := ⟨36, true, .one [.int 0]⟩
theorem b_det {n B : Nat} {a : List Int} (ha : OKZ n n a) (hB : 2 ≤ B) (za : Zm B a) (hn : n ≤ 40) (hb : 2 * (B * 4 ^ n) ≤ 1073741824) : CallOK Tryz.prog 96 [wA n n a] [] (.int (detZ n (elz a n))) [] [] := by
  have k0 := b_begin n n a
  have hs0 := StOK.start ha.n hB za
  generalize elz a n = A0 at *
  refine callV (Z := [1]) tabOK mixedOK Tryz.func96 rfl (by kernel_rfl) rfl rfl (by kernel_rfl) rfl ?_
  intro W0 w0 ρ0 hE
  conv => whnf
  (repeat (first | (refine g_c (by assumption) ?_; conv => whnf) | (refine g_o (op_loadA rfl (ev_ok rfl) (tgt rfl) rfl (Nat.succ_ne_zero _) rfl) ?_; conv => whnf)))
  refine SW_loopN hE (fun k => k) [2, 3] [2, 3] (fun m fr hp => ∃ (s : Nat) (a : List Int) (b : Int) (w : Nat), s + m = n ∧ StOK n s B A0 a b w ∧ fr = [(2, .ptr 2 0 0 0), (3, .ptr 3 0 0 0)] ∧
    hp = [(2, zIB), (3, bS m m a b w)]) n ?_ ?_ ?_
  · kernel_rfl
  · exact ⟨0, a, 1, 0, Nat.zero_add n, hs0, rfl, rfl⟩
  clear hs0 ha za k0
  rintro m _ _ ⟨s, a, b, w, hm, hst, rfl, rfl⟩
  conv => whnf
  cases m with
  | zero =>
    have t1 : decide (((0 : Nat) : Int) > 0) = false := by decide
    obtain rfl : s = n := hm
    have e := hst.fin
    have hw := hst.w
    have e3 : ((w : Nat) : Int).tmod 2 = (w : Int) % 2 := Int.tmod_eq_emod_of_nonneg (Int.natCast_nonneg _)
    by_cases hodd : w % 2 = 1
    · rw [if_pos hodd] at e
      rw [e]
      have k1 := c_Neg b
      have t2 : (((w : Nat) : Int).tmod 2 == 1) = true := by rw [e3]; exact beq_iff_eq.2 (by omega)
      (repeat ((first | refine step_w1 rfl rfl ?_ | refine step_w2 rfl rfl ?_ | refine step_oN (by first | omega | decide | (simp only [tl0, dlen, List.length_replicate, List.length_set, List.length_map, List.length_zipWith, List.length_take, List.length_append, List.length_cons, List.length_nil]; omega)) ?_ | refine g_c (by assumption) ?_ | rw [t1] | rw [t2]); conv => whnf)); (first | exact Recast.refl _ | exact Frz.recast (Recast.refl _) rfl | (refine Frz.one rfl rfl ?_; skip) | (refine Frz.tup ?_; skip))
    · rw [if_neg hodd] at e
      rw [e]
      have t2 : (((w : Nat) : Int).tmod 2 == 1) = false := by rw [e3]; exact beq_eq_false_iff_ne.2 (by omega)
      (repeat ((first | refine step_w2 rfl rfl ?_ | refine step_oN (by first | omega | decide | (simp only [tl0, dlen, List.length_replicate, List.length_set, List.length_map, List.length_zipWith, List.length_take, List.length_append, List.length_cons, List.length_nil]; omega)) ?_ | rw [t1] | rw [t2]); conv => whnf)); (first | exact Recast.refl _ | exact Frz.recast (Recast.refl _) rfl | (refine Frz.one rfl rfl ?_; skip) | (refine Frz.tup ?_; skip))
  | succ k =>
    have t1 : decide (((k + 1 : Nat) : Int) > 0) = true := decide_eq_true (by omega)
    have hns : n - s = k + 1 := by omega
    have hok : OKZ (k + 1) (k + 1) a := ⟨by omega, by omega, by obtain ⟨A, e, _⟩ := hst.ex; rw [e, mkz_len, hns]⟩
    rcases piv_or a (k + 1) (k + 1) with h0 | ⟨j, hj, hj0, hjb⟩
    · have k1 := b_turned_no (b := b) (s := w) hok h0
      have e := hst.none (by omega) (by rw [hns]; exact h0)
      rw [e]
      (repeat (first | (refine step_w1 rfl rfl ?_; conv => whnf) | (refine g_c (by assumption) ?_; conv => whnf) | (rw [t1]; conv => whnf))); (first | exact Recast.refl _ | exact Frz.recast (Recast.refl _) rfl | (refine Frz.one rfl rfl ?_; skip) | (refine Frz.tup ?_; skip))
    · have hpow : B * 4 ^ s * 4 ≤ B * 4 ^ n := by
        have : B * 4 ^ (s + 1) ≤ B * 4 ^ n := Nat.mul_le_mul_left B (Nat.pow_le_pow_right (by decide) (by omega))
        rwa [Nat.pow_succ, ← Nat.mul_assoc] at this
      have hzb := hst.zb
      have hw := hst.w
      have k1 := b_turned (b := b) (s := (w : Nat)) hok hj hjb hj0 (by omega)
      obtain ⟨w', ew, hx, hz⟩ := hst.turn (j := j) (by omega)
      rw [hns] at hx hz
      rw [show (if 0 < j then ((w : Nat) : Int) + 1 else (w : Nat)) = ((w' : Nat) : Int) from by rw [ew]; split <;> simp] at k1
      have hok' : OKZ (k + 1) (k + 1) (mkz (k + 1) (k + 1) (swapZ (elz a (k + 1)) 0 j)) := OKZ.mk' (by omega) (by omega) _
      have h00 : elz (mkz (k + 1) (k + 1) (swapZ (elz a (k + 1)) 0 j)) (k + 1) 0 0 ≠ 0 := by
        rw [mkz_el (by omega) (by omega)]; exact hj0
      have hw' : w' ≤ s + 1 := by rw [ew]; split <;> omega
      generalize mkz (k + 1) (k + 1) (swapZ (elz a (k + 1)) 0 j) = a' at *
      have k2 := b_next (b := b) (s := (w' : Nat)) hok' hz (by omega)
      have hnx := StOK.next (B := B) (A0 := A0) (a := a') (b := b) (w := w') (s := s) (n := n) (by omega) hw' hz (by rw [hns]; exact hx) (by rw [hns]; exact h00)
      rw [hns, show n - (s + 1) = k by omega] at hnx
      clear hst hx hz hok hok' hpow hzb
      (repeat ((first | refine step_w1 rfl rfl ?_ | refine step_w2 rfl rfl ?_ | refine g_c (by assumption) ?_ | rw [t1] | rw [Nat.zero_add]); conv => whnf))
      exact ⟨k, fun k => k, [2, 3], [2, 3], by omega, by kernel_rfl, s + 1, _, _, w', by omega, hnx, rfl, rfl⟩
end Go.Proofs.YtkpfineikahgfaaGreatDoor

namespace Go.Proofs.YtkpfineikahgfaaGreatDoor
open Go.Sx
set_option linter.unusedSimpArgs false
set_option linter.unusedVariables false
set_option maxRecDepth 100000
set_option maxHeartbeats 40000000

theorem b_over64 (F : Int → Int) (g : FuncId)  (l : List Int) (hl : l.length < 1099511627776) (hf : ∀ i, i < l.length → CallOK Tryz.prog g ([] ++ ([iv (l.getD i 0)] ++ [])) [] (.int (F (l.getD i 0))) [] []) :
    CallOK Tryz.prog 187 [ivec .i64 l, .clo g [] []] [] (zvec (l.map F)) [] [] := by
  have hz : (l.map F).length = l.length := List.length_map _
  refine callF (Z := []) tabOK mixedOK Tryz.func187 rfl (by kernel_rfl) (by first | rfl | (simp [keylessL, keyless, keylessL_map, *]; done)) (by first | rfl | (simp [keylessL, keyless, keylessL_map, *]; done)) (by kernel_rfl) rfl ?_
  intro w0 ρ0 hE
  conv => whnf
  (repeat (first | (refine step_oA (by first | omega | decide | (simp only [tl0, dlen, List.length_replicate, List.length_set, List.length_map, List.length_zipWith, List.length_take, List.length_append, List.length_cons, List.length_nil]; omega)) ?_; conv => whnf) | (refine g_o (op_lenM rfl rfl rfl (ev_ok rfl) (tgt rfl) rfl) ?_; conv => whnf) | (rw [Int.toNat_natCast]; conv => whnf)))
  refine SW_loopN hE (fun k => k) [1, 4, 5, 11, 12, 13] [10] (fun m fr hp => ∃ i, m = l.length - i ∧ i ≤ l.length ∧ fr = [(1, .clo g [] []), (4, .val (.slice none 0 0)), (5, .slc 10 3 0 l.length), (11, ivec .i64 l), (12, iv (l.length : Nat)), (13, iv (i : Nat))] ∧
    hp = [(10, zfil (l.map F) l.length i)]) l.length ?_ ?_ ?_
  · kernel_rfl
  · exact ⟨0, rfl, Nat.zero_le _, rfl, by rw [zfil, List.take_zero]; rfl⟩
  rintro m _ _ ⟨i, rfl, hi, rfl, rfl⟩
  conv => whnf
  have hlen := zfil_len hi hz
  by_cases hlt : i < l.length
  · have t1 := dlt hlt
    have t2 := winc (i := i) (by omega)
    have t3 := zfil_get hlt hz
    have k1 := hf i hlt
    rw [← map_getD (f := F) (d := 0) (e := 0) hlt] at k1
    (repeat ((first | refine step_oL (by first | omega | decide | (simp only [tl0, dlen, List.length_replicate, List.length_set, List.length_map, List.length_zipWith, List.length_take, List.length_append, List.length_cons, List.length_nil]; omega)) ?_ | refine step_oA (by first | omega | decide | (simp only [tl0, dlen, List.length_replicate, List.length_set, List.length_map, List.length_zipWith, List.length_take, List.length_append, List.length_cons, List.length_nil]; omega)) ?_ | refine g_c (by assumption) ?_ | refine tst_tt t1 ?_ | refine g_o (op_loadA rfl (ev_ok rfl) (tgt rfl) rfl (Nat.succ_ne_zero _) rfl) ?_ | refine g_o (op_indexN (α := Int) (d := 0) rfl (ev_ok rfl) (ev_ok rfl) (tgt rfl) rfl (tgt rfl) rfl (by omega)) ?_ | rw [t1] | rw [t3] | rw [t2] | rw [Int.toNat_natCast] | rw [Nat.zero_add]); conv => whnf))
    refine ⟨l.length - (i + 1), fun k => k, [1, 4, 5, 11, 12, 13], [10], by omega, by kernel_rfl, i + 1, rfl, hlt, rfl, ?_⟩
    rw [zfil, ← zfil_set hlt hz]
    rfl
  · have t1 := dge hlt
    have hI : i = l.length := by omega
    subst hI
    rw [zfil_all hz]
    (repeat (first | (refine tst_ff t1 ?_; conv => whnf))); (first | exact Recast.refl _ | exact Frz.recast (Recast.refl _) rfl | (refine Frz.one rfl rfl ?_; (repeat (first | (refine FrzC.seq rfl (by first | rfl | (apply keylessL_map; intro _; rfl)) ?_; (first | rfl | omega | (simp <;> fail) | (simp <;> omega)))))) | (refine Frz.tup ?_; skip))
theorem b_over1 (F : Int → Int) (g : FuncId) (p : Pred) (l : List Int) (hl : l.length < 1099511627776) (hf : ∀ i, i < l.length → CallOK Tryz.prog g ([] ++ ([iv (l.getD i 0)] ++ [.atom p])) [] (.int (F (l.getD i 0))) [] []) :
    CallOK Tryz.prog 116 [ivec .i64 l, .clo g [] [.atom p]] [] (zvec (l.map F)) [] [] := by
  have hz : (l.map F).length = l.length := List.length_map _
  refine callF (Z := []) tabOK mixedOK Tryz.func116 rfl (by kernel_rfl) (by first | rfl | (simp [keylessL, keyless, keylessL_map, *]; done)) (by first | rfl | (simp [keylessL, keyless, keylessL_map, *]; done)) (by kernel_rfl) rfl ?_
  intro w0 ρ0 hE
  conv => whnf
  (repeat (first | (refine step_oA (by first | omega | decide | (simp only [tl0, dlen, List.length_replicate, List.length_set, List.length_map, List.length_zipWith, List.length_take, List.length_append, List.length_cons, List.length_nil]; omega)) ?_; conv => whnf) | (refine g_o (op_lenM rfl rfl rfl (ev_ok rfl) (tgt rfl) rfl) ?_; conv => whnf) | (rw [Int.toNat_natCast]; conv => whnf)))
  refine SW_loopN hE (fun k => k) [1, 4, 5, 11, 12, 13] [10] (fun m fr hp => ∃ i, m = l.length - i ∧ i ≤ l.length ∧ fr = [(1, .clo g [] [.atom p]), (4, .val (.slice none 0 0)), (5, .slc 10 3 0 l.length), (11, ivec .i64 l), (12, iv (l.length : Nat)), (13, iv (i : Nat))] ∧
    hp = [(10, zfil (l.map F) l.length i)]) l.length ?_ ?_ ?_
  · kernel_rfl
  · exact ⟨0, rfl, Nat.zero_le _, rfl, by rw [zfil, List.take_zero]; rfl⟩
  rintro m _ _ ⟨i, rfl, hi, rfl, rfl⟩
  conv => whnf
  have hlen := zfil_len hi hz
  by_cases hlt : i < l.length
  · have t1 := dlt hlt
    have t2 := winc (i := i) (by omega)
    have t3 := zfil_get hlt hz
    have k1 := hf i hlt
    rw [← map_getD (f := F) (d := 0) (e := 0) hlt] at k1
    (repeat ((first | refine step_oL (by first | omega | decide | (simp only [tl0, dlen, List.length_replicate, List.length_set, List.length_map, List.length_zipWith, List.length_take, List.length_append, List.length_cons, List.length_nil]; omega)) ?_ | refine step_oA (by first | omega | decide | (simp only [tl0, dlen, List.length_replicate, List.length_set, List.length_map, List.length_zipWith, List.length_take, List.length_append, List.length_cons, List.length_nil]; omega)) ?_ | refine g_c (by assumption) ?_ | refine tst_tt t1 ?_ | refine g_o (op_loadA rfl (ev_ok rfl) (tgt rfl) rfl (Nat.succ_ne_zero _) rfl) ?_ | refine g_o (op_indexN (α := Int) (d := 0) rfl (ev_ok rfl) (ev_ok rfl) (tgt rfl) rfl (tgt rfl) rfl (by omega)) ?_ | rw [t1] | rw [t3] | rw [t2] | rw [Int.toNat_natCast] | rw [Nat.zero_add]); conv => whnf))
    refine ⟨l.length - (i + 1), fun k => k, [1, 4, 5, 11, 12, 13], [10], by omega, by kernel_rfl, i + 1, rfl, hlt, rfl, ?_⟩
    rw [zfil, ← zfil_set hlt hz]
    rfl
  · have t1 := dge hlt
    have hI : i = l.length := by omega
    subst hI
    rw [zfil_all hz]
    (repeat (first | (refine tst_ff t1 ?_; conv => whnf))); (first | exact Recast.refl _ | exact Frz.recast (Recast.refl _) rfl | (refine Frz.one rfl rfl ?_; (repeat (first | (refine FrzC.seq rfl (by first | rfl | (apply keylessL_map; intro _; rfl)) ?_; (first | rfl | omega | (simp <;> fail) | (simp <;> omega)))))) | (refine Frz.tup ?_; skip))
theorem b_over2 (F : Int → Int) (g : FuncId) (p q : Pred) (l : List Int) (hl : l.length < 1099511627776) (hf : ∀ i, i < l.length → CallOK Tryz.prog g ([] ++ ([iv (l.getD i 0)] ++ [.atom p, .atom q])) [] (.int (F (l.getD i 0))) [] []) :
    CallOK Tryz.prog 116 [ivec .i64 l, .clo g [] [.atom p, .atom q]] [] (zvec (l.map F)) [] [] := by
  have hz : (l.map F).length = l.length := List.length_map _
  refine callF (Z := []) tabOK mixedOK Tryz.func116 rfl (by kernel_rfl) (by first | rfl | (simp [keylessL, keyless, keylessL_map, *]; done)) (by first | rfl | (simp [keylessL, keyless, keylessL_map, *]; done)) (by kernel_rfl) rfl ?_
  intro w0 ρ0 hE
  conv => whnf
  (repeat (first | (refine step_oA (by first | omega | decide | (simp only [tl0, dlen, List.length_replicate, List.length_set, List.length_map, List.length_zipWith, List.length_take, List.length_append, List.length_cons, List.length_nil]; omega)) ?_; conv => whnf) | (refine g_o (op_lenM rfl rfl rfl (ev_ok rfl) (tgt rfl) rfl) ?_; conv => whnf) | (rw [Int.toNat_natCast]; conv => whnf)))
  refine SW_loopN hE (fun k => k) [1, 4, 5, 11, 12, 13] [10] (fun m fr hp => ∃ i, m = l.length - i ∧ i ≤ l.length ∧ fr = [(1, .clo g [] [.atom p, .atom q]), (4, .val (.slice none 0 0)), (5, .slc 10 3 0 l.length), (11, ivec .i64 l), (12, iv (l.length : Nat)), (13, iv (i : Nat))] ∧
    hp = [(10, zfil (l.map F) l.length i)]) l.length ?_ ?_ ?_
  · kernel_rfl
  · exact ⟨0, rfl, Nat.zero_le _, rfl, by rw [zfil, List.take_zero]; rfl⟩
  rintro m _ _ ⟨i, rfl, hi, rfl, rfl⟩
  conv => whnf
  have hlen := zfil_len hi hz
  by_cases hlt : i < l.length
  · have t1 := dlt hlt
    have t2 := winc (i := i) (by omega)
    have t3 := zfil_get hlt hz
    have k1 := hf i hlt
    rw [← map_getD (f := F) (d := 0) (e := 0) hlt] at k1
    (repeat ((first | refine step_oL (by first | omega | decide | (simp only [tl0, dlen, List.length_replicate, List.length_set, List.length_map, List.length_zipWith, List.length_take, List.length_append, List.length_cons, List.length_nil]; omega)) ?_ | refine step_oA (by first | omega | decide | (simp only [tl0, dlen, List.length_replicate, List.length_set, List.length_map, List.length_zipWith, List.length_take, List.length_append, List.length_cons, List.length_nil]; omega)) ?_ | refine g_c (by assumption) ?_ | refine tst_tt t1 ?_ | refine g_o (op_loadA rfl (ev_ok rfl) (tgt rfl) rfl (Nat.succ_ne_zero _) rfl) ?_ | refine g_o (op_indexN (α := Int) (d := 0) rfl (ev_ok rfl) (ev_ok rfl) (tgt rfl) rfl (tgt rfl) rfl (by omega)) ?_ | rw [t1] | rw [t3] | rw [t2] | rw [Int.toNat_natCast] | rw [Nat.zero_add]); conv => whnf))
    refine ⟨l.length - (i + 1), fun k => k, [1, 4, 5, 11, 12, 13], [10], by omega, by kernel_rfl, i + 1, rfl, hlt, rfl, ?_⟩
    rw [zfil, ← zfil_set hlt hz]
    rfl
  · have t1 := dge hlt
    have hI : i = l.length := by omega
    subst hI
    rw [zfil_all hz]
    (repeat (first | (refine tst_ff t1 ?_; conv => whnf))); (first | exact Recast.refl _ | exact Frz.recast (Recast.refl _) rfl | (refine Frz.one rfl rfl ?_; (repeat (first | (refine FrzC.seq rfl (by first | rfl | (apply keylessL_map; intro _; rfl)) ?_; (first | rfl | omega | (simp <;> fail) | (simp <;> omega)))))) | (refine Frz.tup ?_; skip))
theorem b_Of {r c : Nat} {l : List Int} (hr : r ≤ 2048) (hc : c ≤ 2048) (hl : l.length = r * c) (h : ∀ i, i < l.length → -9223372036854775808 ≤ l.getD i 0 ∧ l.getD i 0 < 9223372036854775808) :
    CallOK Tryz.prog 90 [iv r, iv c, ivec .i64 l] [] (.tup [wA r c l, iv 0]) [] [] := by
  have hb : l.length < 1099511627776 := by have : r * c ≤ 2048 * 2048 := Nat.mul_le_mul hr hc; omega
  have k1 := b_over64 (fun x => x) 36 l hb (fun i hi => c_iOf _ (h i hi).1 (h i hi).2)
  rw [List.map_id'] at k1
  have k2 := b_Check r c l hb (fun i hi => Nat.le_trans (zs_i64 (h i hi).1 (h i hi).2) (by decide))
  rw [check_ok hr hc hl] at k2
  refine callV (Z := []) tabOK mixedOK Tryz.func90 rfl (by kernel_rfl) rfl rfl (by kernel_rfl) rfl ?_
  intro W0 w0 ρ0 hE
  conv => whnf
  (repeat (first | (refine step_w2 rfl rfl ?_; conv => whnf) | (refine g_c (by assumption) ?_; conv => whnf))); (first | exact Recast.refl _ | exact Frz.recast (Recast.refl _) rfl | (refine Frz.one rfl rfl ?_; skip) | (refine Frz.tup ?_; skip))
theorem b_Text (r c : Int) (l : List Int) (hl : l.length < 1099511627776) (h : ∀ i, i < l.length → zs (l.getD i 0) ≤ 536870912) {t : ByteArray} (ht : CallOK Tryz.prog 80 [mA r c (ofInts l)] [] (.val (.string t)) [] []) :
    CallOK Tryz.prog 48 [wA r c l] [] (.val (.string t)) [] [] := by
  have k1 := b_mat r c l hl h
  refine callV (Z := []) tabOK mixedOK Tryz.func48 rfl (by kernel_rfl) rfl rfl (by kernel_rfl) rfl ?_
  intro W0 w0 ρ0 hE
  conv => whnf
  (repeat (first | (refine g_c (by assumption) ?_; conv => whnf))); (first | exact Recast.refl _ | exact Frz.recast (Recast.refl _) rfl | (refine Frz.one rfl rfl ?_; skip) | (refine Frz.tup ?_; skip))

/-- The product of integers. -/
def pZ (l : List Int) : Int := l.foldl (· * ·) 1
theorem pZ_take {l : List Int} {i : Nat} (hi : i < l.length) : pZ (l.take (i + 1)) = pZ (l.take i) * l.getD i 0 := by
  rw [pZ, List.take_add_one, List.getElem?_eq_getElem hi, List.foldl_append, List.getD_eq_getElem?_getD, List.getElem?_eq_getElem hi]; rfl
theorem pZ_zs {l : List Int} {B : Nat} (h : Zm B l) : ∀ i, i ≤ l.length → zs (pZ (l.take i)) ≤ 2 + i * B
  | 0, _ => by rw [List.take_zero, pZ, List.foldl_nil, zs_1]; omega
  | i + 1, hi => by
    have h1 := pZ_zs h i (by omega)
    have h2 := h i (by omega)
    have := zs_mul (pZ (l.take i)) (l.getD i 0)
    rw [pZ_take (by omega), Nat.succ_mul]; omega
theorem b_product {l : List Int} {B : Nat} (hz : Zm B l) (hl : l.length < 1099511627776) (hb : 2 + (l.length + 1) * B ≤ 1073741824) : CallOK Tryz.prog 115 [zvec l] [] (.int (pZ l)) [] [] := by
  have k0 := c_iOf 1 (by decide) (by decide)
  refine callV (Z := []) tabOK mixedOK Tryz.func115 rfl (by kernel_rfl) rfl rfl (by kernel_rfl) rfl ?_
  intro W0 w0 ρ0 hE
  conv => whnf
  (repeat (first | (refine g_c (by assumption) ?_; conv => whnf) | (refine g_o (op_lenM rfl rfl rfl (ev_ok rfl) (tgt rfl) rfl) ?_; conv => whnf)))
  refine SW_loopN hE (fun k => k) [2, 3, 7, 8, 9] [2, 3] (fun m fr hp => ∃ i, m = l.length - i ∧ i ≤ l.length ∧ fr = [(2, .ptr 2 0 0 0), (3, .ptr 3 0 0 0), (7, zvec l), (8, iv (l.length : Nat)), (9, iv (i : Nat))] ∧
    hp = [(2, zIB), (3, ⟨36, true, .one [.int (pZ (l.take i))]⟩)]) l.length ?_ ?_ ?_
  · kernel_rfl
  · exact ⟨0, rfl, Nat.zero_le _, rfl, rfl⟩
  clear k0
  rintro m _ _ ⟨i, rfl, hi, rfl, rfl⟩
  conv => whnf
  by_cases hlt : i < l.length
  · have t1 := dlt hlt
    have t2 := winc (i := i) (by omega)
    have h1 := pZ_zs hz i hi
    have h2 := hz i hlt
    have h3 : i * B ≤ l.length * B := Nat.mul_le_mul_right B hi
    rw [Nat.succ_mul] at hb
    have k1 := zz_Mul (pZ (l.take i)) (l.getD i 0) (by omega)
    (repeat ((first | refine g_c (by assumption) ?_ | refine tst_tt t1 ?_ | refine g_o (op_loadA rfl (ev_ok rfl) (tgt rfl) rfl (Nat.succ_ne_zero _) rfl) ?_ | refine g_o (op_indexN (α := Int) (d := 0) rfl (ev_ok rfl) (ev_ok rfl) (tgt rfl) rfl (tgt rfl) rfl (by omega)) ?_ | rw [t1] | rw [t2]); conv => whnf))
    exact ⟨l.length - (i + 1), fun k => k, [2, 3, 7, 8, 9], [2, 3], by omega, by kernel_rfl, i + 1, rfl, hlt, rfl, by rw [pZ_take hlt]; rfl⟩
  · have t1 := dge hlt
    rw [List.take_of_length_le (by omega)]
    (repeat (first | (refine tst_ff t1 ?_; conv => whnf))); (first | exact Recast.refl _ | exact Frz.recast (Recast.refl _) rfl | (refine Frz.one rfl rfl ?_; skip) | (refine Frz.tup ?_; skip))

/-- The sum of the sizes of a row's elements. -/
def rowZ (a : List Int) (c i : Nat) : Int := sumZ c fun k => ((elz a c i k).natAbs : Int)
theorem sumZ_zs {f : Nat → Int} {B : Nat} : ∀ n, (∀ i, i < n → zs (f i) ≤ B) → zs (sumZ n f) ≤ 1 + n * B
  | 0, _ => by rw [sumZ, zs_zero]; omega
  | n + 1, h => by
    have h1 := sumZ_zs n (fun i hi => h i (by omega))
    have h2 := h n (by omega)
    have := zs_add (sumZ n f) (f n)
    rw [sumZ, Nat.succ_mul]; omega
theorem b_Bound1 {r c B : Nat} {a : List Int} (ha : OKZ r c a) (za : Zm B a) (hb : 1 + (c + 1) * B ≤ 1073741824) {i : Nat} (hi : i < r) :
    CallOK Tryz.prog 117 ([] ++ ([iv (i : Nat)] ++ [ptrA (wC r c a)])) [] (.int (rowZ a c i)) [] [] := by
  have hc := ha.c
  refine callV (Z := []) tabOK mixedOK Tryz.func117 rfl (by kernel_rfl) rfl rfl (by kernel_rfl) rfl ?_
  intro W0 w0 ρ0 hE
  conv => whnf
  (repeat (first | (refine g_o (op_loadA rfl (ev_ok rfl) (tgt rfl) rfl (Nat.succ_ne_zero _) rfl) ?_; conv => whnf) | (refine g_o (op_fieldA rfl (ev_ok rfl) (tgt rfl) rfl rfl (Nat.succ_ne_zero _) rfl) ?_; conv => whnf)))
  refine SW_loopN hE (fun k => k) [0, 1, 3, 6, 7] [3] (fun m fr hp => ∃ k : Nat, m = c - k ∧ k ≤ c ∧ fr = [(0, iv (i : Nat)), (1, ptrA (wC r c a)), (3, .ptr 3 0 0 0), (6, iv c), (7, iv (k : Nat))] ∧
    hp = [(3, ⟨36, true, .one [.int (sumZ k fun k => ((elz a c i k).natAbs : Int))]⟩)]) c ?_ ?_ ?_
  · kernel_rfl
  · exact ⟨0, rfl, Nat.zero_le _, rfl, rfl⟩
  rintro m _ _ ⟨k, rfl, hk, rfl, rfl⟩
  conv => whnf
  by_cases hlt : k < c
  · have t1 := dlt hlt
    have t2 := winc (i := k) (by omega)
    have k1 := b_at ha hi hlt
    have k2 := c_Abs (elz a c i k)
    have k3 := c_From false (elz a c i k).natAbs
    have h1 := sumZ_zs (f := fun k => ((elz a c i k).natAbs : Int)) (B := B) k (fun j hj => by rw [zs_abs]; exact elz_zm za ha.n hi (by omega))
    have h2 := elz_zm za ha.n hi hlt
    have h3 : k * B ≤ c * B := Nat.mul_le_mul_right B hk
    rw [Nat.succ_mul] at hb
    rw [show signed false (elz a c i k).natAbs = ((elz a c i k).natAbs : Int) from rfl] at k3
    have k4 := zz_Add (sumZ k fun k => ((elz a c i k).natAbs : Int)) ((elz a c i k).natAbs : Int) (by rw [zs_abs]; omega)
    (repeat ((first | refine step_i (by kernel_rfl) ?_ | refine g_c (by assumption) ?_ | refine tst_tt t1 ?_ | refine g_o (op_loadA rfl (ev_ok rfl) (tgt rfl) rfl (Nat.succ_ne_zero _) rfl) ?_ | rw [t1] | rw [t2]); conv => whnf))
    exact ⟨c - (k + 1), fun k => k, [0, 1, 3, 6, 7], [3], by omega, by kernel_rfl, k + 1, rfl, hlt, rfl, rfl⟩
  · have t1 := dge hlt
    obtain rfl : k = c := by omega
    (repeat (first | (refine tst_ff t1 ?_; conv => whnf))); (first | exact Recast.refl _ | exact Frz.recast (Recast.refl _) rfl | (refine Frz.one rfl rfl ?_; skip) | (refine Frz.tup ?_; skip))
theorem b_Bound {r c B : Nat} {a : List Int} (ha : OKZ r c a) (za : Zm B a) (hB : B ≤ 536870912) (hb : 2 + (r + 1) * (1 + (c + 1) * B) ≤ 1073741824) :
    CallOK Tryz.prog 35 [wA r c a] [] (.tup [.int (pZ ((upN r).map fun x => rowZ a c x.toNat)), iv 0]) [] [] := by
  have hr := ha.r
  have hc := ha.c
  have hcb : 1 + (c + 1) * B ≤ 1073741824 := by
    have : 1 * (1 + (c + 1) * B) ≤ (r + 1) * (1 + (c + 1) * B) := Nat.mul_le_mul_right _ (by omega)
    omega
  have k0 := b_Check r c a (by have := ha.n; have : r * c ≤ 2048 * 2048 := Nat.mul_le_mul hr hc; omega) (fun i hi => Nat.le_trans (za i hi) hB)
  rw [check_ok hr hc ha.n] at k0
  have k1 := (b_upToV r [] hr (by simp)).wk (args := [iv r, .val (.slice none 0 0)]) (by repeat (first | exact WkL.nil | refine WkL.cons ?_ ?_ | exact Wk.nil | exact Wk.refl | refine Wk.agg ?_))
  rw [show upL r [] = upN r from List.append_nil _] at k1
  have hu : ∀ i, i < (upN r).length → (upN r).getD i 0 = i := fun i hi => by
    rw [upN_len] at hi
    have := upL_at (l := []) hi
    rwa [show upL r [] = upN r from List.append_nil _] at this
  have k2 := b_over1 (fun x => rowZ a c x.toNat) 117 (ptrP (wC r c a)) (upN r) (by rw [upN_len]; omega) (fun i hi => by
    rw [hu i hi]; rw [upN_len] at hi
    exact b_Bound1 ha za hcb hi)
  have hzm : Zm (1 + (c + 1) * B) ((upN r).map fun x => rowZ a c x.toNat) := by
    intro p hp
    rw [List.length_map] at hp
    rw [map_getD (d := 0) hp, hu p hp]
    rw [upN_len] at hp
    have := sumZ_zs (f := fun k => ((elz a c p k).natAbs : Int)) (B := B) c (fun j hj => by rw [zs_abs]; exact elz_zm za ha.n hp hj)
    exact Nat.le_trans this (Nat.add_le_add_left (Nat.mul_le_mul_right B (Nat.le_succ c)) 1)
  have k3 := b_product hzm (by rw [List.length_map, upN_len]; omega) (by rw [List.length_map, upN_len]; exact hb)
  refine callV (Z := [1]) tabOK mixedOK Tryz.func35 rfl (by kernel_rfl) rfl rfl (by kernel_rfl) rfl ?_
  intro W0 w0 ρ0 hE
  conv => whnf
  (repeat ((first | refine step_w2 rfl rfl ?_ | refine g_c (by assumption) ?_ | rw [bne_self_eq_false] | refine g_o (op_loadA rfl (ev_ok rfl) (tgt rfl) rfl (Nat.succ_ne_zero _) rfl) ?_ | refine g_o (op_fieldA rfl (ev_ok rfl) (tgt rfl) rfl rfl (Nat.succ_ne_zero _) rfl) ?_ | refine g_o (op_makeFunc rfl rfl rfl) ?_); conv => whnf)); (first | exact Recast.refl _ | exact Frz.recast (Recast.refl _) rfl | (refine Frz.one rfl rfl ?_; skip) | (refine Frz.tup ?_; skip))
end Go.Proofs.YtkpfineikahgfaaGreatDoor

namespace Go.Proofs.YtkpfineikahgfaaGreatDoor
open Go.Sx
set_option linter.unusedSimpArgs false
set_option linter.unusedVariables false
set_option maxRecDepth 100000
set_option maxHeartbeats 40000000

theorem upL_to {s i x : Nat} (hx : x < s + 1) : ((upL s [((s + i : Nat) : Int)]).getD x 0).toNat = at1 s i x := by
  unfold at1
  by_cases h : x < s
  · rw [upL_at h, if_pos h]; omega
  · obtain rfl : x = s := by omega
    rw [upL_last, if_neg h]; omega
theorem upL_in {s i r : Nat} (hi : s + i < r) : ∀ x, x < (upL s [((s + i : Nat) : Int)]).length → 0 ≤ (upL s [((s + i : Nat) : Int)]).getD x 0 ∧ (upL s [((s + i : Nat) : Int)]).getD x 0 < r := by
  intro x hx
  rw [upL_len] at hx
  by_cases h : x < s
  · rw [upL_at h]; omega
  · obtain rfl : x = s := by simp at hx; omega
    rw [upL_last]; omega
theorem Zm_el {a : List Int} {r c B : Nat} (za : Zm B a) (ha : a.length = r * c) {m n : Nat} {f g : Nat → Nat} (hf : ∀ i, i < m → f i < r) (hg : ∀ i, i < n → g i < c) : Zm B (mkz m n fun i k => elz a c (f i) (g k)) :=
  Zm_mk fun i k hi hk => elz_zm za ha (hf i hi) (hg k hk)
theorem b_Stage1 {r c s B : Nat} {a : List Int} (ha : OKZ r c a) (za : Zm B a) (hB : 2 ≤ B) (hs : s < 40) (hb : 2 * (B * 4 ^ (s + 1)) ≤ 1073741824) {i k : Nat} (hi : s + i < r) (hk : s + k < c) :
    CallOK Tryz.prog 95 ([] ++ ([iv (i : Nat), iv (k : Nat)] ++ [ptrA (wC r c a), ptrA [iv s]])) [] (.int (bmZ s (elz a c) i k)) [] [] := by
  have hr := ha.r
  have hc := ha.c
  have k1 := b_upToV s [((s + i : Nat) : Int)] (by omega) (by simp)
  have k2 := b_upToV s [((s + k : Nat) : Int)] (by omega) (by simp)
  have k3 := b_part ha (upL_in hi) (upL_in hk) (by rw [upL_len]; simp; omega) (by rw [upL_len]; simp; omega)
  have e : ∀ x, (upL s [((s + x : Nat) : Int)]).length = s + 1 := fun x => by rw [upL_len]; rfl
  rw [e, e] at k3
  have k4 := b_det (n := s + 1) (B := B) (a := mkz (s + 1) (s + 1) fun x y => elz a c ((upL s [((s + i : Nat) : Int)]).getD x 0).toNat ((upL s [((s + k : Nat) : Int)]).getD y 0).toNat) (OKZ.mk' (by omega) (by omega) _) hB
    (Zm_el za ha.n (fun x hx => by rw [upL_to hx]; unfold at1; split <;> omega) (fun x hx => by rw [upL_to hx]; unfold at1; split <;> omega)) (by omega) hb
  have ed : detZ (s + 1) (elz (mkz (s + 1) (s + 1) fun x y => elz a c ((upL s [((s + i : Nat) : Int)]).getD x 0).toNat ((upL s [((s + k : Nat) : Int)]).getD y 0).toNat) (s + 1)) = bmZ s (elz a c) i k :=
    detZ_congr fun x y hx hy => by rw [mkz_el hx hy, upL_to hx, upL_to hy]
  rw [ed] at k4
  have w1 : IntKind.i64.wrap ((s : Int) + (i : Int)) = ((s + i : Nat) : Int) := by rw [wrap_i64 (by omega) (by omega)]; omega
  have w2 : IntKind.i64.wrap ((s : Int) + (k : Int)) = ((s + k : Nat) : Int) := by rw [wrap_i64 (by omega) (by omega)]; omega
  refine callV (Z := [12, 18]) tabOK mixedOK Tryz.func95 rfl (by kernel_rfl) rfl rfl (by kernel_rfl) rfl ?_
  intro W0 w0 ρ0 hE
  conv => whnf
  (repeat ((first | refine step_i (by kernel_rfl) ?_ | refine g_c (by assumption) ?_ | refine g_o (op_loadA rfl (ev_ok rfl) (tgt rfl) rfl (Nat.succ_ne_zero _) rfl) ?_ | rw [w1] | rw [w2]); conv => whnf)); (first | exact Recast.refl _ | exact Frz.recast (Recast.refl _) rfl | (refine Frz.one rfl rfl ?_; skip) | (refine Frz.tup ?_; skip))
/-- The stage at which a minor is asked for. -/
abbrev stM (r c s : Nat) (a : List Int) : List Int := mkz (r - s) (c - s) (bmZ s (elz a c))
theorem b_Stage {r c s B : Nat} {a : List Int} (ha : OKZ r c a) (za : Zm B a) (hB : 2 ≤ B) (hs : s < 40) (hb : 2 * (B * 4 ^ (s + 1)) ≤ 1073741824) (hr' : s ≤ r) (hc' : s ≤ c) :
    CallOK Tryz.prog 24 [wA r c a, iv s] [] (.tup [wA (r - s : Nat) (c - s : Nat) (stM r c s a), iv 0]) [] [] := by
  have hr := ha.r
  have hc := ha.c
  have hBb : B ≤ B * 4 ^ (s + 1) := Nat.le_mul_of_pos_right B (Nat.pow_pos (by decide))
  have k0 := b_Check r c a (by have := ha.n; have : r * c ≤ 2048 * 2048 := Nat.mul_le_mul hr hc; omega) (fun i hi => Nat.le_trans (za i hi) (by omega))
  rw [check_ok hr hc ha.n] at k0
  have k1 := b_begin r c a
  have k5 := b_made2 (r := r - s) (c := c - s) (by omega) (by omega) (bmZ s (elz a c)) 95 (ptrP (wC r c a)) (ptrP [iv s]) (fun i k hi hk => b_Stage1 ha za hB hs hb (by omega) (by omega))
  have k6 := b_madeF (r := r - s) (c := c - s) (by omega) (by omega) (bmZ s (elz a c)) 93 ((r - s : Nat) : Int) ((c - s : Nat) : Int) (stM r c s a) (fun i k hi hk => by
      have := b_at (OKZ.mk' (r := r - s) (c := c - s) (by omega) (by omega) (bmZ s (elz a c))) hi hk
      rwa [mkz_el hi hk] at this)
  have t1 : decide ((s : Int) < 0) = false := decide_eq_false (by omega)
  have t2 : decide ((s : Int) > if (c : Int) < (r : Int) then (c : Int) else (r : Int)) = false := decide_eq_false (by split <;> omega)
  refine callV (Z := [2, 3]) tabOK mixedOK Tryz.func24 rfl (by kernel_rfl) rfl rfl (by kernel_rfl) rfl ?_
  intro W0 w0 ρ0 hE
  conv => whnf
  (repeat ((first | refine step_w1 rfl rfl ?_ | refine step_w2 rfl rfl ?_ | refine g_c (by assumption) ?_ | refine g_o (op_pickF rfl (ev_ok rfl) (ev_ok rfl)) ?_ | rw [bne_self_eq_false] | refine tst_ff t2 ?_ | refine g_o (op_loadA rfl (ev_ok rfl) (tgt rfl) rfl (Nat.succ_ne_zero _) rfl) ?_ | refine g_o (op_fieldA rfl (ev_ok rfl) (tgt rfl) rfl rfl (Nat.succ_ne_zero _) rfl) ?_ | rw [t1] | rw [t2]); conv => whnf))
  refine SW_loopN hE (fun k => k) [2, 3, 4, 5, 7, 29, 30] [4, 7] (fun m fr hp => ∃ (i R C : Nat), m = s - i ∧ i ≤ s ∧ i + R = r ∧ i + C = c ∧ (∀ j, j ≤ i → detZ j (elz a c) ≠ 0) ∧ Zm (B * 4 ^ i) (mkz R C (bmZ i (elz a c))) ∧ zs (detZ i (elz a c)) ≤ B * 4 ^ i ∧
    fr = [(2, ptrA (wC r c a)), (3, ptrA [iv s]), (4, .ptr 4 0 0 0), (5, iv 0), (7, .ptr 7 0 0 0), (29, iv s), (30, iv (i : Nat))] ∧
    hp = [(4, zW), (7, bS R C (mkz R C (bmZ i (elz a c))) (detZ i (elz a c)) 0)]) s ?_ ?_ ?_
  · kernel_rfl
  · have e : mkz r c (bmZ 0 (elz a c)) = a := mkz_ext ha.n fun i k hi hk => bmZ_zero _ _ _
    refine ⟨0, r, c, rfl, Nat.zero_le _, Nat.zero_add _, Nat.zero_add _, (fun j hj => by rw [show j = 0 by omega]; exact (show (1 : Int) ≠ 0 by decide)), ?_, ?_, rfl, ?_⟩
    · rw [e, Nat.pow_zero, Nat.mul_one]; exact za
    · rw [show detZ 0 (elz a c) = 1 from rfl, zs_1]; omega
    · rw [e]; rfl
  clear k1 k0
  rintro m _ _ ⟨i, R, C, rfl, hi, hR, hC, hne, hz, hzb, rfl, rfl⟩
  conv => whnf
  by_cases hlt : i < s
  · have t3 := dlt hlt
    have t4 := winc (i := i) (by omega)
    obtain ⟨R, rfl⟩ : ∃ R', R = R' + 1 := ⟨R - 1, by omega⟩
    obtain ⟨C, rfl⟩ : ∃ C', C = C' + 1 := ⟨C - 1, by omega⟩
    have hok : OKZ (R + 1) (C + 1) (mkz (R + 1) (C + 1) (bmZ i (elz a c))) := OKZ.mk' (by omega) (by omega) _
    have k1 := b_at hok (i := 0) (k := 0) (by omega) (by omega)
    rw [mkz_el (by omega) (by omega), bmZ_first] at k1
    have k2 := c_Sign (detZ (i + 1) (elz a c))
    by_cases h0 : detZ (i + 1) (elz a c) = 0
    · rw [h0] at k1
      have k2 := c_Sign 0
      have w1 : IntKind.i64.wrap ((r : Int) - (s : Int)) = ((r - s : Nat) : Int) := by rw [wrap_i64 (by omega) (by omega)]; omega
      have w2 : IntKind.i64.wrap ((c : Int) - (s : Int)) = ((c - s : Nat) : Int) := by rw [wrap_i64 (by omega) (by omega)]; omega
      (repeat ((first | refine step_w1 rfl rfl ?_ | refine g_c (by assumption) ?_ | refine tst_tt t3 ?_ | refine g_o (op_loadA rfl (ev_ok rfl) (tgt rfl) rfl (Nat.succ_ne_zero _) rfl) ?_ | refine g_o (op_fieldA rfl (ev_ok rfl) (tgt rfl) rfl rfl (Nat.succ_ne_zero _) rfl) ?_ | refine g_o (op_makeFunc rfl rfl rfl) ?_ | rw [t3] | rw [w1] | rw [w2]); conv => whnf)); (first | exact Recast.refl _ | exact Frz.recast (Recast.refl _) rfl | (refine Frz.one rfl rfl ?_; skip) | (refine Frz.tup ?_; skip))
    · have t5 : ((detZ (i + 1) (elz a c)).sign == 0) = false := beq_eq_false_iff_ne.2 fun e => h0 (Int.sign_eq_zero_iff_zero.1 e)
      have hpow : B * 4 ^ i * 4 ≤ B * 4 ^ s := by
        have : B * 4 ^ (i + 1) ≤ B * 4 ^ s := Nat.mul_le_mul_left B (Nat.pow_le_pow_right (by decide) (by omega))
        rwa [Nat.pow_succ, ← Nat.mul_assoc] at this
      have hp4 : B * 4 ^ (s + 1) = B * 4 ^ s * 4 := by rw [Nat.pow_succ, Nat.mul_assoc]
      have hp5 : B * 4 ^ (i + 1) = B * 4 ^ i * 4 := by rw [Nat.pow_succ, Nat.mul_assoc]
      have k3 := b_next (b := detZ i (elz a c)) (s := 0) hok hz (by omega)
      have en : nxt R C (mkz (R + 1) (C + 1) (bmZ i (elz a c))) (detZ i (elz a c)) = mkz R C (bmZ (i + 1) (elz a c)) := mkz_congr fun p q hp hq => by
        rw [crZ, mkz_el (by omega) (by omega), mkz_el (by omega) (by omega), mkz_el (by omega) (by omega), mkz_el (by omega) (by omega)]
        exact bmZ_div (hne i (Nat.le_refl _)) p q
      have hz' : Zm (B * 4 ^ (i + 1)) (mkz R C (bmZ (i + 1) (elz a c))) := by
        rw [← en, hp5]
        exact Zm_mk fun p q hp hq => Nat.le_trans (zs_div _ _) (by have := crZ_zs hz hok.n hp hq; omega)
      have hzb' : zs (detZ (i + 1) (elz a c)) ≤ B * 4 ^ (i + 1) := by
        have := elz_zm hz hok.n (i := 0) (k := 0) (by omega) (by omega)
        rw [mkz_el (by omega) (by omega), bmZ_first] at this; omega
      rw [en, mkz_el (by omega) (by omega), bmZ_first] at k3
      have w3 : IntKind.i64.wrap ((s : Int) - 1) = ((s - 1 : Nat) : Int) := by rw [wrap_i64 (by omega) (by omega)]; omega
      by_cases hlast : i = s - 1
      · have t6 : ((i : Int) == ((s - 1 : Nat) : Int)) = true := by rw [hlast]; exact beq_self_eq_true _
        obtain rfl : R = r - s := by omega
        obtain rfl : C = c - s := by omega
        rw [show i + 1 = s by omega] at *
        (repeat ((first | refine g_c (by assumption) ?_ | refine tst_tt t3 ?_ | refine tst_ff t5 ?_ | refine tst_tt t6 ?_ | refine g_o (op_loadA rfl (ev_ok rfl) (tgt rfl) rfl (Nat.succ_ne_zero _) rfl) ?_ | refine g_o (op_makeFunc rfl rfl rfl) ?_ | rw [t3] | rw [t5] | rw [w3]); conv => whnf)); (first | exact Recast.refl _ | exact Frz.recast (Recast.refl _) rfl | (refine Frz.one rfl rfl ?_; skip) | (refine Frz.tup ?_; skip))
      · have t6 : ((i : Int) == ((s - 1 : Nat) : Int)) = false := beq_eq_false_iff_ne.2 (by omega)
        (repeat ((first | refine g_c (by assumption) ?_ | refine tst_tt t3 ?_ | refine tst_ff t5 ?_ | refine tst_ff t6 ?_ | refine g_o (op_loadA rfl (ev_ok rfl) (tgt rfl) rfl (Nat.succ_ne_zero _) rfl) ?_ | rw [t3] | rw [t5] | rw [w3] | rw [t6] | rw [t4] | rw [Nat.zero_add]); conv => whnf))
        exact ⟨s - (i + 1), fun k => k, [2, 3, 4, 5, 7, 29, 30], [4, 7], by omega, by kernel_rfl, i + 1, R, C, rfl, hlt, by omega, by omega, (fun j hj => by
          by_cases e : j = i + 1
          · rw [e]; exact h0
          · exact hne j (by omega)), hz', hzb', rfl, rfl⟩
  · have t3 := dge hlt
    obtain rfl : i = s := by omega
    obtain rfl : R = r - i := by omega
    obtain rfl : C = c - i := by omega
    (repeat (first | (refine g_c (by assumption) ?_; conv => whnf) | (refine tst_ff t3 ?_; conv => whnf) | (refine g_o (op_makeFunc rfl rfl rfl) ?_; conv => whnf))); (first | exact Recast.refl _ | exact Frz.recast (Recast.refl _) rfl | (refine Frz.one rfl rfl ?_; skip) | (refine Frz.tup ?_; skip))
end Go.Proofs.YtkpfineikahgfaaGreatDoor

namespace Go.Sx
set_option linter.unusedSimpArgs false
set_option linter.unusedVariables false
section
variable {P : Program} {o : Oper} {ft : List (Nat × SV)} {fk : List (Nat × Blk)}
/-- clear of a slice of one integer. -/
theorem op_clear1 {t e : TypeId} {x : Operand} {xs' : Array Operand} {ts : Array TypeId} {ti te : TI} {k i : Nat} {ty : TypeId} {kd : IntKind} {xs : List Int} (ho : o.op = .call ⟨.builtin .clear, xs', ts⟩) (hxs : xs' = #[x]) (hts : ts = #[t])
    (hx : EvOK ft x (.slc k 1 i 1)) (ht : TOK P t ti) (hk : ti.kind = .slc e) (he : TOK P e te) (hz : te.zero = [.val (.int kd 0)]) (hf : (k, ⟨ty, true, .ints kd xs⟩) ∈ fk) (hi : i < xs.length) :
    OpOK P o ft fk .any [] [(k, ⟨ty, true, .ints kd (xs.set i 0)⟩)] :=
  ok_value fun ρ a w hpre => by
    obtain ⟨z, hz1, hz2⟩ := he.zeroValue
    have hz3 : z.cells = #[.int kd 0] := by
      apply Array.ext'
      rw [hz2, hz]; rfl
    have hzc : (Builtin.zeroCells #[Value.int kd 0] 1).toList = [.int kd 0] := by simp [Builtin.zeroCells]
    have hu := ht.kind; rw [hk] at hu
    rcases has_slc (hx ρ a hpre.hft) with ⟨b, t', cap, h1, h2, h3, h4⟩ | ⟨h0, _⟩
    · rcases hpre.hfk k _ hf with g0 | ⟨b', n', vs, ex, g1, g2, g3, g4, g5⟩ | ⟨g1, _⟩
      · cases g0
      · rw [h1] at g1
        cases g1
        simp only [DataC] at g3
        rw [Data.obj_cells rfl] at g2
        have g2 : w.heap[b]? = some (.cells (vs ++ ex).toArray ty (0, 0)) := g2
        have hvl : vs.length = xs.length := by rw [g3, List.length_map]
        have hsc := run_storeCells_at (P := P) b i ty [.int kd 0] 0 (vs ++ ex).toArray w g2 (by simp; omega) (fun v hv => by simp at hv; subst hv; rfl)
        have hrow : ((vs ++ ex).toArray.toList.take (i + 0) ++ [Value.int kd 0] ++ (vs ++ ex).toArray.toList.drop (i + 0 + [Value.int kd 0].length)) = (xs.set i 0).map (.int kd) ++ ex := by
          rw [g3, List.map_set, List.set_eq_take_append_cons_drop, if_pos (by rw [List.length_map]; exact hi)]
          simp only [Nat.add_zero, List.length_singleton]
          rw [List.take_append_of_le_length (by rw [List.length_map]; omega), List.drop_append_of_le_length (by rw [List.length_map]; omega)]
          simp
        rw [hrow] at hsc
        rw [Nat.mul_one] at h4
        refine ⟨.tuple #[], w.setRow b ((xs.set i 0).map (Value.int kd) ++ ex).toArray, ρ, ?_, ?_⟩
        · simp [execOp, ho, hxs, hts, resolve, invoke, builtin, Builtin.clear_, run_underlying hu, h4, hz1, hz3, hzc, hsc]
        · refine ⟨.refl ρ, trivial, fun _ _ => rfl, ⟨rfl, rfl, rfl, by simp [World.setRow], fun i hi hn => ?_⟩, fun j bj hj => ?_, (fun j c c' h1 h2 h3 h4 => ?_), (fun _ _ _ h => by cases h), (fun _ _ _ _ _ _ h => by cases h), fun b o h => .inl h⟩
          · refine heap_setRow_other fun hib => hn ⟨k, _, t', List.mem_cons_self .., ?_⟩
            rw [hib]; exact h1
          · rcases hj with hj | hj
            · simp only [List.mem_singleton, Prod.mk.injEq] at hj
              obtain ⟨rfl, rfl⟩ := hj
              refine .inr (.inl ⟨b, t', _, ex, h1, by rw [Data.obj_cells rfl]; exact heap_setRow_same g2, rfl, ?_, g5⟩)
              rw [← g4]; simp [hvl]
            · cases hj
          · simp only [List.mem_singleton, Prod.mk.injEq] at h1 h2
            obtain ⟨_, rfl⟩ := h1
            obtain ⟨_, rfl⟩ := h2
            rw [h3] at h4; cases h4
      · rw [h1] at g1; cases g1
    · omega
end
end Go.Sx
namespace Go.Proofs.YtkpfineikahgfaaGreatDoor
open Go.Sx
set_option linter.unusedSimpArgs false
set_option linter.unusedVariables false
set_option maxRecDepth 100000
set_option maxHeartbeats 40000000

theorem upN_at {n i : Nat} (hi : i < n) : (upN n).getD i 0 = i := by simp [upN, List.getD_eq_getElem?_getD, hi]
/-- The numbers below n, m of them moved up. -/
def dlS (n j m : Nat) : List Int := (List.range n).map fun p : Nat => if j ≤ p ∧ p < m then (p : Int) + 1 else p
theorem dlS_len (n j m : Nat) : (dlS n j m).length = n := by simp [dlS]
theorem dlS_at {n j m p : Nat} (hp : p < n) : (dlS n j m).getD p 0 = if j ≤ p ∧ p < m then (p : Int) + 1 else p := by
  simp [dlS, List.getD_eq_getElem?_getD, hp]
theorem dlS_start (n j : Nat) : dlS n j j = upN n := by
  refine zec_ext (dlS_len ..) (upN_len _) fun p hp => ?_
  rw [dlS_at hp, upN_at hp, if_neg (by omega)]
theorem dlS_set {n j m : Nat} (hm : m < n) (hj : j ≤ m) : (dlS n j m).set m ((m : Int) + 1) = dlS n j (m + 1) := by
  refine zec_ext (by rw [List.length_set, dlS_len]) (dlS_len ..) fun p hp => ?_
  rw [dlS_at hp, List.getD_eq_getElem?_getD, List.getElem?_set]
  by_cases e : m = p
  · subst e; rw [if_pos rfl, if_pos (by rw [dlS_len]; exact hm), if_pos (by omega)]; rfl
  · rw [if_neg e, ← List.getD_eq_getElem?_getD, dlS_at hp]
    by_cases g : j ≤ p ∧ p < m
    · rw [if_pos g, if_pos (by omega)]
    · rw [if_neg g, if_neg (by omega)]
/-- The numbers below n but j. -/
abbrev butN (n j : Nat) : List Int := (List.range (n - 1)).map fun p : Nat => ((sk j p : Nat) : Int)
theorem butN_len (n j : Nat) : (butN n j).length = n - 1 := by simp
theorem butN_at {n j p : Nat} (hp : p < n - 1) : (butN n j).getD p 0 = (sk j p : Nat) := by
  simp [butN, List.getD_eq_getElem?_getD, hp]
theorem dlS_but (n j : Nat) (hj : j < n) : ((dlS n j (n - 1)).set (n - 1) 0).take (n - 1) = butN n j := by
  refine zec_ext (by rw [List.length_take, List.length_set, dlS_len]; omega) (butN_len ..) fun p hp => ?_
  rw [butN_at hp, List.getD_eq_getElem?_getD, List.getElem?_take, if_pos hp, List.getElem?_set_ne (by omega), ← List.getD_eq_getElem?_getD, dlS_at (by omega)]
  unfold sk
  by_cases g : p < j
  · rw [if_neg (by omega), if_pos g]
  · rw [if_pos (by omega), if_neg g]; omega

theorem b_isN (x j : Nat) (h : x < 100000) (h2 : j < 100000) : CallOK Tryz.prog 104 ([] ++ ([iv (x : Nat)] ++ [ptrA [iv j]])) [] (.val (.bool (decide (x = j)))) [] [] := by
  have e : ((x : Int) == (j : Int)) = decide (x = j) := by
    by_cases h : x = j
    · rw [h, decide_eq_true rfl]; exact beq_self_eq_true _
    · rw [decide_eq_false h]; exact beq_eq_false_iff_ne.2 (by omega)
  rw [← e]
  refine callV (Z := []) tabOK mixedOK Tryz.func104 rfl (by kernel_rfl) rfl rfl (by kernel_rfl) rfl ?_
  intro W0 w0 ρ0 hE
  conv => whnf
  (repeat (first | (refine g_o (op_loadA rfl (ev_ok rfl) (tgt rfl) rfl (Nat.succ_ne_zero _) rfl) ?_; conv => whnf))); (first | exact Recast.refl _ | exact Frz.recast (Recast.refl _) rfl | (refine Frz.one rfl rfl ?_; skip) | (refine Frz.tup ?_; skip))
theorem b_Index {n j : Nat} (hj : j < n) (hn : n ≤ 2048) (K : Nat) : CallOK Tryz.prog 193 [.slc K 1 0 n, .clo 104 [] [ptrA [iv j]]] [(K, iblkM (upN n))] (iv (j : Nat)) [] [] := by
  refine CallOK.anyWr ?_
  refine callK (Z := []) tabOK mixedOK Tryz.func193 rfl (by kernel_rfl) (args := [.slc 1001 1 0 n, .clo 104 [] [ptrA [iv j]]]) (fk := [(1001, ⟨3, false, .ints .i64 (upN n)⟩)]) (c := iv (j : Nat)) (new := []) (upd := []) (ShapeOK.of rfl rfl rfl rfl rfl rfl rfl rfl rfl rfl rfl) rfl (fun _ => K) (NamesOK.ro rfl) ?_
  intro W0 w0 ρ0 hE
  conv => whnf
  skip
  refine SW_loopN hE (fun k => k) [0, 1, 7, 8] [1001] (fun m fr hp => ∃ i : Nat, m = n - i ∧ i ≤ j ∧ fr = [(0, .slc 1001 1 0 n), (1, .clo 104 [] [ptrA [iv j]]), (7, iv n), (8, iv (i : Nat))] ∧ hp = [(1001, ⟨3, false, .ints .i64 (upN n)⟩)]) n ?_ ?_ ?_
  · kernel_rfl
  · exact ⟨0, rfl, Nat.zero_le _, rfl, rfl⟩
  rintro m _ _ ⟨i, rfl, hi, rfl, rfl⟩
  conv => whnf
  have t1 := dlt (show i < n by omega)
  have t2 := winc (i := i) (by omega)
  have g1 := upN_at (show i < n by omega)
  have lq := upN_len n
  have k1 := b_isN i j (by omega) (by omega)
  by_cases e : i = j
  · subst e
    rw [decide_eq_true rfl] at k1
    (repeat ((first | refine step_w1 rfl rfl ?_ | refine step_oL (by first | omega | decide | (simp only [tl0, dlen, List.length_replicate, List.length_set, List.length_map, List.length_zipWith, List.length_take, List.length_append, List.length_cons, List.length_nil]; omega)) ?_ | refine step_oA (by first | omega | decide | (simp only [tl0, dlen, List.length_replicate, List.length_set, List.length_map, List.length_zipWith, List.length_take, List.length_append, List.length_cons, List.length_nil]; omega)) ?_ | refine g_c (by assumption) ?_ | refine tst_tt t1 ?_ | rw [t1] | rw [g1] | rw [Int.toNat_natCast] | rw [Nat.zero_add]); conv => whnf))
    exact ⟨Recast.refl _, (fun _ _ h => by cases h), (fun _ _ h => by cases h)⟩
  · rw [decide_eq_false e] at k1
    (repeat ((first | refine step_w2 rfl rfl ?_ | refine step_oL (by first | omega | decide | (simp only [tl0, dlen, List.length_replicate, List.length_set, List.length_map, List.length_zipWith, List.length_take, List.length_append, List.length_cons, List.length_nil]; omega)) ?_ | refine step_oA (by first | omega | decide | (simp only [tl0, dlen, List.length_replicate, List.length_set, List.length_map, List.length_zipWith, List.length_take, List.length_append, List.length_cons, List.length_nil]; omega)) ?_ | refine g_c (by assumption) ?_ | refine tst_tt t1 ?_ | rw [t1] | rw [g1] | rw [t2] | rw [Int.toNat_natCast] | rw [Nat.zero_add]); conv => whnf))
    exact ⟨n - (i + 1), fun k => k, [0, 1, 7, 8], [1001], by omega, by kernel_rfl, i + 1, rfl, by omega, rfl, rfl⟩
theorem b_Delete {n j : Nat} (hj : j < n) (hn : n ≤ 2048) (K : Nat) : CallOK Tryz.prog 103 [.slc K 1 0 n, .clo 104 [] [ptrA [iv j]]] [(K, iblkM (upN n))] (.slc K 1 0 (n - 1)) [] [(K, iblkM ((dlS n j (n - 1)).set (n - 1) 0))] := by
  refine callK (Z := []) tabOK mixedOK Tryz.func103 rfl (by kernel_rfl) (args := [.slc 1001 1 0 n, .clo 104 [] [ptrA [iv j]]]) (fk := [(1001, iblkM (upN n))]) (c := .slc 1001 1 0 (n - 1)) (new := []) (upd := [(1001, iblkM ((dlS n j (n - 1)).set (n - 1) 0))]) (ShapeOK.of rfl rfl rfl rfl rfl rfl rfl rfl rfl rfl rfl) rfl (fun _ => K) NamesOK.upd ?_
  have k0 := b_Index hj hn 1001
  have t0 : ((j : Int) == -1) = false := beq_eq_false_iff_ne.2 (by omega)
  have t9 := winc (i := j) (by omega)
  intro W0 w0 ρ0 hE
  conv => whnf
  (repeat (first | (refine step_w2 rfl rfl ?_; conv => whnf) | (refine g_c1 (by assumption) rfl ?_; conv => whnf) | (rw [t0]; conv => whnf)))
  refine SW_loopN hE (fun k => k) [0, 1, 5, 6] [1001] (fun m fr hp => ∃ i : Nat, m = n - (i + 1) ∧ j ≤ i ∧ i < n ∧ fr = [(0, .slc 1001 1 0 n), (1, .clo 104 [] [ptrA [iv j]]), (5, iv (i : Nat)), (6, iv (i + 1 : Nat))] ∧ hp = [(1001, iblkM (dlS n j i))]) (n - (j + 1)) ?_ ?_ ?_
  · kernel_rfl
  · exact ⟨j, rfl, Nat.le_refl _, hj, by rw [← t9]; rfl, by rw [dlS_start]; rfl⟩
  clear k0
  rintro m _ _ ⟨i, rfl, hji, hi, rfl, rfl⟩
  conv => whnf
  have lq := dlS_len n j i
  by_cases hlt : i + 1 < n
  · have t1 : decide (((i + 1 : Nat) : Int) < (n : Int)) = true := decide_eq_true (by omega)
    have t2 := winc (i := i) (by omega)
    have t3 := winc (i := i + 1) (by omega)
    have g1 : (dlS n j i).getD (i + 1) 0 = ((i + 1 : Nat) : Int) := by rw [dlS_at hlt, if_neg (by omega)]
    have k1 := b_isN (i + 1) j (by omega) (by omega)
    rw [decide_eq_false (by omega)] at k1
    (repeat ((first | refine step_w1 rfl rfl ?_ | refine step_oL (by first | omega | decide | (simp only [tl0, dlen, List.length_replicate, List.length_set, List.length_map, List.length_zipWith, List.length_take, List.length_append, List.length_cons, List.length_nil]; omega)) ?_ | refine step_oA (by first | omega | decide | (simp only [tl0, dlen, List.length_replicate, List.length_set, List.length_map, List.length_zipWith, List.length_take, List.length_append, List.length_cons, List.length_nil]; omega)) ?_ | refine g_c (by assumption) ?_ | refine tst_tt t1 ?_ | rw [t1] | rw [g1] | rw [t2] | rw [t3] | rw [Int.toNat_natCast] | rw [Nat.zero_add]); conv => whnf))
    refine ⟨n - (i + 1 + 1), fun k => k, [0, 1, 5, 6], [1001], by omega, by kernel_rfl, i + 1, rfl, by omega, hlt, rfl, ?_⟩
    rw [← dlS_set hi hji]
    rfl
  · have t1 : decide (((i + 1 : Nat) : Int) < (n : Int)) = false := decide_eq_false (by omega)
    obtain rfl : i = n - 1 := by omega
    have e1 : ((n : Int) - ((n - 1 : Nat) : Int)).toNat = 1 := by omega
    have e2 : (((n - 1 : Nat) : Int)).toNat = n - 1 := by omega
    have lq2 : ((dlS n j (n - 1)).set (n - 1) 0).length = n := by rw [List.length_set, dlS_len]
    (repeat ((first | refine step_oA (by first | omega | decide | (simp only [tl0, dlen, List.length_replicate, List.length_set, List.length_map, List.length_zipWith, List.length_take, List.length_append, List.length_cons, List.length_nil]; omega)) ?_ | refine tst_ff t1 ?_ | refine ⟨.any, [(1001, iblkM (dlS n j (n - 1)))], [], [(1001, iblkM ((dlS n j (n - 1)).set (n - 1) 0))], op_clear1 rfl rfl rfl (ev_ok rfl) (tabOK.get (t := 62) rfl) rfl (tabOK.get (t := 3) rfl) rfl (List.mem_cons_self ..) (by omega), one_fk rfl, nil_new, one_upd (List.mem_cons_self ..) rfl rfl rfl, ?_⟩ | rw [t1] | rw [e1] | rw [e2] | rw [Nat.zero_add]); conv => whnf))
    exact ⟨by rw [show ((n - 1 : Nat) : Int) - 0 = ((n - 1 : Nat) : Int) from Int.sub_zero _, e2]; exact Recast.refl _, (fun _ _ h => by cases h), (fun k b h => by simp only [List.mem_singleton, Prod.mk.injEq] at h; obtain ⟨rfl, rfl⟩ := h; rfl)⟩
theorem b_but {r c : Nat} (a : List Int) {j : Nat} (hj : j < r) (hr : r ≤ 2048) : CallOK Tryz.prog 102 ([] ++ ([iv (j : Nat)] ++ [ptrA (wC r c a)])) [] (ivec .i64 (butN r j)) [] [] := by
  have k1 := (b_upToM r [] hr (by simp)).wk (args := [iv r, .val (.slice none 0 0)]) (by repeat (first | exact WkL.nil | refine WkL.cons ?_ ?_ | exact Wk.nil | exact Wk.refl | refine Wk.agg ?_))
  rw [show upL r [] = upN r from List.append_nil _] at k1
  have k2 := b_Delete hj hr 2001
  refine callF (Z := [2]) tabOK mixedOK Tryz.func102 rfl (by kernel_rfl) (by first | rfl | (simp [keylessL, keyless, keylessL_map, *]; done)) (by first | rfl | (simp [keylessL, keyless, keylessL_map, *]; done)) (by kernel_rfl) rfl ?_
  intro w0 ρ0 hE
  conv => whnf
  (repeat ((first | refine g_cn (by assumption) rfl ?_ | refine g_c1u (by assumption) rfl rfl ?_ | refine g_o (op_loadA rfl (ev_ok rfl) (tgt rfl) rfl (Nat.succ_ne_zero _) rfl) ?_ | refine g_o (op_fieldA rfl (ev_ok rfl) (tgt rfl) rfl rfl (Nat.succ_ne_zero _) rfl) ?_ | refine g_o (op_makeFunc rfl rfl rfl) ?_); conv => whnf))
  rw [← dlS_but r j hj]
  refine Frz.one rfl rfl ?_
  have := FrzC.slc (k := 2001) (w := 1) (i := 0) (n := r - 1) (ty := 3) (d := .ints .i64 ((dlS r j (r - 1)).set (r - 1) 0)) (xs := ((dlS r j (r - 1)).set (r - 1) 0).map fun x => .val (.int .i64 x)) (hp := [(2001, iblkM ((dlS r j (r - 1)).set (r - 1) 0))]) rfl rfl rfl (keylessL_map (fun _ => rfl) _) (by simp [dlS_len])
  rw [cutL, List.drop_zero, Nat.zero_add, Nat.sub_zero, ← List.map_take] at this
  exact this
/-- The adjugate of integers. -/
def adjZ (n : Nat) (A : Mz) : Mz := fun i k => sgZ (i + k) * detZ (n - 1) fun a b => A (sk k a) (sk i b)
theorem adjZ_cast (n : Nat) (A : Mz) (i k : Nat) : ((adjZ n A i k : Int) : Rat) = adj n (toR A) i k := by
  rw [adjZ, adj, Rat.intCast_mul, sgZ_cast, detZ_cast]; rfl
theorem butN_in {n j : Nat} : ∀ x, x < (butN n j).length → 0 ≤ (butN n j).getD x 0 ∧ (butN n j).getD x 0 < n := by
  intro x hx
  rw [butN_len] at hx
  rw [butN_at hx]
  have := sk_lt (k := j) hx
  omega
theorem b_Adj1 {n B : Nat} {a : List Int} (ha : OKZ n n a) (za : Zm B a) (hB : 2 ≤ B) (hn : n ≤ 40) (hb : 2 * (B * 4 ^ n) ≤ 1073741824) {i k : Nat} (hi : i < n) (hk : k < n) :
    CallOK Tryz.prog 101 ([] ++ ([iv (i : Nat), iv (k : Nat)] ++ [ptrA (wC n n a)])) [] (.int (adjZ n (elz a n) i k)) [] [] := by
  have k1 := b_but (c := n) a hk (by omega)
  have k2 := b_but (c := n) a hi (by omega)
  have k3 := b_part ha (p := butN n k) (q := butN n i) butN_in butN_in (by rw [butN_len]; omega) (by rw [butN_len]; omega)
  rw [butN_len, butN_len] at k3
  have hpow : B * 4 ^ (n - 1) ≤ B * 4 ^ n := Nat.mul_le_mul_left B (Nat.pow_le_pow_right (by decide) (by omega))
  have k4 := b_det (n := n - 1) (B := B) (a := mkz (n - 1) (n - 1) fun x y => elz a n ((butN n k).getD x 0).toNat ((butN n i).getD y 0).toNat) (OKZ.mk' (by omega) (by omega) _) hB
    (Zm_el za ha.n (fun x hx => by rw [butN_at hx]; have := sk_lt (k := k) hx; omega) (fun x hx => by rw [butN_at hx]; have := sk_lt (k := i) hx; omega)) (by omega) (by omega)
  have ed : detZ (n - 1) (elz (mkz (n - 1) (n - 1) fun x y => elz a n ((butN n k).getD x 0).toNat ((butN n i).getD y 0).toNat) (n - 1)) = detZ (n - 1) fun x y => elz a n (sk k x) (sk i y) :=
    detZ_congr fun x y hx hy => by rw [mkz_el hx hy, butN_at hx, butN_at hy]; rfl
  rw [ed] at k4
  have w1 : IntKind.i64.wrap ((i : Int) + (k : Int)) = ((i + k : Nat) : Int) := by rw [wrap_i64 (by omega) (by omega)]; omega
  have e3 : ((i + k : Nat) : Int).tmod 2 = ((i + k : Nat) : Int) % 2 := Int.tmod_eq_emod_of_nonneg (Int.natCast_nonneg _)
  rw [adjZ, sgZ_mod]
  generalize (detZ (n - 1) fun x y => elz a n (sk k x) (sk i y)) = D at *
  by_cases hodd : (i + k) % 2 = 1
  · have t2 : (((i + k : Nat) : Int).tmod 2 == 1) = true := by rw [e3]; exact beq_iff_eq.2 (by omega)
    have k5 := c_Neg D
    rw [if_pos hodd, Int.neg_one_mul]
    refine callV (Z := []) tabOK mixedOK Tryz.func101 rfl (by kernel_rfl) rfl rfl (by kernel_rfl) rfl ?_
    intro W0 w0 ρ0 hE
    conv => whnf
    (repeat ((first | refine step_i (by kernel_rfl) ?_ | refine step_oN (by first | omega | decide | (simp only [tl0, dlen, List.length_replicate, List.length_set, List.length_map, List.length_zipWith, List.length_take, List.length_append, List.length_cons, List.length_nil]; omega)) ?_ | refine g_c (by assumption) ?_ | refine tst_tt t2 ?_ | refine g_o (op_loadA rfl (ev_ok rfl) (tgt rfl) rfl (Nat.succ_ne_zero _) rfl) ?_ | refine g_o (op_makeFunc rfl rfl rfl) ?_ | rw [w1]); conv => whnf)); (first | exact Recast.refl _ | exact Frz.recast (Recast.refl _) rfl | (refine Frz.one rfl rfl ?_; skip) | (refine Frz.tup ?_; skip))
  · have t2 : (((i + k : Nat) : Int).tmod 2 == 1) = false := by rw [e3]; exact beq_eq_false_iff_ne.2 (by omega)
    rw [if_neg hodd, Int.one_mul]
    refine callV (Z := []) tabOK mixedOK Tryz.func101 rfl (by kernel_rfl) rfl rfl (by kernel_rfl) rfl ?_
    intro W0 w0 ρ0 hE
    conv => whnf
    (repeat ((first | refine step_i (by kernel_rfl) ?_ | refine step_oN (by first | omega | decide | (simp only [tl0, dlen, List.length_replicate, List.length_set, List.length_map, List.length_zipWith, List.length_take, List.length_append, List.length_cons, List.length_nil]; omega)) ?_ | refine g_c (by assumption) ?_ | refine tst_ff t2 ?_ | refine g_o (op_loadA rfl (ev_ok rfl) (tgt rfl) rfl (Nat.succ_ne_zero _) rfl) ?_ | refine g_o (op_makeFunc rfl rfl rfl) ?_ | rw [w1]); conv => whnf)); (first | exact Recast.refl _ | exact Frz.recast (Recast.refl _) rfl | (refine Frz.one rfl rfl ?_; skip) | (refine Frz.tup ?_; skip))
theorem b_Adjugate {n B : Nat} {a : List Int} (ha : OKZ n n a) (za : Zm B a) (hB : 2 ≤ B) (hB2 : B ≤ 536870912) (hn : n ≤ 40) (hb : 2 * (B * 4 ^ n) ≤ 1073741824) :
    CallOK Tryz.prog 26 [wA n n a] [] (.tup [wA n n (mkz n n (adjZ n (elz a n))), iv 0]) [] [] := by
  have k0 := b_square n n a (by have := ha.n; have : n * n ≤ 40 * 40 := Nat.mul_le_mul hn hn; omega) (fun i hi => Nat.le_trans (za i hi) hB2)
  rw [check_ok ha.r ha.c ha.n, if_pos rfl, if_pos rfl] at k0
  have k1 := b_made1 (r := n) (c := n) (by omega) (by omega) (adjZ n (elz a n)) 101 (ptrP (wC n n a)) (fun i k hi hk => b_Adj1 ha za hB hn hb hi hk)
  refine callV (Z := [1]) tabOK mixedOK Tryz.func26 rfl (by kernel_rfl) rfl rfl (by kernel_rfl) rfl ?_
  intro W0 w0 ρ0 hE
  conv => whnf
  (repeat ((first | refine step_w2 rfl rfl ?_ | refine g_c (by assumption) ?_ | rw [bne_self_eq_false] | refine g_o (op_loadA rfl (ev_ok rfl) (tgt rfl) rfl (Nat.succ_ne_zero _) rfl) ?_ | refine g_o (op_fieldA rfl (ev_ok rfl) (tgt rfl) rfl rfl (Nat.succ_ne_zero _) rfl) ?_ | refine g_o (op_makeFunc rfl rfl rfl) ?_); conv => whnf)); (first | exact Recast.refl _ | exact Frz.recast (Recast.refl _) rfl | (refine Frz.one rfl rfl ?_; skip) | (refine Frz.tup ?_; skip))
end Go.Proofs.YtkpfineikahgfaaGreatDoor

namespace Go.Proofs.YtkpfineikahgfaaGreatDoor
open Go.Sx
set_option linter.unusedSimpArgs false
set_option linter.unusedVariables false
set_option maxRecDepth 100000
set_option maxHeartbeats 40000000

/-- The least common multiple of the denominators. -/
def mlS (all : Nat) (x : Rat) : Nat := all * (x.den / Nat.gcd all x.den)
def mlF (l : List Rat) : Nat := l.foldl mlS 1
theorem mlF_take {l : List Rat} {i : Nat} (hi : i < l.length) : mlF (l.take (i + 1)) = mlS (mlF (l.take i)) (l.getD i 0) := by
  rw [mlF, List.take_add_one, List.getElem?_eq_getElem hi, List.foldl_append, List.getD_eq_getElem?_getD, List.getElem?_eq_getElem hi]; rfl
theorem mlS_pos {a : Nat} {x : Rat} (ha : 0 < a) : 0 < mlS a x := by
  unfold mlS
  exact Nat.mul_pos ha (Nat.div_pos (Nat.le_of_dvd x.den_pos (Nat.gcd_dvd_right _ _)) (Nat.gcd_pos_of_pos_left _ ha))
theorem mlF_pos : ∀ (l : List Rat) (a : Nat), 0 < a → 0 < l.foldl mlS a
  | [], _, h => h
  | x :: l, a, h => mlF_pos l _ (mlS_pos h)
theorem den_fs (x : Rat) : sz x.den + 1 ≤ fs x := by have := fsz_den x; unfold fs; omega
theorem mlF_sz {l : List Rat} {B : Nat} (h : Sm B l) : ∀ i, i ≤ l.length → sz (mlF (l.take i)) ≤ 1 + i * B
  | 0, _ => by rw [List.take_zero, mlF, List.foldl_nil, sz_one]; omega
  | i + 1, hi => by
    have h1 := mlF_sz h i (by omega)
    have h2 := h i (by omega)
    have h3 := den_fs (l.getD i 0)
    have h4 := sz_mul (mlF (l.take i)) ((l.getD i 0).den / Nat.gcd (mlF (l.take i)) (l.getD i 0).den)
    have h5 := sz_div (l.getD i 0).den (Nat.gcd (mlF (l.take i)) (l.getD i 0).den)
    rw [mlF_take (by omega), mlS, Nat.succ_mul]; omega
theorem b_multiple {l : List Rat} {B : Nat} (hz : Sm B l) (hl : l.length < 1099511627776) (hb : 1 + (l.length + 1) * B ≤ 1073741824) : CallOK Tryz.prog 125 [fvec l] [] (.nat (mlF l)) [] [] := by
  have k0 := c_nOf 1 (by decide)
  refine callV (Z := []) tabOK mixedOK Tryz.func125 rfl (by kernel_rfl) rfl rfl (by kernel_rfl) rfl ?_
  intro W0 w0 ρ0 hE
  conv => whnf
  (repeat (first | (refine g_c (by assumption) ?_; conv => whnf) | (refine g_o (op_lenM rfl rfl rfl (ev_ok rfl) (tgt rfl) rfl) ?_; conv => whnf)))
  refine SW_loopN hE (fun k => k) [2, 3, 11, 12, 13] [2, 3] (fun m fr hp => ∃ i, m = l.length - i ∧ i ≤ l.length ∧ fr = [(2, .ptr 2 0 0 0), (3, .ptr 3 0 0 0), (11, fvec l), (12, iv (l.length : Nat)), (13, iv (i : Nat))] ∧
    hp = [(2, ⟨32, true, .one [.nat 0]⟩), (3, ⟨32, true, .one [.nat (mlF (l.take i))]⟩)]) l.length ?_ ?_ ?_
  · kernel_rfl
  · exact ⟨0, rfl, Nat.zero_le _, rfl, rfl⟩
  clear k0
  rintro m _ _ ⟨i, rfl, hi, rfl, rfl⟩
  conv => whnf
  by_cases hlt : i < l.length
  · have t1 := dlt hlt
    have t2 := winc (i := i) (by omega)
    have h1 := mlF_sz hz i hi
    have h2 := hz i hlt
    have h3 : i * B ≤ l.length * B := Nat.mul_le_mul_right B hi
    rw [Nat.succ_mul] at hb
    have h4 := den_fs (l.getD i 0)
    have h0 : 0 < mlF (l.take i) := mlF_pos _ _ (by decide)
    have hg : Nat.gcd (mlF (l.take i)) (l.getD i 0).den ≠ 0 := Nat.pos_iff_ne_zero.1 (Nat.gcd_pos_of_pos_left _ h0)
    have h5 := sz_gcd_l (b := (l.getD i 0).den) (Nat.pos_iff_ne_zero.1 h0)
    have h6 := sz_div (l.getD i 0).den (Nat.gcd (mlF (l.take i)) (l.getD i 0).den)
    have k1 := c_Den natBig (l.getD i 0) (by omega)
    have k2 := natBig.gcd (mlF (l.take i)) (l.getD i 0).den (by omega) (by omega)
    have k3 := natBig.div (l.getD i 0).den (Nat.gcd (mlF (l.take i)) (l.getD i 0).den) (by omega) (by omega) hg
    have k4 := natBig.mul (mlF (l.take i)) ((l.getD i 0).den / Nat.gcd (mlF (l.take i)) (l.getD i 0).den) (by omega)
    clear h1 h2 h3 h4 h5 h6
    (repeat ((first | refine step_w1 rfl rfl ?_ | refine step_i (by kernel_rfl) ?_ | refine g_c (by assumption) ?_ | refine g_o (op_indexN (α := Rat) (d := 0) rfl (ev_ok rfl) (ev_ok rfl) (tgt rfl) rfl (tgt rfl) rfl (by omega)) ?_ | refine g_o (op_loadA rfl (ev_ok rfl) (tgt rfl) rfl (Nat.succ_ne_zero _) rfl) ?_ | rw [t1] | rw [t2]); conv => whnf))
    exact ⟨l.length - (i + 1), fun k => k, [2, 3, 11, 12, 13], [2, 3], by omega, by kernel_rfl, i + 1, rfl, hlt, rfl, by rw [mlF_take hlt]; rfl⟩
  · have t1 := dge hlt
    rw [List.take_of_length_le (by omega)]
    (repeat (first | (refine step_w2 rfl rfl ?_; conv => whnf) | (rw [t1]; conv => whnf))); (first | exact Recast.refl _ | exact Frz.recast (Recast.refl _) rfl | (refine Frz.one rfl rfl ?_; skip) | (refine Frz.tup ?_; skip))

/-- The matrix with its rows multiplied. -/
abbrev byL (r c : Nat) (a : List Rat) : List Nat := (List.range r).map fun i => mlF (rowL a c i)
abbrev clZ (r c : Nat) (a : List Rat) : List Int := mkz r c fun i k => (el a c i k * (mlF (rowL a c i) : Rat)).num
theorem byL_len (r c : Nat) (a : List Rat) : (byL r c a).length = r := by simp
theorem byL_at {r c i : Nat} (a : List Rat) (hi : i < r) : (byL r c a).getD i 0 = mlF (rowL a c i) := by simp [List.getD_eq_getElem?_getD, hi]
abbrev nvec (l : List Nat) : SV := mvec 2 .nat l
abbrev nfil (l : List Nat) (n i : Nat) : Blk := ⟨32, true, .seq 2 ((l.map SV.nat).take i ++ List.replicate (n - i) (SV.nat 0))⟩
theorem b_Clear {r c B : Nat} {a : List Rat} (ha : OKM r c a) (sa : Sm B a) (hB : 2 ≤ B) (hb : 4 + (c + 3) * B ≤ 536870912) :
    CallOK Tryz.prog 46 [mA r c a] [] (.tup [wA r c (clZ r c a), nvec (byL r c a), iv 0]) [] [] := by
  have hr := ha.r
  have hc := ha.c
  have hn := ha.n
  have hrc : r * c ≤ 2048 * 2048 := Nat.mul_le_mul hr hc
  have k0 := m_Check0 ha
  refine callF (Z := [1]) tabOK mixedOK Tryz.func46 rfl (by kernel_rfl) (by first | rfl | (simp [keylessL, keyless, keylessL_map, *]; done)) (by first | rfl | (simp [keylessL, keyless, keylessL_map, *]; done)) (by kernel_rfl) rfl ?_
  intro w0 ρ0 hE
  conv => whnf
  (repeat ((first | refine step_w2 rfl rfl ?_ | refine step_i (by kernel_rfl) ?_ | refine step_oA (by first | omega | decide | (simp only [tl0, dlen, List.length_replicate, List.length_set, List.length_map, List.length_zipWith, List.length_take, List.length_append, List.length_cons, List.length_nil]; omega)) ?_ | refine g_c (by assumption) ?_ | rw [bne_self_eq_false] | refine g_o (op_lenM rfl rfl rfl (ev_ok rfl) (tgt rfl) rfl) ?_ | refine g_o (op_loadA rfl (ev_ok rfl) (tgt rfl) rfl (Nat.succ_ne_zero _) rfl) ?_ | refine g_o (op_fieldA rfl (ev_ok rfl) (tgt rfl) rfl rfl (Nat.succ_ne_zero _) rfl) ?_ | rw [Int.toNat_natCast]); conv => whnf))
  have lz : (clZ r c a).length = a.length := by rw [mkz_len, hn]
  have ly := byL_len r c a
  have lz2 : ((clZ r c a).map SV.int).length = a.length := by rw [List.length_map, lz]
  have ly2 : ((byL r c a).map SV.nat).length = r := by rw [List.length_map, ly]
  refine SW_loopN hE (fun k => k) [1, 2, 3, 4, 6, 7, 31, 32] [2, 6, 25, 29] (fun m fr hp => ∃ i : Nat, m = r - i ∧ i ≤ r ∧ fr = [(1, ptrA (mC r c a)), (2, .ptr 2 0 0 0), (3, .val (.slice none 0 0)), (4, iv 0), (6, .ptr 6 0 0 0), (7, .slc 29 2 0 r), (31, iv r), (32, iv (i : Nat))] ∧
    hp = [(2, zW), (6, ⟨55, true, .one [iv r, iv c, .slc 25 3 0 a.length]⟩), (25, zfil (clZ r c a) a.length (i * c)), (29, nfil (byL r c a) r i)]) r ?_ ?_ ?_
  · kernel_rfl
  · exact ⟨0, rfl, Nat.zero_le _, rfl, by rw [Nat.zero_mul, zfil, nfil, List.take_zero, List.take_zero]; rfl⟩
  clear k0
  rintro m _ _ ⟨i, rfl, hi, rfl, rfl⟩
  conv => whnf
  by_cases hlt : i < r
  · have t2 := dlt hlt
    have t3 := winc (i := i) (by omega)
    have hic : (i + 1) * c ≤ r * c := Nat.mul_le_mul_right c hlt
    obtain ⟨w1, w2, w3⟩ := row_w (i := i) (c := c) (by omega) hc
    have hle : i * c ≤ (i + 1) * c := Nat.mul_le_mul_right c (by omega)
    have lrow := rowL_len hlt hn
    have srow : Sm B (rowL a c i) := fun p hp => by
      rw [lrow] at hp
      rw [rowL_get hp]; exact el_sm sa hn hlt hp
    have k1 := b_multiple srow (by omega) (by rw [lrow]; have := Nat.mul_le_mul_right B (show c + 1 ≤ c + 3 by omega); omega)
    have g1 : (((byL r c a).map SV.nat).take i ++ List.replicate (r - i) (SV.nat 0)).getD i SV.any = .nat 0 := fill_get hlt ly2
    have lny := fill_len (d := SV.nat 0) hi ly2
    have e1 : (i + 1) * c - i * c = c := by rw [Nat.succ_mul]; omega
    have e2 : ((byL r c a).map SV.nat).getD i (SV.nat 0) = .nat (mlF (rowL a c i)) := by rw [map_getD (d := 0) (by omega), byL_at a hlt]
    have hsy := fill_set (d := SV.nat 0) (e := SV.nat 0) hlt ly2
    rw [e2] at hsy
    (repeat ((first | refine step_w1 rfl rfl ?_ | refine step_oL (by first | omega | decide | (simp only [tl0, dlen, List.length_replicate, List.length_set, List.length_map, List.length_zipWith, List.length_take, List.length_append, List.length_cons, List.length_nil]; omega)) ?_ | refine step_oA (by first | omega | decide | (simp only [tl0, dlen, List.length_replicate, List.length_set, List.length_map, List.length_zipWith, List.length_take, List.length_append, List.length_cons, List.length_nil]; omega)) ?_ | refine g_c (by assumption) ?_ | refine g_o (op_lenM rfl rfl rfl (ev_ok rfl) (tgt rfl) rfl) ?_ | refine g_o (op_loadA rfl (ev_ok rfl) (tgt rfl) rfl (Nat.succ_ne_zero _) rfl) ?_ | refine g_o (op_fieldA rfl (ev_ok rfl) (tgt rfl) rfl rfl (Nat.succ_ne_zero _) rfl) ?_ | refine g_o (op_sliceM rfl (ev_ok rfl) (bound_spec rfl) (bound_spec rfl) (.inl rfl) (tgt rfl) rfl (tgt rfl) rfl (by omega)) ?_ | rw [t2] | rw [w1] | rw [w3] | rw [w2] | rw [e1] | rw [g1] | rw [hsy] | rw [Int.toNat_natCast] | rw [Nat.zero_add]); conv => whnf))
    refine SW_loopN hE (fun k => k) [1, 2, 3, 4, 6, 7, 8, 9, 31, 32, 52, 53, 54] [2, 6, 25, 29] (fun m fr hp => ∃ k : Nat, m = c - k ∧ k ≤ c ∧ fr = [(1, ptrA (mC r c a)), (2, .ptr 2 0 0 0), (3, .val (.slice none 0 0)), (4, iv 0), (6, .ptr 6 0 0 0), (7, .slc 29 2 0 r), (8, iv (i : Nat)), (9, fvec (rowL a c i)), (31, iv r), (32, iv (i : Nat)), (52, fvec (rowL a c i)), (53, iv ((rowL a c i).length : Nat)), (54, iv (k : Nat))] ∧
      hp = [(2, zW), (6, ⟨55, true, .one [iv r, iv c, .slc 25 3 0 a.length]⟩), (25, zfil (clZ r c a) a.length (i * c + k)), (29, nfil (byL r c a) r (i + 1))]) c ?_ ?_ ?_
    · kernel_rfl
    · exact ⟨0, rfl, Nat.zero_le _, rfl, rfl⟩
    clear k1
    rintro m _ _ ⟨k, rfl, hk, rfl, rfl⟩
    conv => whnf
    by_cases hlk : k < c
    · have t4 := dlt (show k < (rowL a c i).length by omega)
      have t5 := winc (i := k) (by omega)
      obtain ⟨w4, w5⟩ := idx_w (i := i) (k := k) (c := c) (by omega) hc (by omega)
      rw [Nat.succ_mul] at hic
      have hx : i * c + k < a.length := by omega
      have hkr : k < (rowL a c i).length := by omega
      have hlen := zfil_len (l := clZ r c a) (show i * c + k ≤ a.length by omega) lz
      have t6 := zfil_get (l := clZ r c a) (show i * c + k < a.length by omega) lz
      have lny2 := fill_len (d := SV.nat 0) (show i + 1 ≤ r by omega) ly2
      have g2 : (((byL r c a).map SV.nat).take (i + 1) ++ List.replicate (r - (i + 1)) (SV.nat 0)).getD i SV.any = .nat (mlF (rowL a c i)) := by
        rw [List.getD_eq_getElem?_getD, List.getElem?_append_left (by rw [List.length_take, ly2]; omega), List.getElem?_take, if_pos (by omega), ← List.getD_eq_getElem?_getD, map_getD (d := 0) (by omega), byL_at a hlt]
      have hgr : (rowL a c i).getD k 0 = el a c i k := rowL_get hlk
      have hfs : fs (el a c i k) ≤ B := el_sm sa hn hlt hlk
      have hml : sz (mlF (rowL a c i)) ≤ 1 + c * B := by
        have := mlF_sz srow c (by omega)
        rwa [List.take_of_length_le (by omega)] at this
      have hcb : (c + 3) * B = c * B + 3 * B := Nat.add_mul c 3 B
      have k2 := c_From false (mlF (rowL a c i))
      rw [show signed false (mlF (rowL a c i)) = ((mlF (rowL a c i) : Nat) : Int) from rfl] at k2
      have hzs : zs ((mlF (rowL a c i) : Nat) : Int) ≤ 2 + c * B := by unfold zs; rw [Int.natAbs_natCast]; omega
      have hfz := fs_zs ((mlF (rowL a c i) : Nat) : Int)
      have k3 := b_frac ((mlF (rowL a c i) : Nat) : Int) (by omega)
      have k4 := f_Mul (el a c i k) (((mlF (rowL a c i) : Nat) : Int) : Rat) (by omega)
      have k5 := c_Num (el a c i k * (((mlF (rowL a c i) : Nat) : Int) : Rat))
      have hel : elz (clZ r c a) c i k = (el a c i k * (((mlF (rowL a c i) : Nat) : Int) : Rat)).num := by rw [mkz_el hlt hlk]; rfl
      rw [← hel] at k5
      rw [← hgr] at k4 k5
      clear hgr hfs hml hcb hzs hfz hic hle
      (repeat ((first | refine step_w1 rfl rfl ?_ | refine step_i (by kernel_rfl) ?_ | refine step_oL (by first | omega | decide | (simp only [tl0, dlen, List.length_replicate, List.length_set, List.length_map, List.length_zipWith, List.length_take, List.length_append, List.length_cons, List.length_nil]; omega)) ?_ | refine step_oA (by first | omega | decide | (simp only [tl0, dlen, List.length_replicate, List.length_set, List.length_map, List.length_zipWith, List.length_take, List.length_append, List.length_cons, List.length_nil]; omega)) ?_ | refine g_c (by assumption) ?_ | refine g_o (op_indexN (α := Rat) (d := 0) rfl (ev_ok rfl) (ev_ok rfl) (tgt rfl) rfl (tgt rfl) rfl (by omega)) ?_ | refine g_o (op_loadA rfl (ev_ok rfl) (tgt rfl) rfl (Nat.succ_ne_zero _) rfl) ?_ | refine g_o (op_fieldA rfl (ev_ok rfl) (tgt rfl) rfl rfl (Nat.succ_ne_zero _) rfl) ?_ | rw [t4] | rw [w4] | rw [w5] | rw [t6] | rw [g2] | rw [t5] | rw [Int.toNat_natCast] | rw [Nat.zero_add]); conv => whnf))
      refine ⟨c - (k + 1), fun k => k, [1, 2, 3, 4, 6, 7, 8, 9, 31, 32, 52, 53, 54], [2, 6, 25, 29], by omega, by kernel_rfl, k + 1, rfl, hlk, rfl, ?_⟩
      rw [show i * c + (k + 1) = i * c + k + 1 from rfl, zfil, ← zfil_set (show i * c + k < a.length by omega) lz]
      rfl
    · have t4 := dge (show ¬ k < (rowL a c i).length by omega)
      obtain rfl : k = c := by omega
      (repeat (first | (refine step_w2 rfl rfl ?_; conv => whnf) | (rw [t4]; conv => whnf) | (rw [t3]; conv => whnf)))
      refine ⟨r - (i + 1), fun k => k, [1, 2, 3, 4, 6, 7, 31, 32], [2, 6, 25, 29], by omega, by kernel_rfl, i + 1, rfl, hlt, rfl, ?_⟩
      rw [Nat.succ_mul]
      rfl
  · have t2 := dge hlt
    obtain rfl : i = r := by omega
    rw [← hn, zfil_all lz, nfil, fill_all ly2]
    (repeat (first | (refine step_w2 rfl rfl ?_; conv => whnf) | (rw [t2]; conv => whnf)))
    (first | exact Recast.refl _ | exact Frz.recast (Recast.refl _) rfl | (refine Frz.one rfl rfl ?_; skip) | (refine Frz.tup ?_; (repeat (first | exact FrzC.keyless rfl | exact FrzL.nil | refine FrzL.cons ?_ ?_ | refine FrzC.agg ?_ | (refine FrzC.seq rfl (by first | rfl | (apply keylessL_map; intro _; rfl)) ?_; (first | rfl | omega | (simp <;> fail) | (simp <;> omega)))))))
end Go.Proofs.YtkpfineikahgfaaGreatDoor

namespace Go.Proofs.YtkpfineikahgfaaGreatDoor
open Go.Sx
set_option linter.unusedSimpArgs false
set_option linter.unusedVariables false
set_option maxRecDepth 100000
set_option maxHeartbeats 40000000

theorem b_Det {n B : Nat} {a : List Int} (ha : OKZ n n a) (za : Zm B a) (hB : 2 ≤ B) (hB2 : B ≤ 536870912) (hn : n ≤ 40) (hb : 2 * (B * 4 ^ n) ≤ 1073741824) :
    CallOK Tryz.prog 27 [wA n n a] [] (.tup [.int (detZ n (elz a n)), iv 0]) [] [] := by
  have k0 := b_square n n a (by have := ha.n; have : n * n ≤ 40 * 40 := Nat.mul_le_mul hn hn; omega) (fun i hi => Nat.le_trans (za i hi) hB2)
  rw [check_ok ha.r ha.c ha.n, if_pos rfl, if_pos rfl] at k0
  have k1 := b_det ha hB za hn hb
  refine callV (Z := [1]) tabOK mixedOK Tryz.func27 rfl (by kernel_rfl) rfl rfl (by kernel_rfl) rfl ?_
  intro W0 w0 ρ0 hE
  conv => whnf
  (repeat ((first | refine step_w2 rfl rfl ?_ | refine g_c (by assumption) ?_ | rw [bne_self_eq_false] | refine g_o (op_loadA rfl (ev_ok rfl) (tgt rfl) rfl (Nat.succ_ne_zero _) rfl) ?_); conv => whnf)); (first | exact Recast.refl _ | exact Frz.recast (Recast.refl _) rfl | (refine Frz.one rfl rfl ?_; skip) | (refine Frz.tup ?_; skip))
/-- The matrix with a column replaced. -/
def crM (n : Nat) (a b : List Int) (c : Nat) : Mz := fun i k => if k = c then b.getD i 0 else elz a n i k
theorem b_Cr11 {n : Nat} {a b : List Int} (ha : OKZ n n a) (hb : b.length = n) {c i k : Nat} (hi : i < n) (hk : k < n) :
    CallOK Tryz.prog 128 ([] ++ ([iv (i : Nat), iv (k : Nat)] ++ [ptrA [iv c], ptrA [zvec b], ptrA (wC n n a)])) [] (.int (crM n a b c i k)) [] [] := by
  have k1 := b_at ha hi hk
  unfold crM
  by_cases h : k = c
  · have t1 : ((k : Int) == (c : Int)) = true := by rw [h]; exact beq_self_eq_true _
    rw [if_pos h]
    refine callV (Z := []) tabOK mixedOK Tryz.func128 rfl (by kernel_rfl) rfl rfl (by kernel_rfl) rfl ?_
    intro W0 w0 ρ0 hE
    conv => whnf
    (repeat (first | (refine tst_tt t1 ?_; conv => whnf) | (refine g_o (op_loadA rfl (ev_ok rfl) (tgt rfl) rfl (Nat.succ_ne_zero _) rfl) ?_; conv => whnf) | (refine g_o (op_indexN (α := Int) (d := 0) rfl (ev_ok rfl) (ev_ok rfl) (tgt rfl) rfl (tgt rfl) rfl (by omega)) ?_; conv => whnf))); (first | exact Recast.refl _ | exact Frz.recast (Recast.refl _) rfl | (refine Frz.one rfl rfl ?_; skip) | (refine Frz.tup ?_; skip))
  · have t1 : ((k : Int) == (c : Int)) = false := beq_eq_false_iff_ne.2 (by omega)
    rw [if_neg h]
    refine callV (Z := []) tabOK mixedOK Tryz.func128 rfl (by kernel_rfl) rfl rfl (by kernel_rfl) rfl ?_
    intro W0 w0 ρ0 hE
    conv => whnf
    (repeat (first | (refine g_c (by assumption) ?_; conv => whnf) | (refine tst_ff t1 ?_; conv => whnf) | (refine g_o (op_loadA rfl (ev_ok rfl) (tgt rfl) rfl (Nat.succ_ne_zero _) rfl) ?_; conv => whnf))); (first | exact Recast.refl _ | exact Frz.recast (Recast.refl _) rfl | (refine Frz.one rfl rfl ?_; skip) | (refine Frz.tup ?_; skip))
theorem crM_zs {n B : Nat} {a b : List Int} (ha : OKZ n n a) (za : Zm B a) (hb : b.length = n) (zb : Zm B b) (c : Nat) : Zm B (mkz n n (crM n a b c)) :=
  Zm_mk fun i k hi hk => by
    unfold crM
    split
    · exact zb i (by omega)
    · exact elz_zm za ha.n hi hk
theorem b_Cr1 {n B : Nat} {a b : List Int} (ha : OKZ n n a) (za : Zm B a) (hl : b.length = n) (zb : Zm B b) (hB : 2 ≤ B) (hn : n ≤ 40) (hb : 2 * (B * 4 ^ n) ≤ 1073741824) (c : Nat) :
    CallOK Tryz.prog 127 ([] ++ ([iv (c : Nat)] ++ [ptrA (wC n n a), ptrA [zvec b]])) [] (.int (detZ n (crM n a b c))) [] [] := by
  have k1 := b_made3 (r := n) (c := n) (by omega) (by omega) (crM n a b c) 128 (ptrP [iv c]) (ptrP [zvec b]) (ptrP (wC n n a)) (fun i k hi hk => b_Cr11 ha hl hi hk)
  have k2 := b_det (OKZ.mk' (r := n) (c := n) (by omega) (by omega) (crM n a b c)) hB (crM_zs ha za hl zb c) hn hb
  rw [show detZ n (elz (mkz n n (crM n a b c)) n) = detZ n (crM n a b c) from detZ_congr fun i k hi hk => mkz_el hi hk] at k2
  refine callV (Z := [3]) tabOK mixedOK Tryz.func127 rfl (by kernel_rfl) rfl rfl (by kernel_rfl) rfl ?_
  intro W0 w0 ρ0 hE
  conv => whnf
  (repeat ((first | refine g_c (by assumption) ?_ | refine g_o (op_loadA rfl (ev_ok rfl) (tgt rfl) rfl (Nat.succ_ne_zero _) rfl) ?_ | refine g_o (op_fieldA rfl (ev_ok rfl) (tgt rfl) rfl rfl (Nat.succ_ne_zero _) rfl) ?_ | refine g_o (op_makeFunc rfl rfl rfl) ?_); conv => whnf)); (first | exact Recast.refl _ | exact Frz.recast (Recast.refl _) rfl | (refine Frz.one rfl rfl ?_; skip) | (refine Frz.tup ?_; skip))
/-- The determinants of Cramer's rule. -/
abbrev crL (n : Nat) (a b : List Int) : List Int := (upN n).map fun x => detZ n (crM n a b x.toNat)
theorem b_Cramer {n B : Nat} {a b : List Int} (ha : OKZ n n a) (za : Zm B a) (hl : b.length = n) (zb : Zm B b) (hB : 2 ≤ B) (hB2 : B ≤ 536870912) (hn : n ≤ 40) (hb : 2 * (B * 4 ^ n) ≤ 1073741824) :
    CallOK Tryz.prog 47 [wA n n a, zvec b] [] (if detZ n (elz a n) = 0 then .tup [.int 0, zvec [], iv 6] else .tup [.int (detZ n (elz a n)), zvec (crL n a b), iv 0]) [] [] := by
  have k0 := b_square n n a (by have := ha.n; have : n * n ≤ 40 * 40 := Nat.mul_le_mul hn hn; omega) (fun i hi => Nat.le_trans (za i hi) hB2)
  rw [check_ok ha.r ha.c ha.n, if_pos rfl, if_pos rfl] at k0
  have k1 := b_det ha hB za hn hb
  have t1 : ((b.length : Int) != (n : Int)) = false := by rw [hl]; exact bne_self_eq_false _
  by_cases h0 : detZ n (elz a n) = 0
  · rw [if_pos h0]
    rw [h0] at k1
    have k2 := c_Sign 0
    refine callF (Z := [2, 3]) tabOK mixedOK Tryz.func47 rfl (by kernel_rfl) (by first | rfl | (simp [keylessL, keyless, keylessL_map, *]; done)) (by first | rfl | (simp [keylessL, keyless, keylessL_map, *]; done)) (by kernel_rfl) rfl ?_
    intro w0 ρ0 hE
    conv => whnf
    (repeat ((first | refine step_w1 rfl rfl ?_ | refine step_w2 rfl rfl ?_ | refine g_c (by assumption) ?_ | rw [bne_self_eq_false] | refine tst_ff t1 ?_ | refine g_o (op_lenM rfl rfl rfl (ev_ok rfl) (tgt rfl) rfl) ?_ | refine g_o (op_loadA rfl (ev_ok rfl) (tgt rfl) rfl (Nat.succ_ne_zero _) rfl) ?_ | refine g_o (op_fieldA rfl (ev_ok rfl) (tgt rfl) rfl rfl (Nat.succ_ne_zero _) rfl) ?_); conv => whnf)); (first | exact Recast.refl _ | exact Frz.recast (Recast.refl _) rfl | (refine Frz.one rfl rfl ?_; skip) | (refine Frz.tup ?_; (repeat (first | exact FrzC.keyless rfl | exact FrzL.nil | refine FrzL.cons ?_ ?_ | exact FrzC.nilS))))
  · rw [if_neg h0]
    have k2 := c_Sign (detZ n (elz a n))
    have t2 : ((detZ n (elz a n)).sign == 0) = false := beq_eq_false_iff_ne.2 fun e => h0 (Int.sign_eq_zero_iff_zero.1 e)
    have k3 := (b_upToV n [] (by omega) (by simp)).wk (args := [iv n, .val (.slice none 0 0)]) (by repeat (first | exact WkL.nil | refine WkL.cons ?_ ?_ | exact Wk.nil | exact Wk.refl | refine Wk.agg ?_))
    rw [show upL n [] = upN n from List.append_nil _] at k3
    have k4 := b_over2 (fun x => detZ n (crM n a b x.toNat)) 127 (ptrP (wC n n a)) (ptrP [zvec b]) (upN n) (by rw [upN_len]; omega) (fun i hi => by
      rw [upN_len] at hi
      rw [upN_at hi]
      exact b_Cr1 ha za hl zb hB hn hb i)
    refine callV (Z := [2, 3]) tabOK mixedOK Tryz.func47 rfl (by kernel_rfl) rfl rfl (by kernel_rfl) rfl ?_
    intro W0 w0 ρ0 hE
    conv => whnf
    (repeat ((first | refine step_w2 rfl rfl ?_ | refine g_c (by assumption) ?_ | rw [bne_self_eq_false] | refine tst_ff t1 ?_ | refine tst_ff t2 ?_ | refine g_o (op_lenM rfl rfl rfl (ev_ok rfl) (tgt rfl) rfl) ?_ | refine g_o (op_loadA rfl (ev_ok rfl) (tgt rfl) rfl (Nat.succ_ne_zero _) rfl) ?_ | refine g_o (op_fieldA rfl (ev_ok rfl) (tgt rfl) rfl rfl (Nat.succ_ne_zero _) rfl) ?_ | refine g_o (op_makeFunc rfl rfl rfl) ?_); conv => whnf)); (first | exact Recast.refl _ | exact Frz.recast (Recast.refl _) rfl | (refine Frz.one rfl rfl ?_; skip) | (refine Frz.tup ?_; skip))

end Go.Proofs.YtkpfineikahgfaaGreatDoor

namespace Go.Proofs.YtkpfineikahgfaaGreatDoor
open Go.Sx
set_option linter.unusedSimpArgs false
set_option linter.unusedVariables false
set_option maxRecDepth 100000
set_option maxHeartbeats 40000000

theorem zq_guard : Tryz.prog.eqGuardType Tryz.prog.depth 36 = false := by kernel_rfl
theorem zq_same (a b : Int) : eqTy tab good 10 36 (intCells a) (intCells b) = some (decide (a = b)) := by
  have e : eqTy tab good 10 36 (intCells a) (intCells b) = some (((((low a.natAbs == low b.natAbs) && (((big a.natAbs).toList == (big b.natAbs).toList) && true)) && true) && ((decide (a < 0) == decide (b < 0)) && true))) := rfl
  rw [e]
  simp only [Bool.and_true]
  rw [nat_eq_iff]
  congr 1
  rw [Bool.eq_iff_iff]
  simp only [Bool.and_eq_true, decide_eq_true_eq, beq_iff_eq, decide_eq_decide]
  constructor
  · rintro ⟨h3, h4⟩
    omega
  · rintro rfl; exact ⟨rfl, Iff.rfl⟩
theorem nq_guard : Tryz.prog.eqGuardType Tryz.prog.depth 32 = false := by kernel_rfl
theorem nq_same (a b : Nat) : eqTy tab good 10 32 (natCells a) (natCells b) = some (decide (a = b)) := by
  have e : eqTy tab good 10 32 (natCells a) (natCells b) = some (((low a == low b) && (((big a).toList == (big b).toList) && true))) := rfl
  rw [e]
  simp only [Bool.and_true]
  rw [nat_eq_iff]
abbrev Y9 : List Int := [2, 0, 1, 1, 3, 2, 1, 1, 4]
abbrev Y4 : List Int := [1, 2, 3, 4]
abbrev Q4 : List Rat := [1 / 2, 1 / 3, 1, 2]
theorem l_works15 : CallOK Tryz.prog 22 [] [] (.val (.bool true)) [] [] := by
  have hW : OKZ 3 3 Y9 := ⟨by decide, by decide, rfl⟩
  have zW : Zm 20 Y9 := by unfold Zm; decide +kernel
  have h4 : OKZ 2 2 Y4 := ⟨by decide, by decide, rfl⟩
  have z4 : Zm 20 Y4 := by unfold Zm; decide +kernel
  have o1 := b_Of (r := 3) (c := 3) (l := Y9) (by decide) (by decide) rfl (by decide)
  have o2 := b_Stage (s := 1) hW zW (by decide) (by decide) (by decide) (by decide) (by decide)
  have o3 := b_Stage (s := 2) hW zW (by decide) (by decide) (by decide) (by decide) (by decide)
  have o4 := b_Det hW zW (by decide) (by decide) (by decide) (by decide)
  have o5 := b_Cramer hW zW (b := [3, 6, 6]) rfl (by unfold Zm; decide +kernel) (by decide) (by decide) (by decide) (by decide)
  have e0 : detZ 3 (elz Y9 3) = 18 := by decide +kernel
  rw [e0] at o4
  rw [e0, if_neg (by decide), show crL 3 Y9 [3, 6, 6] = [18, 18, 18] from by decide +kernel] at o5
  rw [show stM 3 3 1 Y9 = [6, 3, 2, 7] from by decide +kernel] at o2
  rw [show stM 3 3 2 Y9 = [18] from by decide +kernel] at o3
  replace o2 : CallOK Tryz.prog 24 [wA 3 3 Y9, iv 1] [] (.tup [wA 2 2 [6, 3, 2, 7], iv 0]) [] [] := o2
  replace o3 : CallOK Tryz.prog 24 [wA 3 3 Y9, iv 2] [] (.tup [wA 1 1 [18], iv 0]) [] [] := o3
  have t1 := b_Text 2 2 [6, 3, 2, 7] (by decide) (by decide +kernel) (m_Text (r := 2) (c := 2) (B := 20) (a := ofInts [6, 3, 2, 7]) ⟨by decide, by decide, rfl⟩ (by unfold Sm; decide +kernel) (by decide))
  have t2 := b_Text 1 1 [18] (by decide) (by decide +kernel) (m_Text (r := 1) (c := 1) (B := 20) (a := ofInts [18]) ⟨by decide, by decide, rfl⟩ (by unfold Sm; decide +kernel) (by decide))
  have i3 := c_iOf 3 (by decide) (by decide)
  have i6 := c_iOf 6 (by decide) (by decide)
  have i18 := c_iOf 18 (by decide) (by decide)
  have i21 := c_iOf 21 (by decide) (by decide)
  have o6 := b_Of (r := 2) (c := 2) (l := Y4) (by decide) (by decide) rfl (by decide)
  have o7 := b_Adjugate h4 z4 (by decide) (by decide) (by decide) (by decide)
  rw [show mkz 2 2 (adjZ 2 (elz Y4 2)) = [4, -2, -3, 1] from by decide +kernel] at o7
  have t3 := b_Text 2 2 [4, -2, -3, 1] (by decide) (by decide +kernel) (m_Text (r := 2) (c := 2) (B := 20) (a := ofInts [4, -2, -3, 1]) ⟨by decide, by decide, rfl⟩ (by unfold Sm; decide +kernel) (by decide))
  have o8 := b_Bound h4 z4 (by decide) (by decide)
  rw [show pZ ((upN 2).map fun x => rowZ Y4 2 x.toNat) = 21 from by decide +kernel] at o8
  have f1 := c_fOf natBig 1 2 (by decide +kernel) (by decide) (by decide) (by decide) (by decide) (by decide)
  have f2 := c_fOf natBig 1 3 (by decide +kernel) (by decide) (by decide) (by decide) (by decide) (by decide)
  have f3 := c_fInt 1 (by decide) (by decide)
  have f4 := c_fInt 2 (by decide) (by decide)
  have o9 := b_Clear (r := 2) (c := 2) (B := 20) (a := Q4) ⟨by decide, by decide, rfl⟩ (by unfold Sm; decide +kernel) (by decide) (by decide)
  rw [show clZ 2 2 Q4 = [3, 2, 1, 2] from by decide +kernel, show byL 2 2 Q4 = [6, 1] from by decide +kernel] at o9
  have t4 := b_Text 2 2 [3, 2, 1, 2] (by decide) (by decide +kernel) (m_Text (r := 2) (c := 2) (B := 20) (a := ofInts [3, 2, 1, 2]) ⟨by decide, by decide, rfl⟩ (by unfold Sm; decide +kernel) (by decide))
  have n6 := c_nOf 6 (by decide)
  have n1 := c_nOf 1 (by decide)
  have q1 : (!(tM 2 2 (ofInts [6, 3, 2, 7])).toList == (ByteArray.mk #[91, 54, 32, 51, 93, 32, 91, 50, 32, 55, 93]).toList) = false := by decide +kernel
  have q2 : (!(tM 1 1 (ofInts [18])).toList == (ByteArray.mk #[91, 49, 56, 93]).toList) = false := by decide +kernel
  have q3 : ((tM 2 2 (ofInts [4, -2, -3, 1])).toList == (ByteArray.mk #[91, 52, 32, 45, 50, 93, 32, 91, 45, 51, 32, 49, 93]).toList) = true := by decide +kernel
  have q4 : ((tM 2 2 (ofInts [3, 2, 1, 2])).toList == (ByteArray.mk #[91, 51, 32, 50, 93, 32, 91, 49, 32, 50, 93]).toList) = true := by decide +kernel
  refine callV (Z := [26, 50, 120, 147]) tabOK mixedOK Tryz.func22 rfl (by kernel_rfl) rfl rfl (by kernel_rfl) rfl ?_
  intro W0 w0 ρ0 hE
  conv => whnf
  (repeat ((first | refine step_w1 rfl rfl ?_ | refine step_w2 rfl rfl ?_ | refine step_i (by kernel_rfl) ?_ | refine g_c (by assumption) ?_ | refine g_o (op_pickT rfl (ev_ok rfl) (ev_ok rfl)) ?_ | refine g_o (op_pickF rfl (ev_ok rfl) (ev_ok rfl)) ?_ | rw [beq_self_eq_true] | rw [bne_self_eq_false] | refine tst_tt q3 ?_ | refine tst_tt q4 ?_ | refine g_o (op_lenM rfl rfl rfl (ev_ok rfl) (tgt rfl) rfl) ?_ | refine g_o (op_loadA rfl (ev_ok rfl) (tgt rfl) rfl (Nat.succ_ne_zero _) rfl) ?_ | refine g_o (op_indexA rfl (ev_ok rfl) (ev_ok rfl) (tgt rfl) rfl (tgt rfl) rfl (by omega) (by first | decide | (simp; done) | omega) rfl) ?_ | refine ⟨_, op_eqAgg tabOK goodOK rfl (ev_ok rfl) (ev_ok rfl) rfl rfl rfl rfl (zq_same _ _) zq_guard, ?_⟩ | refine ⟨_, op_neAgg tabOK goodOK rfl (ev_ok rfl) (ev_ok rfl) rfl rfl rfl rfl (zq_same _ _) zq_guard, ?_⟩ | refine ⟨_, op_eqAgg tabOK goodOK rfl (ev_ok rfl) (ev_ok rfl) rfl rfl rfl rfl (nq_same _ _) nq_guard, ?_⟩ | rw [q1] | rw [q2] | rw [q3] | rw [q4]); conv => whnf))
  exact fun _ _ h => h
end Go.Proofs.YtkpfineikahgfaaGreatDoor

namespace Go.Proofs.YtkpfineikahgfaaGreatDoor
open Go.Sx
set_option linter.unusedSimpArgs false
set_option linter.unusedVariables false
set_option maxRecDepth 100000
set_option maxHeartbeats 40000000

abbrev WW := Int × Int × List Int
abbrev wQ : WW → SV := ag3 (iel .u8) (iel .u8) (ivec .i64)
abbrev nilW : WW := (0, 0, [])
def wOK (m : WW) : Prop := (0 ≤ m.1 ∧ m.1 < 256) ∧ (0 ≤ m.2.1 ∧ m.2.1 < 256) ∧ m.2.2.length ≤ maxLen ∧ ∀ x ∈ m.2.2, -9223372036854775808 ≤ x ∧ x < 9223372036854775808
/-- Its elements, with zeros for missing ones. -/
def zLw (l : List Int) (n : Nat) : List Int := (List.range n).map fun p => l.getD p 0
theorem zLw_len (l : List Int) (n : Nat) : (zLw l n).length = n := by simp [zLw]
theorem zLw_get {l : List Int} {n p : Nat} (h : p < n) : (zLw l n).getD p 0 = l.getD p 0 := by simp [zLw, List.getD_eq_getElem?_getD, h]
theorem i64_at {l : List Int} (h : ∀ x ∈ l, -9223372036854775808 ≤ x ∧ x < 9223372036854775808) (p : Nat) : -9223372036854775808 ≤ l.getD p 0 ∧ l.getD p 0 < 9223372036854775808 := by
  by_cases hp : p < l.length
  · exact h _ (getD_mem hp)
  · rw [List.getD_eq_getElem?_getD, List.getElem?_eq_none (by omega)]; exact ⟨by decide, by decide⟩
theorem Zm_zLw {l : List Int} (h : ∀ x ∈ l, -9223372036854775808 ≤ x ∧ x < 9223372036854775808) (n : Nat) : Zm 65 (zLw l n) := by
  intro p hp
  rw [zLw_len] at hp
  rw [zLw_get hp]; obtain ⟨a, b⟩ := i64_at h p; exact zs_i64 a b
theorem OKZ_zLw (l : List Int) {r c : Nat} (hr : r ≤ 2048) (hc : c ≤ 2048) : OKZ r c (zLw l (r * c)) := ⟨hr, hc, zLw_len ..⟩

theorem c_fewW (ms : List WW) (h : ms.length < 1000) (hl : ∀ m ∈ ms, m.2.2.length ≤ maxLen) : CallOK Tryz.prog 21 [mvec 3 wQ ms] [] (.val (.bool (ms.all fun m => decide (m.2.2.length ≤ 40)))) [] [] := by
  refine callV (Z := []) tabOK mixedOK Tryz.func21 rfl (by kernel_rfl) rfl rfl (by kernel_rfl) rfl ?_
  intro W0 w0 ρ0 hE
  conv => whnf
  skip
  refine SW_loopN hE (fun k => k) [0, 3] [] (fun m fr hp => ∃ i : Nat, m = ms.length - i ∧ i ≤ ms.length ∧ (∀ j, j < i → decide ((ms.getD j nilW).2.2.length ≤ 40) = true) ∧ fr = [(0, mvec 3 wQ ms), (3, iv (i : Nat))] ∧ hp = []) ms.length ?_ ?_ ?_
  · kernel_rfl
  · exact ⟨0, rfl, Nat.zero_le _, (fun j hj => by omega), rfl, rfl⟩
  rintro m _ _ ⟨i, rfl, hi, hs, rfl, rfl⟩
  conv => whnf
  by_cases hlt : i < ms.length
  · have t1 := dlt hlt
    have t2 := winc (i := i) (by omega)
    by_cases hL : (ms.getD i nilW).2.2.length ≤ 40
    · have t3 : decide (((ms.getD i nilW).2.2.length : Int) > 40) = false := decide_eq_false (by omega)
      (repeat ((first | refine tst_tt t1 ?_ | refine tst_ff t3 ?_ | refine g_o (op_lenM rfl rfl rfl (ev_ok rfl) (tgt rfl) rfl) ?_ | refine g_o (op_loadA rfl (ev_ok rfl) (tgt rfl) rfl (Nat.succ_ne_zero _) rfl) ?_ | refine g_o (op_fieldA rfl (ev_ok rfl) (tgt rfl) rfl rfl (Nat.succ_ne_zero _) rfl) ?_ | refine g_o (op_indexN (α := WW) (d := nilW) rfl (ev_ok rfl) (ev_ok rfl) (tgt rfl) rfl (tgt rfl) rfl (by omega)) ?_ | rw [t1] | rw [t3] | rw [t2]); conv => whnf))
      refine ⟨ms.length - (i + 1), fun k => k, [0, 3], [], by omega, by kernel_rfl, i + 1, rfl, hlt, ?_, rfl, rfl⟩
      intro j hj
      by_cases hji : j = i
      · rw [hji]; exact decide_eq_true hL
      · exact hs j (by omega)
    · have t3 : decide (((ms.getD i nilW).2.2.length : Int) > 40) = true := decide_eq_true (by omega)
      have e : (ms.all fun m => decide (m.2.2.length ≤ 40)) = false := all_no (d := nilW) hlt (decide_eq_false hL)
      rw [e]
      (repeat ((first | refine tst_tt t1 ?_ | refine tst_tt t3 ?_ | refine g_o (op_lenM rfl rfl rfl (ev_ok rfl) (tgt rfl) rfl) ?_ | refine g_o (op_loadA rfl (ev_ok rfl) (tgt rfl) rfl (Nat.succ_ne_zero _) rfl) ?_ | refine g_o (op_fieldA rfl (ev_ok rfl) (tgt rfl) rfl rfl (Nat.succ_ne_zero _) rfl) ?_ | refine g_o (op_indexN (α := WW) (d := nilW) rfl (ev_ok rfl) (ev_ok rfl) (tgt rfl) rfl (tgt rfl) rfl (by omega)) ?_); conv => whnf)); (first | exact Recast.refl _ | exact Frz.recast (Recast.refl _) rfl | (refine Frz.one rfl rfl ?_; skip) | (refine Frz.tup ?_; skip))
  · have t1 := dge hlt
    obtain rfl : i = ms.length := by omega
    have e : (ms.all fun m => decide (m.2.2.length ≤ 40)) = true := all_at nilW hs
    rw [e]
    (repeat (first | (refine tst_ff t1 ?_; conv => whnf) | (refine g_o (op_lenM rfl rfl rfl (ev_ok rfl) (tgt rfl) rfl) ?_; conv => whnf))); (first | exact Recast.refl _ | exact Frz.recast (Recast.refl _) rfl | (refine Frz.one rfl rfl ?_; skip) | (refine Frz.tup ?_; skip))
theorem c_WOf (m : WW) (hm : wOK m) {r c : Nat} (hr : r ≤ 100) (hc : c ≤ 100) : CallOK Tryz.prog 25 [wQ m, iv r, iv c] [] (wA r c (zLw m.2.2 (r * c))) [] [] := by
  obtain ⟨A, B, l⟩ := m
  obtain ⟨_, _, hl, hq⟩ := hm
  replace hl : l.length ≤ maxLen := hl
  have hz := zLw_len l (r * c)
  have hz2 : ((zLw l (r * c)).map SV.int).length = r * c := by rw [List.length_map, hz]
  have hN : r * c ≤ 100 * 100 := Nat.mul_le_mul hr hc
  have t0 : IntKind.i64.wrap ((r : Int) * (c : Int)) = ((r * c : Nat) : Int) := by rw [← Int.natCast_mul, wrap_i64 (by omega) (by omega)]
  generalize r * c = N at *
  refine callF (Z := [3]) tabOK mixedOK Tryz.func25 rfl (by kernel_rfl) (by first | rfl | (simp [keylessL, keyless, keylessL_map, *]; done)) (by first | rfl | (simp [keylessL, keyless, keylessL_map, *]; done)) (by kernel_rfl) rfl ?_
  intro w0 ρ0 hE
  conv => whnf
  skip
  refine SWx_adoptB (j := 7) (k := 2001) (s := 3) (p := 2) (blk := zB3 []) rfl rfl rfl rfl rfl ?_
  refine SW_loopS hE (fun k => k) [1, 2, 3, 6, 7, 8] [6, 7, 2001] (fun m fr hp => ∃ i : Nat, m = N - i ∧ i ≤ N ∧ fr = [(1, iv r), (2, iv c), (3, ptrA [iel .u8 A, iel .u8 B, ivec .i64 l]), (6, .ptr 6 0 0 0), (7, .ptr 7 0 0 0), (8, iv (i : Nat))] ∧
    hp = [(6, zW), (7, ⟨55, true, .one [iv r, iv c, .slc 2001 3 0 i]⟩), (2001, ⟨36, true, .seq 3 (((zLw l N).map SV.int).take i)⟩)]) N ?_ ?_ ?_
  · kernel_rfl
  · exact ⟨0, rfl, Nat.zero_le _, rfl, rfl⟩
  rintro m _ _ ⟨i, rfl, hi, rfl, rfl⟩
  have hlt0 : (((zLw l N).map SV.int).take i).length = i := by rw [List.length_take]; omega
  by_cases hlt : i < N
  · have t1 := dlt hlt
    have t2 := winc (i := i) (by omega)
    obtain ⟨b1, b2⟩ := i64_at hq i
    have o1 := c_iOf (l.getD i 0) b1 b2
    have e1 := app_one (d := SV.int 0) (show i < ((zLw l N).map SV.int).length by omega)
    rw [map_getD (d := 0) (by omega), zLw_get hlt] at e1
    refine SWx.of hE ?_
    conv => whnf
    by_cases hil : i < l.length
    · have t3 := dlt hil
      (repeat ((first | refine step_i (by kernel_rfl) ?_ | refine step_oA (by first | omega | decide | (simp only [tl0, dlen, List.length_replicate, List.length_set, List.length_map, List.length_zipWith, List.length_take, List.length_append, List.length_cons, List.length_nil]; omega)) ?_ | refine g_c (by assumption) ?_ | refine tst_tt t1 ?_ | refine tst_tt t3 ?_ | refine g_o (op_lenM rfl rfl rfl (ev_ok rfl) (tgt rfl) rfl) ?_ | refine g_o (op_loadA rfl (ev_ok rfl) (tgt rfl) rfl (Nat.succ_ne_zero _) rfl) ?_ | refine g_o (op_indexN (α := Int) (d := 0) rfl (ev_ok rfl) (ev_ok rfl) (tgt rfl) rfl (tgt rfl) rfl (by omega)) ?_ | refine g_o (op_fieldA rfl (ev_ok rfl) (tgt rfl) rfl rfl (Nat.succ_ne_zero _) rfl) ?_ | rw [t0] | rw [t1] | rw [t3] | rw [t2] | rw [Nat.zero_add]); conv => whnf))
      refine ⟨N - (i + 1), renBy [(35, 2001)], [1, 2, 3, 6, 7, 8], [6, 7, 35], by omega, by kernel_rfl, i + 1, rfl, hlt, rfl, ?_⟩
      rw [e1]; rfl
    · have t3 := dge hil
      have e2 : l.getD i 0 = 0 := by rw [List.getD_eq_getElem?_getD, List.getElem?_eq_none (by omega)]; rfl
      rw [e2] at o1 e1
      (repeat ((first | refine step_i (by kernel_rfl) ?_ | refine step_oA (by first | omega | decide | (simp only [tl0, dlen, List.length_replicate, List.length_set, List.length_map, List.length_zipWith, List.length_take, List.length_append, List.length_cons, List.length_nil]; omega)) ?_ | refine g_c (by assumption) ?_ | refine tst_tt t1 ?_ | refine tst_ff t3 ?_ | refine g_o (op_lenM rfl rfl rfl (ev_ok rfl) (tgt rfl) rfl) ?_ | refine g_o (op_loadA rfl (ev_ok rfl) (tgt rfl) rfl (Nat.succ_ne_zero _) rfl) ?_ | refine g_o (op_fieldA rfl (ev_ok rfl) (tgt rfl) rfl rfl (Nat.succ_ne_zero _) rfl) ?_ | rw [t0] | rw [t1] | rw [t3] | rw [t2] | rw [Nat.zero_add]); conv => whnf))
      refine ⟨N - (i + 1), renBy [(35, 2001)], [1, 2, 3, 6, 7, 8], [6, 7, 35], by omega, by kernel_rfl, i + 1, rfl, hlt, rfl, ?_⟩
      rw [e1]; rfl
  · have t1 := dge hlt
    obtain rfl : i = N := by omega
    rw [List.take_of_length_le (by omega)]
    refine SWx.of hE ?_
    conv => whnf
    (repeat (first | (refine tst_ff t1 ?_; conv => whnf) | (rw [t0]; conv => whnf)))
    (first | exact Recast.refl _ | exact Frz.recast (Recast.refl _) rfl | (refine Frz.one rfl rfl ?_; (repeat (first | exact FrzC.keyless rfl | exact FrzL.nil | refine FrzL.cons ?_ ?_ | refine FrzC.agg ?_ | (refine FrzC.seq rfl (by first | rfl | (apply keylessL_map; intro _; rfl)) ?_; (first | rfl | omega | (simp <;> fail) | (simp <;> omega)))))) | (refine Frz.tup ?_; skip))
abbrev WWf (m : WW) : Prop := ((Lit.int .u8 m.1).wf = true) ∧ ((Lit.int .u8 m.2.1).wf = true) ∧ (m.2.2.length ≤ maxLen ∧ ∀ x ∈ m.2.2, (Lit.int .i64 x).wf = true)
theorem wOK_of {m : WW} (w : WWf m) : wOK m := ⟨wf_u8 w.1, wf_u8 w.2.1, w.2.2.1, fun x h => wf_i64 (w.2.2.2 x h)⟩
end Go.Proofs.YtkpfineikahgfaaGreatDoor

namespace Go.Proofs.YtkpfineikahgfaaGreatDoor
open Go.Sx
set_option linter.unusedSimpArgs false
set_option linter.unusedVariables false
set_option maxRecDepth 100000
set_option maxHeartbeats 40000000

end Go.Proofs.YtkpfineikahgfaaGreatDoor

namespace Go.Proofs.YtkpfineikahgfaaGreatDoor
open Go.Sx
set_option linter.unusedSimpArgs false
set_option linter.unusedVariables false
set_option maxRecDepth 100000
set_option maxHeartbeats 40000000

end Go.Proofs.YtkpfineikahgfaaGreatDoor

namespace Go.Proofs.YtkpfineikahgfaaGreatDoor
open Go.Sx
set_option linter.unusedSimpArgs false
set_option linter.unusedVariables false
set_option maxRecDepth 100000
set_option maxHeartbeats 40000000

theorem ofInts_len (l : List Int) : (ofInts l).length = l.length := by simp [ofInts]
theorem ofInts_at {l : List Int} {i : Nat} (h : i < l.length) : (ofInts l).getD i 0 = ((l.getD i 0 : Int) : Rat) := map_getD h
theorem ofInts_Sm {l : List Int} {B : Nat} (h : Zm B l) : Sm (B + 1) (ofInts l) := by
  intro p hp
  rw [ofInts_len] at hp
  rw [ofInts_at hp]; have := fs_zs (l.getD p 0); have := h p hp; omega
theorem ofInts_mk {r c : Nat} (f : Mz) : ofInts (mkz r c f) = mk r c (toR f) := by simp [ofInts, mkz, mk, toR]
theorem el_ofInts {l : List Int} {r c i k : Nat} (hl : l.length = r * c) (hi : i < r) (hk : k < c) : el (ofInts l) c i k = ((elz l c i k : Int) : Rat) := ofInts_at (by rw [hl]; exact idx_lt hi hk)
theorem lw_frac (n : Int) (h : zs n ≤ 536870912) : CallOK Tryz.prog 33 [.int n] [] (.frac n) [] [] := by
  have k1 := c_nOf 1 (by decide)
  have k2 := c_fFrom natBig n 1 (by unfold zs at h; omega) (by rw [sz_one]; decide) (by decide)
  rw [Rat.mkRat_one] at k2
  refine callV (Z := []) tabOK mixedOK Tryz.func33 rfl (by kernel_rfl) rfl rfl (by kernel_rfl) rfl ?_
  intro W0 w0 ρ0 hE
  conv => whnf
  (repeat (first | (refine step_i (by kernel_rfl) ?_; conv => whnf) | (refine g_c (by assumption) ?_; conv => whnf))); (first | exact Recast.refl _ | exact Frz.recast (Recast.refl _) rfl | (refine Frz.one rfl rfl ?_; skip) | (refine Frz.tup ?_; skip))
theorem zs_le_fs (z : Int) : zs z ≤ fs (z : Rat) := by
  have := fsz_num (z : Rat)
  rw [Rat.num_intCast] at this
  unfold zs fs; omega
end Go.Proofs.YtkpfineikahgfaaGreatDoor

namespace Go.Proofs.YtkpfineikahgfaaGreatDoor
open Go.Sx
set_option linter.unusedSimpArgs false
set_option linter.unusedVariables false
set_option maxRecDepth 100000
set_option maxHeartbeats 40000000

theorem detZ_zsB {n B : Nat} {A : Mz} (hn : n ≤ 5) (hB : B ≤ 999) (h : ∀ i k, i < n → k < n → zs (A i k) ≤ B) : zs (detZ n A) ≤ 3912812 := by
  refine Nat.le_trans (zs_le_fs _) ?_
  rw [detZ_cast]
  have := picks_fs (n := n) (B := B + 1) (a := mk n n (toR A)) (mk_len ..) (Sm_mk fun i k hi hk => by have := fs_zs (A i k); have := h i k hi hk; show fs ((A i k : Int) : Rat) ≤ _; omega) n 0 [] (Nat.zero_add _)
  rw [picks_det, det_congr (B := toR A) fun i k hi hk => mk_el hi hk] at this
  exact Nat.le_trans this (pS_top hn (by omega) hn)
theorem adjZ_zsB {n B : Nat} {A : Mz} (hn : n ≤ 5) (hB : B ≤ 999) (h : ∀ i k, i < n → k < n → zs (A i k) ≤ B) {i k : Nat} (hi : i < n) (hk : k < n) : zs (adjZ n A i k) ≤ 3912812 := by
  have h1 := detZ_zsB (n := n - 1) (B := B) (A := fun a b => A (sk k a) (sk i b)) (by omega) hB fun a b ha hb => h _ _ (by have := sk_lt (k := k) ha; omega) (by have := sk_lt (k := i) hb; omega)
  unfold adjZ
  rw [sgZ_mod]
  split
  · rw [Int.neg_one_mul, zs_neg]; exact h1
  · rw [Int.one_mul]; exact h1
abbrev adjL (n : Nat) (X : List Int) : List Int := mkz n n (adjZ n (elz X n))
def prZ (n : Nat) (A B : Mz) : Mz := fun i k => sumZ n fun p => A i p * B p k
abbrev prL (n : Nat) (X Y : List Int) : List Int := mkz n n (prZ n (elz X n) (elz Y n))
abbrev trL (n : Nat) (X : List Int) : List Int := mkz n n fun i k => elz X n k i
theorem adjL_el {n : Nat} (X : List Int) {i k : Nat} (hi : i < n) (hk : k < n) : el (ofInts (adjL n X)) n i k = adj n (toR (elz X n)) i k := by
  rw [el_ofInts (mkz_len ..) hi hk, mkz_el hi hk, adjZ_cast]
theorem vscale_el {n : Nat} (q : Rat) {i k : Nat} (hi : i < n) (hk : k < n) : el (vscale q (mone n)) n i k = q * delta i k := by
  have h := idx_lt hi hk
  have e := zip_get (f := fun x _ => q * x) (a := mone n) (b := mone n) (i := i * n + k) (d1 := 0) (d2 := 0) (d3 := 0) (by rw [mk_len]; exact h) (by rw [mk_len]; exact h)
  rw [el, e]
  show q * el (mone n) n i k = _
  rw [mk_el hi hk]
theorem vscale_len (q : Rat) (n : Nat) : (vscale q (mone n)).length = n * n := zip_len (mk_len ..) (mk_len ..)
theorem adj_left {n : Nat} {X : List Int} (hX : X.length = n * n) : mmul n n n (ofInts X) (ofInts (adjL n X)) = vscale ((detZ n (elz X n) : Int) : Rat) (mone n) := by
  refine mat_ext (mk_len ..) (vscale_len ..) fun i k hi hk => ?_
  rw [mk_el hi hk, vscale_el _ hi hk, sum_congr n (g := fun p => toR (elz X n) i p * adj n (toR (elz X n)) p k) fun p hp => by rw [el_ofInts hX hi hp, adjL_el X hp hk]; rfl]
  have := mul_adj (toR (elz X n)) hi hk
  unfold pr at this
  rw [this, detZ_cast, delta]; split <;> grind
theorem adj_right {n : Nat} {X : List Int} (hX : X.length = n * n) : mmul n n n (ofInts (adjL n X)) (ofInts X) = vscale ((detZ n (elz X n) : Int) : Rat) (mone n) := by
  refine mat_ext (mk_len ..) (vscale_len ..) fun i k hi hk => ?_
  rw [mk_el hi hk, vscale_el _ hi hk, sum_congr n (g := fun p => adj n (toR (elz X n)) i p * toR (elz X n) p k) fun p hp => by rw [el_ofInts hX hp hk, adjL_el X hi hp]; rfl]
  have := adj_mul (toR (elz X n)) hi hk
  unfold pr at this
  rw [this, detZ_cast, delta]; split <;> grind
theorem prZ_cast (n : Nat) (A B : Mz) (i k : Nat) : ((prZ n A B i k : Int) : Rat) = pr n (toR A) (toR B) i k := by
  rw [prZ, sumZ_cast]; exact sum_congr n fun p _ => by rw [Rat.intCast_mul]; rfl
theorem prod_ofInts {n : Nat} {X Y : List Int} (hX : X.length = n * n) (hY : Y.length = n * n) : mmul n n n (ofInts X) (ofInts Y) = ofInts (prL n X Y) := by
  rw [ofInts_mk]
  refine mk_congr fun i k hi hk => ?_
  show _ = ((prZ n (elz X n) (elz Y n) i k : Int) : Rat)
  rw [prZ_cast]
  exact sum_congr n fun p hp => by rw [el_ofInts hX hi hp, el_ofInts hY hp hk]; rfl
theorem turn_ofInts {n : Nat} {X : List Int} (hX : X.length = n * n) : mturn n n (ofInts X) = ofInts (trL n X) := by
  rw [ofInts_mk]
  refine mk_congr fun i k hi hk => ?_
  rw [el_ofInts hX hk hi]; rfl
theorem adj_congr {n : Nat} {A B : Mx} (h : ∀ i k, i < n → k < n → A i k = B i k) {i k : Nat} (hi : i < n) (hk : k < n) : adj n A i k = adj n B i k := by
  rw [adj, adj, det_congr (A := mnr A k i) (B := mnr B k i) fun a b ha hb => h _ _ (by have := sk_lt (k := k) ha; omega) (by have := sk_lt (k := i) hb; omega)]
theorem adj_prod {n : Nat} (X Y : List Int) : ofInts (adjL n (prL n X Y)) = mmul n n n (ofInts (adjL n Y)) (ofInts (adjL n X)) := by
  refine mat_ext (by rw [ofInts_len, mkz_len]) (mk_len ..) fun i k hi hk => ?_
  rw [adjL_el _ hi hk, mk_el hi hk, adj_congr (B := pr n (toR (elz X n)) (toR (elz Y n))) (fun a b ha hb => by
    show ((elz (prL n X Y) n a b : Int) : Rat) = _
    rw [mkz_el ha hb, prZ_cast]) hi hk, adj_pr _ _ hi hk]
  exact sum_congr n fun p hp => by rw [adjL_el _ hi hp, adjL_el _ hp hk]
theorem adj_turn {n : Nat} (X : List Int) : ofInts (adjL n (trL n X)) = mturn n n (ofInts (adjL n X)) := by
  refine mat_ext (by rw [ofInts_len, mkz_len]) (mk_len ..) fun i k hi hk => ?_
  rw [adjL_el _ hi hk, mk_el hi hk, adjL_el _ hk hi, adj_congr (B := tr (toR (elz X n))) (fun a b ha hb => by
    show ((elz (trL n X) n a b : Int) : Rat) = _
    rw [mkz_el ha hb]; rfl) hi hk, adj_tr]
theorem mlF_int : ∀ (l : List Rat), (∀ x ∈ l, x.den = 1) → l.foldl mlS 1 = 1
  | [], _ => rfl
  | x :: l, h => by
    rw [List.foldl_cons, show mlS 1 x = 1 from by rw [mlS, h x (List.mem_cons_self ..)]; decide]
    exact mlF_int l fun y hy => h y (List.mem_cons_of_mem _ hy)
theorem row_int (l : List Int) (c i : Nat) : mlF (rowL (ofInts l) c i) = 1 := mlF_int _ fun x hx => by
  have h1 := List.mem_of_mem_take hx
  have h2 := List.mem_of_mem_drop h1
  obtain ⟨z, _, rfl⟩ := List.mem_map.1 h2
  rfl
theorem byL_int (r c : Nat) (l : List Int) : byL r c (ofInts l) = List.replicate r 1 := by
  have : byL r c (ofInts l) = (List.range r).map fun _ => 1 := List.map_congr_left fun i _ => row_int l c i
  rw [this, List.map_const', List.length_range]
theorem clZ_int {r c : Nat} {l : List Int} (hl : l.length = r * c) : clZ r c (ofInts l) = l := by
  refine mkz_ext hl fun i k hi hk => ?_
  rw [row_int, el_ofInts hl hi hk, show (((1 : Nat) : Rat)) = 1 from rfl, Rat.mul_one, Rat.num_intCast]
theorem prL_zs {n : Nat} {X Y : List Int} (hn : n ≤ 4) (hX : X.length = n * n) (hY : Y.length = n * n) (zx : Zm 65 X) (zy : Zm 65 Y) : Zm 600 (prL n X Y) := Zm_mk fun i k hi hk => by
  have := sumZ_zs (f := fun p => elz X n i p * elz Y n p k) (B := 130) n fun p hp => by
    have h1 := elz_zm zx hX hi hp
    have h2 := elz_zm zy hY hp hk
    have := zs_mul (elz X n i p) (elz Y n p k)
    omega
  have h3 : n * 130 ≤ 4 * 130 := Nat.mul_le_mul_right 130 hn
  unfold prZ; omega
end Go.Proofs.YtkpfineikahgfaaGreatDoor
