/- The texts Gd, Rb, Rc, Rd, Aa, Re, Ge, Shelf, Ha, Hb, Rf, Ta, Tb, Tc, Td, Pa, Hc, Hd, Te. -/
import Derived.Shelf.Strings.Builder1
import Derived.Shelf.Strings.Builder2
import Derived.Shelf.Strings.OnBuilder
import Derived.Shelf.Strings.BuilderF
import Derived.Shelf.Strings.Builder2Cap
import Derived.Shelf.Strconv.Itoa0
import Derived.Shelf.Strconv.Itoa1
import Derived.Shelf.LaysM
import Derived.Shelf.Strconv.Itoa2
import Derived.Shelf.Strconv.Itoa3
import Derived.Shelf.Strings.Prefix
import Derived.Shelf.Bits.Mul64
import Derived.Shelf.Strings.Repeat
import Derived.Ground.Names2Prog
import Derived.Shelf.Slices.ReverseS
import Derived.Test.YtgodfkgocbppgaaGreatDoorProg
import Derived.Lib.Walk
import Derived.Lib.ItoaMem
import Derived.Lib.AppendIntMem
import Derived.WalkKit
import Derived.BigCall
import Derived.BigGuard
import Derived.Test.YtgodfkgocbppgaaGreatDoorQLVecsPlays3
namespace Go.Proofs.YtgodfkgocbppgaaGreatDoor
open Go.Sx
set_option linter.unusedSimpArgs false
set_option linter.unusedVariables false
set_option maxRecDepth 100000
set_option maxHeartbeats 4000000

/-- The sizes of two vectors' elements, taken together. -/
def Fit (a b : List Rat) : Prop := ∀ i, i < a.length → fs (a.getD i 0) + fs (b.getD i 0) ≤ 1073741824

abbrev vadd (a b : List Rat) : List Rat := List.zipWith (· + ·) a b
abbrev vsub (a b : List Rat) : List Rat := List.zipWith (· - ·) a b
abbrev vmul (a b : List Rat) : List Rat := List.zipWith (· * ·) a b
abbrev vscale (c : Rat) (a : List Rat) : List Rat := List.zipWith (fun x _ => c * x) a a
abbrev vaxpy (c : Rat) (a b : List Rat) : List Rat := List.zipWith (fun x y => c * x + y) a b

theorem v_Add (a b : List Rat) (hab : a.length = b.length) (hl : a.length ≤ 2048) (h : Fit a b) : CallOK Tryz.prog 35 [fvec a, fvec b] [] (.tup [fvec (vadd a b), .val (.int .i64 0)]) [] [] := by
  have k1 := v_each0 (· + ·) 31 a b hab hl (fun i hi => f_Add _ _ (h i hi))
  refine callV (Z := []) tabOK mixedOK Tryz.func35 rfl (by kernel_rfl) rfl rfl (by kernel_rfl) rfl ?_
  intro W0 w0 ρ0 hE
  conv => whnf
  (repeat (first | (refine g_c (by assumption) ?_; conv => whnf))); (first | exact Recast.refl _ | exact Frz.recast (Recast.refl _) rfl | (refine Frz.one rfl rfl ?_; skip) | (refine Frz.tup ?_; skip))
theorem v_Sub (a b : List Rat) (hab : a.length = b.length) (hl : a.length ≤ 2048) (h : Fit a b) : CallOK Tryz.prog 36 [fvec a, fvec b] [] (.tup [fvec (vsub a b), .val (.int .i64 0)]) [] [] := by
  have k1 := v_each0 (· - ·) 71 a b hab hl (fun i hi => f_Sub _ _ (h i hi))
  refine callV (Z := []) tabOK mixedOK Tryz.func36 rfl (by kernel_rfl) rfl rfl (by kernel_rfl) rfl ?_
  intro W0 w0 ρ0 hE
  conv => whnf
  (repeat (first | (refine g_c (by assumption) ?_; conv => whnf))); (first | exact Recast.refl _ | exact Frz.recast (Recast.refl _) rfl | (refine Frz.one rfl rfl ?_; skip) | (refine Frz.tup ?_; skip))
theorem v_Scale1 (c x y : Rat) (h : fs c + fs x ≤ 1073741824) : CallOK Tryz.prog 72 ([] ++ ([.frac x, .frac y] ++ [ptrA [.frac c]])) [] (.frac (c * x)) [] [] := by
  have k1 := f_Mul c x h
  refine callV (Z := []) tabOK mixedOK Tryz.func72 rfl (by kernel_rfl) rfl rfl (by kernel_rfl) rfl ?_
  intro W0 w0 ρ0 hE
  conv => whnf
  (repeat (first | (refine g_c (by assumption) ?_; conv => whnf) | (refine g_o (op_loadA rfl (ev_ok rfl) (tgt rfl) rfl (Nat.succ_ne_zero _) rfl) ?_; conv => whnf))); (first | exact Recast.refl _ | exact Frz.recast (Recast.refl _) rfl | (refine Frz.one rfl rfl ?_; skip) | (refine Frz.tup ?_; skip))
theorem v_Scale (c : Rat) (a : List Rat) (hl : a.length ≤ 2048) (h : ∀ i, i < a.length → fs c + fs (a.getD i 0) ≤ 1073741824) : CallOK Tryz.prog 37 [.frac c, fvec a] [] (.tup [fvec (vscale c a), .val (.int .i64 0)]) [] [] := by
  have k1 := v_each1 (fun x _ => c * x) 72 (ptrP [.frac c]) a a rfl hl (fun i hi => v_Scale1 _ _ _ (h i hi))
  refine callV (Z := [2]) tabOK mixedOK Tryz.func37 rfl (by kernel_rfl) rfl rfl (by kernel_rfl) rfl ?_
  intro W0 w0 ρ0 hE
  conv => whnf
  (repeat (first | (refine g_c (by assumption) ?_; conv => whnf) | (refine g_o (op_makeFunc rfl rfl rfl) ?_; conv => whnf))); (first | exact Recast.refl _ | exact Frz.recast (Recast.refl _) rfl | (refine Frz.one rfl rfl ?_; skip) | (refine Frz.tup ?_; skip))
theorem v_Axpy1 (c x y : Rat) (h : fs c + fs x + fs y ≤ 1073741824) : CallOK Tryz.prog 73 ([] ++ ([.frac x, .frac y] ++ [ptrA [.frac c]])) [] (.frac (c * x + y)) [] [] := by
  have k1 := f_Mul c x (by omega)
  have k2 := f_Add (c * x) y (by have := fs_mul c x; omega)
  refine callV (Z := []) tabOK mixedOK Tryz.func73 rfl (by kernel_rfl) rfl rfl (by kernel_rfl) rfl ?_
  intro W0 w0 ρ0 hE
  conv => whnf
  (repeat (first | (refine step_i (by kernel_rfl) ?_; conv => whnf) | (refine g_c (by assumption) ?_; conv => whnf) | (refine g_o (op_loadA rfl (ev_ok rfl) (tgt rfl) rfl (Nat.succ_ne_zero _) rfl) ?_; conv => whnf))); (first | exact Recast.refl _ | exact Frz.recast (Recast.refl _) rfl | (refine Frz.one rfl rfl ?_; skip) | (refine Frz.tup ?_; skip))
theorem v_Axpy (c : Rat) (a b : List Rat) (hab : a.length = b.length) (hl : a.length ≤ 2048) (h : ∀ i, i < a.length → fs c + fs (a.getD i 0) + fs (b.getD i 0) ≤ 1073741824) : CallOK Tryz.prog 38 [.frac c, fvec a, fvec b] [] (.tup [fvec (vaxpy c a b), .val (.int .i64 0)]) [] [] := by
  have k1 := v_each1 (fun x y => c * x + y) 73 (ptrP [.frac c]) a b hab hl (fun i hi => v_Axpy1 _ _ _ (h i hi))
  refine callV (Z := [3]) tabOK mixedOK Tryz.func38 rfl (by kernel_rfl) rfl rfl (by kernel_rfl) rfl ?_
  intro W0 w0 ρ0 hE
  conv => whnf
  (repeat (first | (refine g_c (by assumption) ?_; conv => whnf) | (refine g_o (op_makeFunc rfl rfl rfl) ?_; conv => whnf))); (first | exact Recast.refl _ | exact Frz.recast (Recast.refl _) rfl | (refine Frz.one rfl rfl ?_; skip) | (refine Frz.tup ?_; skip))

/-- The dot product. -/
def vdot (a b : List Rat) : Rat := (vmul a b).foldl (· + ·) 0
theorem v_Dot (a b : List Rat) (hab : a.length = b.length) (hl : a.length ≤ 2048) (h : Fit a b) (hs : fsL (vmul a b) + 2 ≤ 1073741824) : CallOK Tryz.prog 43 [fvec a, fvec b] [] (.tup [.frac (vdot a b), .val (.int .i64 0)]) [] [] := by
  have k1 := v_each0 (· * ·) 18 a b hab hl (fun i hi => f_Mul _ _ (h i hi))
  have k2 := f_Sum (vmul a b) (by simp; omega) hs
  refine callV (Z := []) tabOK mixedOK Tryz.func43 rfl (by kernel_rfl) rfl rfl (by kernel_rfl) rfl ?_
  intro W0 w0 ρ0 hE
  conv => whnf
  (repeat (first | (refine g_c (by assumption) ?_; conv => whnf))); (first | exact Recast.refl _ | exact Frz.recast (Recast.refl _) rfl | (refine Frz.one rfl rfl ?_; skip) | (refine Frz.tup ?_; skip))

theorem v_Zero (n : Nat) (hn : n ≤ 2048) : CallOK Tryz.prog 27 [.val (.int .i64 (n : Nat))] [] (.tup [fvec (List.replicate n 0), .val (.int .i64 0)]) [] [] := by
  have k1 := v_fits n
  rw [fitsF, if_neg (by omega), if_neg (by omega)] at k1
  refine callF (Z := []) tabOK mixedOK Tryz.func27 rfl (by kernel_rfl) (by first | rfl | (simp [keylessL, keyless, keylessL_map, *]; done)) (by first | rfl | (simp [keylessL, keyless, keylessL_map, *]; done)) (by kernel_rfl) rfl ?_
  intro w0 ρ0 hE
  conv => whnf
  (repeat ((first | refine step_w2 rfl rfl ?_ | refine And.intro (by first | decide | omega | (simp only [tiB5, tiB23, tiB3, tiB2, tiB9, tiB41, tiB72, tiB29, tiB30, tiB39, tiB33, tiB4, tiB68, tiB70, dlen, List.length_replicate, List.length_set, List.length_map, List.length_zipWith, List.length_take, List.length_append, List.length_cons, List.length_nil]; omega)) ?_ | refine g_c (by assumption) ?_ | rw [Int.toNat_natCast]); conv => whnf)); (first | exact Recast.refl _ | exact Frz.recast (Recast.refl _) rfl | (refine Frz.one rfl rfl ?_; skip) | (refine Frz.tup ?_; (repeat (first | exact FrzC.keyless rfl | exact FrzL.nil | refine FrzL.cons ?_ ?_ | (refine FrzC.fracs rfl ?_; (first | rfl | omega | (simp <;> fail) | (simp <;> omega)))))))

theorem v_ZeroE (n : Int) (hn : fitsF n ≠ 0) : CallOK Tryz.prog 27 [.val (.int .i64 n)] [] (.tup [fvec [], .val (.int .i64 (fitsF n))]) [] [] := by
  have k1 := v_fits n
  have t1 : (fitsF n != 0) = true := bne_iff_ne.2 hn
  refine callF (Z := []) tabOK mixedOK Tryz.func27 rfl (by kernel_rfl) (by first | rfl | (simp [keylessL, keyless, keylessL_map, *]; done)) (by first | rfl | (simp [keylessL, keyless, keylessL_map, *]; done)) (by kernel_rfl) rfl ?_
  intro w0 ρ0 hE
  conv => whnf
  (repeat (first | (refine step_w1 rfl rfl ?_; conv => whnf) | (refine g_c (by assumption) ?_; conv => whnf) | (rw [t1]; conv => whnf))); (first | exact Recast.refl _ | exact Frz.recast (Recast.refl _) rfl | (refine Frz.one rfl rfl ?_; skip) | (refine Frz.tup ?_; (repeat (first | exact FrzC.keyless rfl | exact FrzL.nil | refine FrzL.cons ?_ ?_ | exact FrzC.nilS))))

theorem v_UnitI (n : Nat) (i : Int) (hn : n ≤ 2048) (hi : i < 0 ∨ (n : Int) ≤ i) : CallOK Tryz.prog 21 [.val (.int .i64 (n : Nat)), .val (.int .i64 i)] [] (.tup [fvec [], .val (.int .i64 1)]) [] [] := by
  have k1 := v_Zero n hn
  refine callF (Z := []) tabOK mixedOK Tryz.func21 rfl (by kernel_rfl) (by first | rfl | (simp [keylessL, keyless, keylessL_map, *]; done)) (by first | rfl | (simp [keylessL, keyless, keylessL_map, *]; done)) (by kernel_rfl) rfl ?_
  intro w0 ρ0 hE
  conv => whnf
  by_cases h1 : i < 0
  · have t1 : decide (i < 0) = true := decide_eq_true h1
    (repeat ((first | refine step_w1 rfl rfl ?_ | refine step_w2 rfl rfl ?_ | refine g_c (by assumption) ?_ | refine g_o (op_pickT rfl (ev_ok rfl) (ev_ok rfl)) ?_ | rw [bne_self_eq_false] | rw [t1]); conv => whnf)); (first | exact Recast.refl _ | exact Frz.recast (Recast.refl _) rfl | (refine Frz.one rfl rfl ?_; skip) | (refine Frz.tup ?_; (repeat (first | exact FrzC.keyless rfl | exact FrzL.nil | refine FrzL.cons ?_ ?_ | exact FrzC.nilS))))
  · have t1 : decide (i < 0) = false := decide_eq_false h1
    have t2 : decide (i ≥ (n : Int)) = true := decide_eq_true (by omega)
    (repeat ((first | refine step_w1 rfl rfl ?_ | refine step_w2 rfl rfl ?_ | refine g_c (by assumption) ?_ | refine g_o (op_pickF rfl (ev_ok rfl) (ev_ok rfl)) ?_ | rw [bne_self_eq_false] | rw [t1] | rw [t2]); conv => whnf)); (first | exact Recast.refl _ | exact Frz.recast (Recast.refl _) rfl | (refine Frz.one rfl rfl ?_; skip) | (refine Frz.tup ?_; (repeat (first | exact FrzC.keyless rfl | exact FrzL.nil | refine FrzL.cons ?_ ?_ | exact FrzC.nilS))))

/-- The maximum norm. -/
def vmaxF : List Rat → Rat → Rat
  | [], m => m
  | x :: l, m => vmaxF l (if 0 < (rabs x - m).num.sign then rabs x else m)
def vmax (l : List Rat) : Rat := vmaxF l 0

theorem v_Max (l : List Rat) (hl : l.length < 1099511627776) (B : Nat) (hB : 2 ≤ B) (hB2 : B + B ≤ 1073741824) (h : ∀ i, i < l.length → fs (l.getD i 0) ≤ B) : CallOK Tryz.prog 28 [fvec l] [] (.frac (vmax l)) [] [] := by
  refine callV (Z := []) tabOK mixedOK Tryz.func28 rfl (by kernel_rfl) rfl rfl (by kernel_rfl) rfl ?_
  intro W0 w0 ρ0 hE
  conv => whnf
  (repeat (first | (refine g_o (op_lenM rfl rfl rfl (ev_ok rfl) (tgt rfl) rfl) ?_; conv => whnf)))
  refine SW_loopN hE (fun k => k) [0, 2, 5, 6, 7] [2] (fun m fr hp => ∃ i q, m = l.length - i ∧ i ≤ l.length ∧ vmaxF (l.drop i) q = vmax l ∧ fs q ≤ B ∧ fr = [(0, fvec l), (2, .ptr 2 0 0 0), (5, fvec l), (6, .val (.int .i64 (l.length : Nat))), (7, .val (.int .i64 (i : Nat)))] ∧
    hp = [(2, ⟨41, true, .one [.frac q]⟩)]) l.length ?_ ?_ ?_
  · kernel_rfl
  · exact ⟨0, 0, rfl, Nat.zero_le _, rfl, by rw [fs_zero]; exact hB, rfl, rfl⟩
  rintro m _ _ ⟨i, q, rfl, hi, hv, hq, rfl, rfl⟩
  conv => whnf
  by_cases hlt : i < l.length
  · have t1 := dlt hlt
    have t2 := winc (i := i) (by omega)
    have hx := h i hlt
    have hd : l.drop i = l.getD i 0 :: l.drop (i + 1) := by rw [List.drop_eq_getElem_cons hlt, List.getD_eq_getElem?_getD, List.getElem?_eq_getElem hlt]; rfl
    rw [hd, vmaxF] at hv
    have k1 := f_Abs (l.getD i 0)
    have hb : fs (rabs (l.getD i 0)) ≤ B := by rw [fs_abs]; exact hx
    generalize rabs (l.getD i 0) = x at *
    have k2 := f_Cmp x q (by omega)
    by_cases hc : 0 < (x - q).num.sign
    · have t3 : decide ((x - q).num.sign > 0) = true := decide_eq_true hc
      rw [if_pos hc] at hv
      (repeat ((first | refine step_w1 rfl rfl ?_ | refine g_c (by assumption) ?_ | refine g_o (op_indexN (α := Rat) (d := 0) rfl (ev_ok rfl) (ev_ok rfl) (tgt rfl) rfl (tgt rfl) rfl (by omega)) ?_ | refine g_o (op_loadA rfl (ev_ok rfl) (tgt rfl) rfl (Nat.succ_ne_zero _) rfl) ?_ | rw [t1] | rw [t3] | rw [t2]); conv => whnf))
      exact ⟨l.length - (i + 1), fun k => k, [0, 2, 5, 6, 7], [2], by omega, by kernel_rfl, i + 1, x, rfl, hlt, hv, hb, rfl, rfl⟩
    · have t3 : decide ((x - q).num.sign > 0) = false := decide_eq_false hc
      rw [if_neg hc] at hv
      (repeat ((first | refine step_w1 rfl rfl ?_ | refine step_w2 rfl rfl ?_ | refine g_c (by assumption) ?_ | refine g_o (op_indexN (α := Rat) (d := 0) rfl (ev_ok rfl) (ev_ok rfl) (tgt rfl) rfl (tgt rfl) rfl (by omega)) ?_ | refine g_o (op_loadA rfl (ev_ok rfl) (tgt rfl) rfl (Nat.succ_ne_zero _) rfl) ?_ | rw [t1] | rw [t3] | rw [t2]); conv => whnf))
      exact ⟨l.length - (i + 1), fun k => k, [0, 2, 5, 6, 7], [2], by omega, by kernel_rfl, i + 1, q, rfl, hlt, hv, hq, rfl, rfl⟩
  · have t1 := dge hlt
    have hI : i = l.length := by omega
    rw [hI, List.drop_length, vmaxF] at hv
    rw [hv]
    (repeat (first | (refine step_w2 rfl rfl ?_; conv => whnf) | (rw [t1]; conv => whnf))); (first | exact Recast.refl _ | exact Frz.recast (Recast.refl _) rfl | (refine Frz.one rfl rfl ?_; skip) | (refine Frz.tup ?_; skip))

theorem q_guard : Tryz.prog.eqGuardType Tryz.prog.depth 41 = false := by kernel_rfl
theorem q_same (a b : Rat) : eqTy tab good 10 41 (fracCells a) (fracCells b) = some (decide (a = b)) := by
  have e : eqTy tab good 10 41 (fracCells a) (fracCells b) = some (((((low a.num.natAbs == low b.num.natAbs) && (((big a.num.natAbs).toList == (big b.num.natAbs).toList) && true)) && true) && ((decide (a.num < 0) == decide (b.num < 0)) && true)) &&
    (((low (a.den - 1) == low (b.den - 1)) && (((big (a.den - 1)).toList == (big (b.den - 1)).toList) && true)) && true)) := rfl
  rw [e]
  simp only [Bool.and_true]
  rw [nat_eq_iff, nat_eq_iff]
  congr 1
  rw [Bool.eq_iff_iff]
  simp only [Bool.and_eq_true, decide_eq_true_eq, beq_iff_eq, decide_eq_decide]
  have h1 := a.den_pos
  have h2 := b.den_pos
  constructor
  · rintro ⟨⟨h3, h4⟩, h5⟩
    exact Rat.ext (by omega) (by omega)
  · rintro rfl
    exact ⟨⟨rfl, Iff.rfl⟩, rfl⟩

/-- slices.Equal at vectors. -/
theorem v_Equal (a b : List Rat) (ha : a.length < 1099511627776) (hb : b.length < 1099511627776) : CallOK Tryz.prog 64 [fvec a, fvec b] [] (.val (.bool (decide (a = b)))) [] [] := by
  refine callV (Z := []) tabOK mixedOK Tryz.func64 rfl (by kernel_rfl) rfl rfl (by kernel_rfl) rfl ?_
  intro W0 w0 ρ0 hE
  conv => whnf
  by_cases hab : a.length = b.length
  · have t0 : ((a.length : Int) != (b.length : Int)) = false := by rw [hab]; exact bne_self_eq_false _
    (repeat (first | (refine step_w2 rfl rfl ?_; conv => whnf) | (refine g_o (op_lenM rfl rfl rfl (ev_ok rfl) (tgt rfl) rfl) ?_; conv => whnf) | (rw [t0]; conv => whnf)))
    refine SW_loopN hE (fun k => k) [0, 1, 4, 11, 12, 13] [] (fun m fr hp => ∃ i, m = a.length - i ∧ i ≤ a.length ∧ a.take i = b.take i ∧ fr = [(0, fvec a), (1, fvec b), (4, .val (.bool false)), (11, fvec a), (12, .val (.int .i64 (a.length : Nat))), (13, .val (.int .i64 (i : Nat)))] ∧ hp = []) a.length ?_ ?_ ?_
    · kernel_rfl
    · exact ⟨0, rfl, Nat.zero_le _, rfl, rfl, rfl⟩
    rintro m _ _ ⟨i, rfl, hi, ht, rfl, rfl⟩
    conv => whnf
    by_cases hlt : i < a.length
    · have t1 := dlt hlt
      have t2 := winc (i := i) (by omega)
      by_cases hv : a.getD i 0 = b.getD i 0
      · have t3 : (!decide (a.getD i 0 = b.getD i 0)) = false := by rw [decide_eq_true hv]; rfl
        (repeat ((first | refine step_w1 rfl rfl ?_ | refine step_w2 rfl rfl ?_ | refine step_i (by kernel_rfl) ?_ | refine g_o (op_indexN (α := Rat) (d := 0) rfl (ev_ok rfl) (ev_ok rfl) (tgt rfl) rfl (tgt rfl) rfl (by omega)) ?_ | refine g_o (op_loadA rfl (ev_ok rfl) (tgt rfl) rfl (Nat.succ_ne_zero _) rfl) ?_ | refine ⟨_, op_neAgg tabOK goodOK rfl (ev_ok rfl) (ev_ok rfl) rfl rfl rfl rfl (q_same _ _) q_guard, ?_⟩ | rw [t1] | rw [t3] | rw [t2]); conv => whnf))
        exact ⟨a.length - (i + 1), fun k => k, [0, 1, 4, 11, 12, 13], [], by omega, by kernel_rfl, i + 1, rfl, hlt, by rw [take_snoc a i hlt, take_snoc b i (by omega), ht, hv], rfl, rfl⟩
      · have t3 : (!decide (a.getD i 0 = b.getD i 0)) = true := by rw [decide_eq_false hv]; rfl
        have e : decide (a = b) = false := decide_eq_false (fun h => hv (by rw [h]))
        rw [e]
        (repeat ((first | refine step_w1 rfl rfl ?_ | refine step_i (by kernel_rfl) ?_ | refine g_o (op_indexN (α := Rat) (d := 0) rfl (ev_ok rfl) (ev_ok rfl) (tgt rfl) rfl (tgt rfl) rfl (by omega)) ?_ | refine g_o (op_loadA rfl (ev_ok rfl) (tgt rfl) rfl (Nat.succ_ne_zero _) rfl) ?_ | refine ⟨_, op_neAgg tabOK goodOK rfl (ev_ok rfl) (ev_ok rfl) rfl rfl rfl rfl (q_same _ _) q_guard, ?_⟩ | rw [t1] | rw [t3]); conv => whnf)); (first | exact Recast.refl _ | exact Frz.recast (Recast.refl _) rfl | (refine Frz.one rfl rfl ?_; skip) | (refine Frz.tup ?_; skip))
    · have t1 := dge hlt
      have hI : i = a.length := by omega
      have e : decide (a = b) = true := decide_eq_true (by rw [hI, List.take_length] at ht; rw [ht, hab, List.take_length])
      rw [e]
      (repeat (first | (refine step_w2 rfl rfl ?_; conv => whnf) | (rw [t1]; conv => whnf))); (first | exact Recast.refl _ | exact Frz.recast (Recast.refl _) rfl | (refine Frz.one rfl rfl ?_; skip) | (refine Frz.tup ?_; skip))
  · have t0 : ((a.length : Int) != (b.length : Int)) = true := bne_iff_ne.2 (by omega)
    have e : decide (a = b) = false := decide_eq_false (fun h => hab (by rw [h]))
    rw [e]
    (repeat (first | (refine step_w1 rfl rfl ?_; conv => whnf) | (refine g_o (op_lenM rfl rfl rfl (ev_ok rfl) (tgt rfl) rfl) ?_; conv => whnf) | (rw [t0]; conv => whnf))); (first | exact Recast.refl _ | exact Frz.recast (Recast.refl _) rfl | (refine Frz.one rfl rfl ?_; skip) | (refine Frz.tup ?_; skip))

theorem v_Same (a b : List Rat) (ha : a.length < 1099511627776) (hb : b.length < 1099511627776) : CallOK Tryz.prog 24 [fvec a, fvec b] [] (.val (.bool (decide (a = b)))) [] [] := by
  have k1 := v_Equal a b ha hb
  refine callV (Z := []) tabOK mixedOK Tryz.func24 rfl (by kernel_rfl) rfl rfl (by kernel_rfl) rfl ?_
  intro W0 w0 ρ0 hE
  conv => whnf
  (repeat (first | (refine g_c (by assumption) ?_; conv => whnf))); (first | exact Recast.refl _ | exact Frz.recast (Recast.refl _) rfl | (refine Frz.one rfl rfl ?_; skip) | (refine Frz.tup ?_; skip))

end Go.Proofs.YtgodfkgocbppgaaGreatDoor

namespace Go.Proofs.YtgodfkgocbppgaaGreatDoor
open Go.Sx
set_option linter.unusedSimpArgs false
set_option linter.unusedVariables false
set_option maxRecDepth 100000
set_option maxHeartbeats 4000000

theorem SWx_frzI {E : Env} (t k : Nat) {c : Code} {K : Post'} {fr : List (Nat × SV)} {hp : List (Nat × Blk)} {ty : TypeId} {n : Nat} {kd : IntKind} {xs : List Int} (hW : ∀ b, ¬ E.W0 b) (ht : lk fr t = some (.slc k 1 0 n)) (hk : find hp k = some ⟨ty, true, .ints kd xs⟩)
    (hn : n = xs.length) (hs : SWx E c K ((t, ivec kd xs) :: fr) (setB hp k ⟨ty, true, .dead⟩)) : SWx E c K fr hp := by
  refine SWx_freeze t k (xs := xs.map (iel kd)) hW ht hk rfl rfl (keylessL_map (fun _ => rfl) xs) (by simp; omega) ?_
  rw [cutL_all (by simp; omega)]
  exact hs
theorem snoc_end {L : List Int} {i : Nat} {d : Int} (h : L.length = i) : List.take i L ++ List.take 1 (List.drop 0 [d]) = L ++ [d] := by
  rw [List.take_of_length_le (by omega)]; rfl
abbrev zblk (l : List Int) : Blk := ⟨3, true, .ints .i64 l⟩

theorem r_trim (l : List Int) (hl : l.length < 1099511627776) (h : W4 l) : CallOK Tryz.prog 138 [ivec .i64 l] [] (nN (valT l l.length).toNat) [] [] := by
  refine callV (Z := []) tabOK mixedOK Tryz.func138 rfl (by kernel_rfl) rfl rfl (by kernel_rfl) rfl ?_
  intro W0 w0 ρ0 hE
  conv => whnf
  skip
  refine SW_loopN hE (fun k => k) [0] [] (fun m fr hp => ∃ x : List Int, m = x.length ∧ x.length ≤ l.length ∧ W4 x ∧ valT x x.length = valT l l.length ∧ fr = [(0, ivec .i64 x)] ∧ hp = []) l.length ?_ ?_ ?_
  · kernel_rfl
  · exact ⟨l, rfl, Nat.le_refl _, h, rfl, rfl, rfl⟩
  rintro m _ _ ⟨x, rfl, hx, hw, hv, rfl, rfl⟩
  conv => whnf
  by_cases h0 : 0 < x.length
  · have t1 : decide ((x.length : Int) > 0) = true := decide_eq_true (by omega)
    have e1 : IntKind.i64.wrap ((x.length : Int) - 1) = ((x.length - 1 : Nat) : Int) := by rw [wrap_i64 (by omega) (by omega)]; omega
    by_cases hz : x.getD (x.length - 1) 0 = 0
    · have t2 : (x.getD (x.length - 1) 0 == 0) = true := beq_iff_eq.2 hz
      (repeat ((first | refine step_w1 rfl rfl ?_ | refine g_o (op_pickT rfl (ev_ok rfl) (ev_ok rfl)) ?_ | refine g_o (op_lenM rfl rfl rfl (ev_ok rfl) (tgt rfl) rfl) ?_ | refine g_o (op_loadA rfl (ev_ok rfl) (tgt rfl) rfl (Nat.succ_ne_zero _) rfl) ?_ | refine g_o (op_indexM (α := Int) (d := 0) rfl (ev_ok rfl) (ev_ok rfl) (tgt rfl) rfl (tgt rfl) rfl (by omega)) ?_ | refine g_o (op_sliceM rfl (ev_ok rfl) (bound_spec rfl) (bound_spec rfl) (.inl rfl) (tgt rfl) rfl (tgt rfl) rfl (by omega)) ?_ | rw [t1] | rw [e1] | rw [t2] | rw [Int.toNat_natCast]); conv => whnf))
      have hl' : (x.take (x.length - 1)).length = x.length - 1 := by simp
      exact ⟨x.length - 1, fun k => k, [0], [], by omega, by kernel_rfl, x.take (x.length - 1), hl'.symm, by omega, W4_take hw _, (valT_last h0 hz).trans hv, rfl, rfl⟩
    · have t2 : (x.getD (x.length - 1) 0 == 0) = false := beq_false_of_ne hz
      have e : nN (valT l l.length).toNat = ivec .i64 x := by rw [nN, ← hv, td_is hw (.inr hz)]
      rw [e]
      (repeat ((first | refine step_w1 rfl rfl ?_ | refine step_w2 rfl rfl ?_ | refine g_o (op_pickT rfl (ev_ok rfl) (ev_ok rfl)) ?_ | refine g_o (op_lenM rfl rfl rfl (ev_ok rfl) (tgt rfl) rfl) ?_ | refine g_o (op_loadA rfl (ev_ok rfl) (tgt rfl) rfl (Nat.succ_ne_zero _) rfl) ?_ | refine g_o (op_indexM (α := Int) (d := 0) rfl (ev_ok rfl) (ev_ok rfl) (tgt rfl) rfl (tgt rfl) rfl (by omega)) ?_ | rw [t1] | rw [e1] | rw [t2] | rw [Int.toNat_natCast]); conv => whnf)); (first | exact Recast.refl _ | exact Frz.recast (Recast.refl _) rfl | (refine Frz.one rfl rfl ?_; skip) | (refine Frz.tup ?_; skip))
  · have t1 : decide ((x.length : Int) > 0) = false := decide_eq_false (by omega)
    have e : nN (valT l l.length).toNat = ivec .i64 x := by rw [nN, ← hv, td_is hw (.inl (by omega))]
    rw [e]
    (repeat ((first | refine step_w2 rfl rfl ?_ | refine g_o (op_pickF rfl (ev_ok rfl) (ev_ok rfl)) ?_ | refine g_o (op_lenM rfl rfl rfl (ev_ok rfl) (tgt rfl) rfl) ?_ | rw [t1]); conv => whnf)); (first | exact Recast.refl _ | exact Frz.recast (Recast.refl _) rfl | (refine Frz.one rfl rfl ?_; skip) | (refine Frz.tup ?_; skip))

theorem r_Of (n : Nat) (hn : n < 18446744073709551616) : CallOK Tryz.prog 145 [.val (.int .u64 (n : Nat))] [] (nN n) [] [] := by
  refine callF (Z := []) tabOK mixedOK Tryz.func145 rfl (by kernel_rfl) (by first | rfl | (simp [keylessL, keyless, keylessL_map, *]; done)) (by first | rfl | (simp [keylessL, keyless, keylessL_map, *]; done)) (by kernel_rfl) rfl ?_
  intro w0 ρ0 hE
  conv => whnf
  skip
  refine SWx_adopt (t := 3) (k := 2001) (s := 1) (blk := zblk []) rfl rfl rfl ?_
  refine SW_loopS hE (fun k => k) [0, 3] [2001] (fun m fr hp => ∃ (v : Nat) (L : List Int), m = v ∧ v ≤ n ∧ td n = L ++ td v ∧ L.length ≤ n ∧ L.length + v ≤ n ∧ fr = [(0, .val (.int .u64 (v : Nat))), (3, .slc 2001 1 0 L.length)] ∧ hp = [(2001, zblk L)]) n ?_ ?_ ?_
  · kernel_rfl
  · exact ⟨n, [], rfl, Nat.le_refl _, rfl, Nat.zero_le _, by simp, rfl, rfl⟩
  rintro m _ _ ⟨v, L, rfl, hv, hL, hl, hl2, rfl, rfl⟩
  by_cases h0 : 0 < m
  · have hlen : L.length < 1099511627776 := by
      have := congrArg List.length hL
      rw [List.length_append] at this
      have h5 : (td n).length ≤ 5 := tlen_le (by omega)
      omega
    have t1 : decide ((m : Int) > 0) = true := decide_eq_true (by omega)
    have e0 : (m : Int).tmod 10000 = ((m % 10000 : Nat) : Int) := by rw [Int.tmod_eq_emod_of_nonneg (by omega)]; omega
    have e1 : IntKind.i64.wrap ((m : Int).tmod 10000) = ((m % 10000 : Nat) : Int) := by rw [e0, wrap_i64 (by omega) (by omega)]
    have e2 : (m : Int).tdiv 10000 = ((m / 10000 : Nat) : Int) := by rw [Int.tdiv_eq_ediv_of_nonneg (by omega)]; omega
    have e3 : IntKind.u64.wrap ((m : Int).tdiv 10000) = ((m / 10000 : Nat) : Int) := by rw [e2, wrap_u64 (by omega) (by omega)]
    refine SWx.of hE ?_
    conv => whnf
    (repeat ((first | refine step_w1 rfl rfl ?_ | refine And.intro (by first | decide | omega | (simp only [tiB5, tiB23, tiB3, tiB2, tiB9, tiB41, tiB72, tiB29, tiB30, tiB39, tiB33, tiB4, tiB68, tiB70, dlen, List.length_replicate, List.length_set, List.length_map, List.length_zipWith, List.length_take, List.length_append, List.length_cons, List.length_nil]; omega)) ?_ | rw [t1] | rw [e1] | rw [e3]); conv => whnf))
    refine ⟨m / 10000, renBy [(11, 2001)], [0, 3], [11], Nat.div_lt_self h0 (by decide), by kernel_rfl, m / 10000, L ++ [((m % 10000 : Nat) : Int)], rfl, by omega, ?_, ?_, ?_, ?_, ?_⟩
    · rw [hL, td_succ (by omega), List.append_assoc]; rfl
    · rw [List.length_append]; simp; omega
    · rw [List.length_append]; simp; omega
    · rw [List.length_append]; rfl
    · rw [← snoc_end rfl]; rfl
  · have t1 : decide ((m : Int) > 0) = false := decide_eq_false (by omega)
    have hm : m = 0 := by omega
    subst hm
    rw [td_zero, List.append_nil] at hL
    refine SWx_frzI 3 2001 (fun _ h => h) rfl rfl rfl ?_
    refine SWx.of hE ?_
    conv => whnf
    have e : nN n = ivec .i64 L := by rw [nN, hL]
    rw [e]
    (repeat (first | (refine step_w2 rfl rfl ?_; conv => whnf))); (first | exact Recast.refl _ | exact Frz.recast (Recast.refl _) rfl | (refine Frz.one rfl rfl ?_; skip) | (refine Frz.tup ?_; skip))

theorem r_at (n i : Nat) (hn : (td n).length < 1099511627776) : CallOK Tryz.prog 137 [nN n, .val (.int .i64 (i : Nat))] [] (.val (.int .i64 ((td n).getD i 0))) [] [] := by
  refine callV (Z := []) tabOK mixedOK Tryz.func137 rfl (by kernel_rfl) rfl rfl (by kernel_rfl) rfl ?_
  intro W0 w0 ρ0 hE
  conv => whnf
  by_cases h : i < (td n).length
  · have t1 : decide ((i : Int) < ((td n).length : Int)) = true := decide_eq_true (by omega)
    (repeat ((first | refine step_w1 rfl rfl ?_ | refine g_o (op_lenM rfl rfl rfl (ev_ok rfl) (tgt rfl) rfl) ?_ | refine g_o (op_loadA rfl (ev_ok rfl) (tgt rfl) rfl (Nat.succ_ne_zero _) rfl) ?_ | refine g_o (op_indexN (α := Int) (d := 0) rfl (ev_ok rfl) (ev_ok rfl) (tgt rfl) rfl (tgt rfl) rfl (by omega)) ?_ | rw [t1]); conv => whnf)); (first | exact Recast.refl _ | exact Frz.recast (Recast.refl _) rfl | (refine Frz.one rfl rfl ?_; skip) | (refine Frz.tup ?_; skip))
  · have t1 : decide ((i : Int) < ((td n).length : Int)) = false := decide_eq_false (by omega)
    rw [getD_ge (by omega)]
    (repeat (first | (refine step_w2 rfl rfl ?_; conv => whnf) | (refine g_o (op_lenM rfl rfl rfl (ev_ok rfl) (tgt rfl) rfl) ?_; conv => whnf) | (rw [t1]; conv => whnf))); (first | exact Recast.refl _ | exact Frz.recast (Recast.refl _) rfl | (refine Frz.one rfl rfl ?_; skip) | (refine Frz.tup ?_; skip))
end Go.Proofs.YtgodfkgocbppgaaGreatDoor

namespace Go.Proofs.YtgodfkgocbppgaaGreatDoor
open Go.Sx
set_option linter.unusedSimpArgs false
set_option linter.unusedVariables false
set_option maxRecDepth 100000
set_option maxHeartbeats 4000000

theorem valT_diff {xs ys : List Int} {j : Nat} : ∀ {n : Nat}, j ≤ n → (∀ i, j ≤ i → i < n → xs.getD i 0 = ys.getD i 0) → valT xs n - valT ys n = valT xs j - valT ys j
  | 0, h, _ => by obtain rfl : j = 0 := by omega
                  rfl
  | n + 1, h, he => by
    by_cases hj : j = n + 1
    · rw [hj]
    · have := valT_diff (n := n) (by omega) (fun i h1 h2 => he i h1 (by omega))
      rw [valT, valT, he n (by omega) (by omega)]; omega
theorem valT_lt_of {xs ys : List Int} (hx : W4 xs) (hy : W4 ys) {j : Nat} (h : xs.getD j 0 < ys.getD j 0) : valT xs (j + 1) < valT ys (j + 1) := by
  have h1 := valT_lt hx j
  have h2 := valT_nonneg hy j
  have h3 : (xs.getD j 0 + 1) * 10000 ^ j ≤ ys.getD j 0 * 10000 ^ j := Int.mul_le_mul_of_nonneg_right (by omega) (Int.le_of_lt (powT_pos j))
  rw [Int.add_mul, Int.one_mul] at h3
  rw [valT, valT]; omega

theorem r_Cmp (a b : Nat) (ha : (td a).length < 1099511627776) (hb : (td b).length < 1099511627776) : CallOK Tryz.prog 136 [nN a, nN b] [] (.val (.int .i64 ((a : Int) - b).sign)) [] [] := by
  refine callV (Z := []) tabOK mixedOK Tryz.func136 rfl (by kernel_rfl) rfl rfl (by kernel_rfl) rfl ?_
  intro W0 w0 ρ0 hE
  conv => whnf
  by_cases h1 : (td a).length < (td b).length
  · have t1 : decide (((td a).length : Int) < ((td b).length : Int)) = true := decide_eq_true (by omega)
    have := td_len_lt h1
    rw [Int.sign_eq_neg_one_of_neg (show (a : Int) - b < 0 by omega)]
    (repeat (first | (refine step_w1 rfl rfl ?_; conv => whnf) | (refine g_o (op_lenM rfl rfl rfl (ev_ok rfl) (tgt rfl) rfl) ?_; conv => whnf) | (rw [t1]; conv => whnf))); (first | exact Recast.refl _ | exact Frz.recast (Recast.refl _) rfl | (refine Frz.one rfl rfl ?_; skip) | (refine Frz.tup ?_; skip))
  have t1 : decide (((td a).length : Int) < ((td b).length : Int)) = false := decide_eq_false (by omega)
  by_cases h2 : (td b).length < (td a).length
  · have t2 : decide (((td a).length : Int) > ((td b).length : Int)) = true := decide_eq_true (by omega)
    have := td_len_lt h2
    rw [Int.sign_eq_one_of_pos (show 0 < (a : Int) - b by omega)]
    (repeat ((first | refine step_w1 rfl rfl ?_ | refine step_w2 rfl rfl ?_ | refine g_o (op_lenM rfl rfl rfl (ev_ok rfl) (tgt rfl) rfl) ?_ | rw [t1] | rw [t2]); conv => whnf)); (first | exact Recast.refl _ | exact Frz.recast (Recast.refl _) rfl | (refine Frz.one rfl rfl ?_; skip) | (refine Frz.tup ?_; skip))
  have t2 : decide (((td a).length : Int) > ((td b).length : Int)) = false := decide_eq_false (by omega)
  have e0 : IntKind.i64.wrap (((td a).length : Int) - 1) = ((td a).length : Int) - 1 := wrap_i64 (by omega) (by omega)
  have va := td_valN a (td a).length (Nat.le_refl _)
  have vb := td_valN b (td a).length (by omega)
  have wa := td_w32 a
  have wb := td_w32 b
  (repeat ((first | refine step_w2 rfl rfl ?_ | refine g_o (op_lenM rfl rfl rfl (ev_ok rfl) (tgt rfl) rfl) ?_ | rw [t1] | rw [t2] | rw [e0]); conv => whnf))
  refine SW_loopN hE (fun k => k) [0, 1, 5] [] (fun m fr hp => m ≤ (td a).length ∧ (∀ i, m ≤ i → i < (td a).length → (td a).getD i 0 = (td b).getD i 0) ∧ fr = [(0, nN a), (1, nN b), (5, .val (.int .i64 ((m : Int) - 1)))] ∧ hp = []) (td a).length ?_ ?_ ?_
  · kernel_rfl
  · exact ⟨Nat.le_refl _, (fun i h1 h2 => by omega), rfl, rfl⟩
  rintro j _ _ ⟨hj, heq, rfl, rfl⟩
  have hd := valT_diff hj heq
  rw [va, vb] at hd
  conv => whnf
  by_cases h0 : j = 0
  · subst h0
    have t3 : decide (((0 : Nat) : Int) - 1 ≥ 0) = false := rfl
    have e : ((a : Int) - b).sign = 0 := by rw [hd]; rfl
    rw [e]
    (repeat (first | (refine step_w2 rfl rfl ?_; conv => whnf))); (first | exact Recast.refl _ | exact Frz.recast (Recast.refl _) rfl | (refine Frz.one rfl rfl ?_; skip) | (refine Frz.tup ?_; skip))
  · obtain ⟨i, rfl⟩ : ∃ i, j = i + 1 := ⟨j - 1, by omega⟩
    have ei : (((i + 1 : Nat) : Int) - 1) = (i : Int) := by omega
    rw [ei]
    have hib : i < (td b).length := by omega
    have t3 : decide ((i : Int) ≥ 0) = true := decide_eq_true (by omega)
    have e2 : IntKind.i64.wrap ((i : Int) - 1) = (i : Int) - 1 := wrap_i64 (by omega) (by omega)
    by_cases hlt : (td a).getD i 0 < (td b).getD i 0
    · have t4 : decide ((td a).getD i 0 < (td b).getD i 0) = true := decide_eq_true hlt
      have := valT_lt_of wa wb hlt
      rw [Int.sign_eq_neg_one_of_neg (show (a : Int) - b < 0 by omega)]
      (repeat ((first | refine step_w1 rfl rfl ?_ | refine step_i (by kernel_rfl) ?_ | refine g_o (op_loadA rfl (ev_ok rfl) (tgt rfl) rfl (Nat.succ_ne_zero _) rfl) ?_ | refine g_o (op_indexN (α := Int) (d := 0) rfl (ev_ok rfl) (ev_ok rfl) (tgt rfl) rfl (tgt rfl) rfl (by omega)) ?_ | rw [t3] | rw [t4]); conv => whnf)); (first | exact Recast.refl _ | exact Frz.recast (Recast.refl _) rfl | (refine Frz.one rfl rfl ?_; skip) | (refine Frz.tup ?_; skip))
    · have t4 : decide ((td a).getD i 0 < (td b).getD i 0) = false := decide_eq_false hlt
      by_cases hgt : (td b).getD i 0 < (td a).getD i 0
      · have t5 : decide ((td a).getD i 0 > (td b).getD i 0) = true := decide_eq_true hgt
        have := valT_lt_of wb wa hgt
        rw [Int.sign_eq_one_of_pos (show 0 < (a : Int) - b by omega)]
        (repeat ((first | refine step_w1 rfl rfl ?_ | refine step_w2 rfl rfl ?_ | refine step_i (by kernel_rfl) ?_ | refine g_o (op_loadA rfl (ev_ok rfl) (tgt rfl) rfl (Nat.succ_ne_zero _) rfl) ?_ | refine g_o (op_indexN (α := Int) (d := 0) rfl (ev_ok rfl) (ev_ok rfl) (tgt rfl) rfl (tgt rfl) rfl (by omega)) ?_ | rw [t3] | rw [t4] | rw [t5]); conv => whnf)); (first | exact Recast.refl _ | exact Frz.recast (Recast.refl _) rfl | (refine Frz.one rfl rfl ?_; skip) | (refine Frz.tup ?_; skip))
      · have t5 : decide ((td a).getD i 0 > (td b).getD i 0) = false := decide_eq_false hgt
        (repeat ((first | refine step_w1 rfl rfl ?_ | refine step_w2 rfl rfl ?_ | refine step_i (by kernel_rfl) ?_ | refine g_o (op_loadA rfl (ev_ok rfl) (tgt rfl) rfl (Nat.succ_ne_zero _) rfl) ?_ | refine g_o (op_indexN (α := Int) (d := 0) rfl (ev_ok rfl) (ev_ok rfl) (tgt rfl) rfl (tgt rfl) rfl (by omega)) ?_ | rw [t3] | rw [t4] | rw [t5] | rw [e2]); conv => whnf))
        exact ⟨i, fun k => k, [0, 1, 5], [], by omega, by kernel_rfl, by omega, (fun q h1 h2 => by
          by_cases hq : q = i
          · rw [hq]; omega
          · exact heq q (by omega) h2), rfl, rfl⟩

theorem add_carry {P vL va vb c x y D C : Int} (h : vL + c * P = va + vb) (hD : x + y + c = D + 10000 * C) : vL + D * P + C * (P * 10000) = va + x * P + (vb + y * P) := by
  have h2 : (x + y + c) * P = (D + 10000 * C) * P := by rw [hD]
  grind

theorem r_Add (a b : Nat) (ha : (td a).length < 1073741824) (hb : (td b).length < 1073741824) : CallOK Tryz.prog 117 [nN a, nN b] [] (nN (a + b)) [] [] := by
  have wa := td_w32 a
  have wb := td_w32 b
  refine callF (Z := []) tabOK mixedOK Tryz.func117 rfl (by kernel_rfl) (by first | rfl | (simp [keylessL, keyless, keylessL_map, *]; done)) (by first | rfl | (simp [keylessL, keyless, keylessL_map, *]; done)) (by kernel_rfl) rfl ?_
  intro w0 ρ0 hE
  conv => whnf
  skip
  generalize hM : max (td a).length (td b).length = M
  refine SWx_adopt (t := 5) (k := 2001) (s := 1) (blk := zblk []) rfl rfl rfl ?_
  refine SW_loopS hE (fun k => k) [0, 1, 5, 6, 7] [2001] (fun m fr hp => ∃ (i : Nat) (L : List Int) (c : Int), m = M + 2 - i ∧ i ≤ M + 1 ∧ L.length = i ∧ W4 L ∧ 0 ≤ c ∧ c ≤ 1 ∧ (M < i → c = 0) ∧ valT L i + c * 10000 ^ i = valT (td a) i + valT (td b) i ∧
    fr = [(0, nN a), (1, nN b), (5, .slc 2001 1 0 i), (6, .val (.int .i64 c)), (7, .val (.int .i64 (i : Nat)))] ∧ hp = [(2001, zblk L)]) (M + 2) ?_ ?_ ?_
  · kernel_rfl
  · exact ⟨0, [], 0, rfl, by omega, rfl, (fun i => by simp), by omega, by omega, (fun _ => rfl), rfl, rfl, rfl⟩
  rintro m _ _ ⟨i, L, c, rfl, hi, hl, hw, hc0, hc1, hcM, hv, rfl, rfl⟩
  by_cases hgo : i < (td a).length ∨ i < (td b).length ∨ 0 < c
  · have hiM : i ≤ M := by
      rcases hgo with h | h | h
      · omega
      · omega
      · rcases Nat.lt_or_ge M i with g | g
        · have := hcM g; omega
        · exact g
    have k1 := r_at a i (by omega)
    have k2 := r_at b i (by omega)
    have hx := wa i
    have hy := wb i
    have hxz : (td a).length ≤ i → (td a).getD i 0 = 0 := fun h => getD_ge h
    have hyz : (td b).length ≤ i → (td b).getD i 0 = 0 := fun h => getD_ge h
    generalize hxe : (td a).getD i 0 = x at *
    generalize hye : (td b).getD i 0 = y at *
    have e1 : IntKind.i64.wrap (x + y) = x + y := wrap_i64 (by omega) (by omega)
    have e2 : IntKind.i64.wrap (x + y + c) = x + y + c := wrap_i64 (by omega) (by omega)
    have e3 : (x + y + c).tmod 10000 = (x + y + c) % 10000 := Int.tmod_eq_emod_of_nonneg (by omega)
    have e4 : IntKind.i64.wrap ((x + y + c).tdiv 10000) = (x + y + c) / 10000 := by rw [Int.tdiv_eq_ediv_of_nonneg (by omega)]; exact wrap_i64 (by omega) (by omega)
    have e5 : (x + y + c).tdiv 10000 = (x + y + c) / 10000 := Int.tdiv_eq_ediv_of_nonneg (by omega)
    have e6 := winc (i := i) (by omega)
    have hc2 : M < i + 1 → (x + y + c) / 10000 = 0 := fun h => by
      have := hxz (by omega); have := hyz (by omega); omega
    have hiA : i < 1099511627776 := by omega
    clear hxz hyz
    have hstep : valT (L ++ [(x + y + c) % 10000]) (i + 1) + (x + y + c) / 10000 * 10000 ^ (i + 1) = valT (td a) (i + 1) + valT (td b) (i + 1) := by
      have h1 := valT_snoc L ((x + y + c) % 10000)
      rw [hl] at h1
      rw [h1, valT, valT, Int.pow_succ, hxe, hye]
      exact add_carry hv (by omega)
    have hw2 : W4 (L ++ [(x + y + c) % 10000]) := W4_snoc hw (by omega) (by omega)
    have hl2 : (L ++ [(x + y + c) % 10000]).length = i + 1 := by rw [List.length_append, hl]; rfl
    have hhp := snoc_end (d := (x + y + c) % 10000) hl
    refine SWx.of hE ?_
    conv => whnf
    by_cases g1 : i < (td a).length
    · have t1 : decide ((i : Int) < ((td a).length : Int)) = true := decide_eq_true (by omega)
      (repeat ((first | refine step_w1 rfl rfl ?_ | refine step_w2 rfl rfl ?_ | refine step_oA (by first | omega | decide | (simp only [tiB5, tiB23, tiB3, tiB2, tiB9, tiB41, tiB72, tiB29, tiB30, tiB39, tiB33, tiB4, tiB68, tiB70, dlen, List.length_replicate, List.length_set, List.length_map, List.length_zipWith, List.length_take, List.length_append, List.length_cons, List.length_nil]; omega)) ?_ | refine step_oN (by first | omega | decide | (simp only [tiB5, tiB23, tiB3, tiB2, tiB9, tiB41, tiB72, tiB29, tiB30, tiB39, tiB33, tiB4, tiB68, tiB70, dlen, List.length_replicate, List.length_set, List.length_map, List.length_zipWith, List.length_take, List.length_append, List.length_cons, List.length_nil]; omega)) ?_ | refine g_c (by assumption) ?_ | refine g_o (op_pickT rfl (ev_ok rfl) (ev_ok rfl)) ?_ | refine g_o (op_lenM rfl rfl rfl (ev_ok rfl) (tgt rfl) rfl) ?_ | rw [t1] | rw [e1] | rw [e2] | rw [e3] | rw [e4] | rw [e6]); conv => whnf))
      exact ⟨M + 2 - (i + 1), renBy [(38, 2001)], [0, 1, 5, 6, 7], [38], by omega, by kernel_rfl, i + 1, _, _, rfl, by omega, hl2, hw2, by omega, by omega, hc2, hstep, rfl, by rw [← hhp]; rfl⟩
    · have t1 : decide ((i : Int) < ((td a).length : Int)) = false := decide_eq_false (by omega)
      by_cases g2 : i < (td b).length
      · have t2 : decide ((i : Int) < ((td b).length : Int)) = true := decide_eq_true (by omega)
        (repeat ((first | refine step_w1 rfl rfl ?_ | refine step_w2 rfl rfl ?_ | refine step_oA (by first | omega | decide | (simp only [tiB5, tiB23, tiB3, tiB2, tiB9, tiB41, tiB72, tiB29, tiB30, tiB39, tiB33, tiB4, tiB68, tiB70, dlen, List.length_replicate, List.length_set, List.length_map, List.length_zipWith, List.length_take, List.length_append, List.length_cons, List.length_nil]; omega)) ?_ | refine step_oN (by first | omega | decide | (simp only [tiB5, tiB23, tiB3, tiB2, tiB9, tiB41, tiB72, tiB29, tiB30, tiB39, tiB33, tiB4, tiB68, tiB70, dlen, List.length_replicate, List.length_set, List.length_map, List.length_zipWith, List.length_take, List.length_append, List.length_cons, List.length_nil]; omega)) ?_ | refine g_c (by assumption) ?_ | refine g_o (op_pickT rfl (ev_ok rfl) (ev_ok rfl)) ?_ | refine g_o (op_pickF rfl (ev_ok rfl) (ev_ok rfl)) ?_ | refine g_o (op_lenM rfl rfl rfl (ev_ok rfl) (tgt rfl) rfl) ?_ | rw [t1] | rw [t2] | rw [e1] | rw [e2] | rw [e3] | rw [e4] | rw [e6]); conv => whnf))
        exact ⟨M + 2 - (i + 1), renBy [(38, 2001)], [0, 1, 5, 6, 7], [38], by omega, by kernel_rfl, i + 1, _, _, rfl, by omega, hl2, hw2, by omega, by omega, hc2, hstep, rfl, by rw [← hhp]; rfl⟩
      · have t2 : decide ((i : Int) < ((td b).length : Int)) = false := decide_eq_false (by omega)
        have t3 : decide (c > 0) = true := decide_eq_true (by omega)
        (repeat ((first | refine step_w1 rfl rfl ?_ | refine step_oA (by first | omega | decide | (simp only [tiB5, tiB23, tiB3, tiB2, tiB9, tiB41, tiB72, tiB29, tiB30, tiB39, tiB33, tiB4, tiB68, tiB70, dlen, List.length_replicate, List.length_set, List.length_map, List.length_zipWith, List.length_take, List.length_append, List.length_cons, List.length_nil]; omega)) ?_ | refine step_oN (by first | omega | decide | (simp only [tiB5, tiB23, tiB3, tiB2, tiB9, tiB41, tiB72, tiB29, tiB30, tiB39, tiB33, tiB4, tiB68, tiB70, dlen, List.length_replicate, List.length_set, List.length_map, List.length_zipWith, List.length_take, List.length_append, List.length_cons, List.length_nil]; omega)) ?_ | refine g_c (by assumption) ?_ | refine g_o (op_pickF rfl (ev_ok rfl) (ev_ok rfl)) ?_ | refine g_o (op_lenM rfl rfl rfl (ev_ok rfl) (tgt rfl) rfl) ?_ | rw [t1] | rw [t2] | rw [t3] | rw [e1] | rw [e2] | rw [e3] | rw [e4] | rw [e6]); conv => whnf))
        exact ⟨M + 2 - (i + 1), renBy [(38, 2001)], [0, 1, 5, 6, 7], [38], by omega, by kernel_rfl, i + 1, _, _, rfl, by omega, hl2, hw2, by omega, by omega, hc2, hstep, rfl, by rw [← hhp]; rfl⟩
  · have t1 : decide ((i : Int) < ((td a).length : Int)) = false := decide_eq_false (by omega)
    have t2 : decide ((i : Int) < ((td b).length : Int)) = false := decide_eq_false (by omega)
    have t3 : decide (c > 0) = false := decide_eq_false (by omega)
    have hc : c = 0 := by omega
    subst hc
    rw [td_valN a i (by omega), td_valN b i (by omega)] at hv
    have k1 := r_trim L (by omega) hw
    rw [show (valT L L.length).toNat = a + b by rw [hl]; omega] at k1
    refine SWx_frzI 5 2001 (fun _ h => h) rfl rfl hl.symm ?_
    refine SWx.of hE ?_
    conv => whnf
    (repeat ((first | refine step_w1 rfl rfl ?_ | refine step_w2 rfl rfl ?_ | refine g_c (by assumption) ?_ | refine g_o (op_pickF rfl (ev_ok rfl) (ev_ok rfl)) ?_ | refine g_o (op_lenM rfl rfl rfl (ev_ok rfl) (tgt rfl) rfl) ?_ | rw [t1] | rw [t2]); conv => whnf)); (first | exact Recast.refl _ | exact Frz.recast (Recast.refl _) rfl | (refine Frz.one rfl rfl ?_; skip) | (refine Frz.tup ?_; skip))

theorem sub_lend {P vL va vb c x y D C : Int} (h : vL - c * P = va - vb) (hD : x - y - c = D - 10000 * C) : vL + D * P - C * (P * 10000) = va + x * P - (vb + y * P) := by
  have h2 : (x - y - c) * P = (D - 10000 * C) * P := by rw [hD]
  grind
theorem r_Sub (a b : Nat) (hab : b ≤ a) (ha : (td a).length < 1073741824) : CallOK Tryz.prog 135 [nN a, nN b] [] (nN (a - b)) [] [] := by
  have wa := td_w32 a
  have wb := td_w32 b
  have hlb := td_len_mono hab
  refine callF (Z := []) tabOK mixedOK Tryz.func135 rfl (by kernel_rfl) (by first | rfl | (simp [keylessL, keyless, keylessL_map, *]; done)) (by first | rfl | (simp [keylessL, keyless, keylessL_map, *]; done)) (by kernel_rfl) rfl ?_
  intro w0 ρ0 hE
  conv => whnf
  skip
  refine SWx_adopt (t := 5) (k := 2001) (s := 1) (blk := zblk []) rfl rfl rfl ?_
  refine SW_loopS hE (fun k => k) [0, 1, 5, 6, 7] [2001] (fun m fr hp => ∃ (i : Nat) (L : List Int) (c : Int), m = (td a).length - i ∧ i ≤ (td a).length ∧ L.length = i ∧ W4 L ∧ 0 ≤ c ∧ c ≤ 1 ∧ valT L i - c * 10000 ^ i = valT (td a) i - valT (td b) i ∧
    fr = [(0, nN a), (1, nN b), (5, .slc 2001 1 0 i), (6, .val (.int .i64 c)), (7, .val (.int .i64 (i : Nat)))] ∧ hp = [(2001, zblk L)]) (td a).length ?_ ?_ ?_
  · kernel_rfl
  · exact ⟨0, [], 0, rfl, by omega, rfl, (fun i => by simp), by omega, by omega, rfl, rfl, rfl⟩
  rintro m _ _ ⟨i, L, c, rfl, hi, hl, hw, hc0, hc1, hv, rfl, rfl⟩
  by_cases hlt : i < (td a).length
  · have t1 : decide ((i : Int) < ((td a).length : Int)) = true := decide_eq_true (by omega)
    have k2 := r_at b i (by omega)
    have hx := wa i
    have hy := wb i
    generalize hxe : (td a).getD i 0 = x at *
    generalize hye : (td b).getD i 0 = y at *
    have e1 : IntKind.i64.wrap (x - y) = x - y := wrap_i64 (by omega) (by omega)
    have e2 : IntKind.i64.wrap (x - y - c) = x - y - c := wrap_i64 (by omega) (by omega)
    have e6 := winc (i := i) (by omega)
    have hst : ∀ D C, x - y - c = D - 10000 * C → valT (L ++ [D]) (i + 1) - C * 10000 ^ (i + 1) = valT (td a) (i + 1) - valT (td b) (i + 1) := fun D C hD => by
      have h1 := valT_snoc L D
      rw [hl] at h1
      rw [h1, valT, valT, Int.pow_succ, hxe, hye]
      exact sub_lend hv hD
    have hl2 : ∀ D : Int, (L ++ [D]).length = i + 1 := fun D => by rw [List.length_append, hl]; rfl
    have hhp := fun D => snoc_end (d := D) hl
    refine SWx.of hE ?_
    conv => whnf
    by_cases hn : x - y - c < 0
    · have t2 : decide (x - y - c < 0) = true := decide_eq_true hn
      have e3 : IntKind.i64.wrap (x - y - c + 10000) = x - y - c + 10000 := wrap_i64 (by omega) (by omega)
      (repeat ((first | refine step_w1 rfl rfl ?_ | refine step_i (by kernel_rfl) ?_ | refine step_oA (by first | omega | decide | (simp only [tiB5, tiB23, tiB3, tiB2, tiB9, tiB41, tiB72, tiB29, tiB30, tiB39, tiB33, tiB4, tiB68, tiB70, dlen, List.length_replicate, List.length_set, List.length_map, List.length_zipWith, List.length_take, List.length_append, List.length_cons, List.length_nil]; omega)) ?_ | refine g_c (by assumption) ?_ | refine g_o (op_lenM rfl rfl rfl (ev_ok rfl) (tgt rfl) rfl) ?_ | refine g_o (op_loadA rfl (ev_ok rfl) (tgt rfl) rfl (Nat.succ_ne_zero _) rfl) ?_ | refine g_o (op_indexN (α := Int) (d := 0) rfl (ev_ok rfl) (ev_ok rfl) (tgt rfl) rfl (tgt rfl) rfl (by omega)) ?_ | rw [t1] | rw [hxe] | rw [e1] | rw [e2] | rw [t2] | rw [e3] | rw [e6]); conv => whnf))
      exact ⟨(td a).length - (i + 1), renBy [(32, 2001)], [0, 1, 5, 6, 7], [32], by omega, by kernel_rfl, i + 1, _, 1, rfl, by omega, hl2 _, W4_snoc hw (show 0 ≤ x - y - c + 10000 by omega) (by omega), by omega, by omega, hst _ _ (by omega), rfl, by rw [← hhp]; rfl⟩
    · have t2 : decide (x - y - c < 0) = false := decide_eq_false hn
      (repeat ((first | refine step_w1 rfl rfl ?_ | refine step_w2 rfl rfl ?_ | refine step_i (by kernel_rfl) ?_ | refine step_oA (by first | omega | decide | (simp only [tiB5, tiB23, tiB3, tiB2, tiB9, tiB41, tiB72, tiB29, tiB30, tiB39, tiB33, tiB4, tiB68, tiB70, dlen, List.length_replicate, List.length_set, List.length_map, List.length_zipWith, List.length_take, List.length_append, List.length_cons, List.length_nil]; omega)) ?_ | refine g_c (by assumption) ?_ | refine g_o (op_lenM rfl rfl rfl (ev_ok rfl) (tgt rfl) rfl) ?_ | refine g_o (op_loadA rfl (ev_ok rfl) (tgt rfl) rfl (Nat.succ_ne_zero _) rfl) ?_ | refine g_o (op_indexN (α := Int) (d := 0) rfl (ev_ok rfl) (ev_ok rfl) (tgt rfl) rfl (tgt rfl) rfl (by omega)) ?_ | rw [t1] | rw [hxe] | rw [e1] | rw [e2] | rw [t2] | rw [e6]); conv => whnf))
      exact ⟨(td a).length - (i + 1), renBy [(32, 2001)], [0, 1, 5, 6, 7], [32], by omega, by kernel_rfl, i + 1, _, 0, rfl, by omega, hl2 _, W4_snoc hw (show 0 ≤ x - y - c by omega) (by omega), by omega, by omega, hst _ _ (by omega), rfl, by rw [← hhp]; rfl⟩
  · have t1 : decide ((i : Int) < ((td a).length : Int)) = false := decide_eq_false (by omega)
    rw [td_valN a i (by omega), td_valN b i (by omega)] at hv
    have h1 := valT_lt hw i
    have hc : c = 0 := by
      rcases (show c = 0 ∨ c = 1 by omega) with h | h
      · exact h
      · subst h; omega
    subst hc
    have k1 := r_trim L (by omega) hw
    rw [show (valT L L.length).toNat = a - b by rw [hl]; omega] at k1
    refine SWx_frzI 5 2001 (fun _ h => h) rfl rfl hl.symm ?_
    refine SWx.of hE ?_
    conv => whnf
    (repeat ((first | refine step_w2 rfl rfl ?_ | refine g_c (by assumption) ?_ | refine g_o (op_lenM rfl rfl rfl (ev_ok rfl) (tgt rfl) rfl) ?_ | rw [t1]); conv => whnf)); (first | exact Recast.refl _ | exact Frz.recast (Recast.refl _) rfl | (refine Frz.one rfl rfl ?_; skip) | (refine Frz.tup ?_; skip))
end Go.Proofs.YtgodfkgocbppgaaGreatDoor

namespace Go.Proofs.YtgodfkgocbppgaaGreatDoor
open Go.Sx
set_option linter.unusedSimpArgs false
set_option linter.unusedVariables false
set_option maxRecDepth 100000
set_option maxHeartbeats 4000000

theorem mul_carry {V P c x y o D C R : Int} (hV : V + c * P = R) (hD : o + x * y + c = D + 10000 * C) : V + (D - o) * P + C * (P * 10000) = R + x * y * P := by
  have h2 : (o + x * y + c) * P = (D + 10000 * C) * P := by rw [hD]
  grind
theorem pow_lt_of {i k l : Nat} (h : (10000 : Int) ^ i < 10000 ^ k) : i < k := by
  rcases Nat.lt_or_ge i k with g | g
  · exact g
  · have : (10000 : Nat) ^ k ≤ 10000 ^ i := Nat.pow_le_pow_right (by decide) g
    have h2 : ((10000 ^ k : Nat) : Int) ≤ ((10000 ^ i : Nat) : Int) := Int.ofNat_le.2 this
    rw [natPowT, natPowT] at h2
    omega

theorem r_Mul (a b : Nat) (ha : (td a).length < 536870912) (hb : (td b).length < 536870912) : CallOK Tryz.prog 108 [nN a, nN b] [] (nN (a * b)) [] [] := by
  have wa := td_w32 a
  have wb := td_w32 b
  have ela : IntKind.i64.wrap (((td a).length : Int) + ((td b).length : Int)) = (((td a).length + (td b).length : Nat) : Int) := by rw [wrap_i64 (by omega) (by omega)]; omega
  refine callF (Z := []) tabOK mixedOK Tryz.func108 rfl (by kernel_rfl) (by first | rfl | (simp [keylessL, keyless, keylessL_map, *]; done)) (by first | rfl | (simp [keylessL, keyless, keylessL_map, *]; done)) (by kernel_rfl) rfl ?_
  intro w0 ρ0 hE
  conv => whnf
  (repeat ((first | refine step_oA (by first | omega | decide | (simp only [tiB5, tiB23, tiB3, tiB2, tiB9, tiB41, tiB72, tiB29, tiB30, tiB39, tiB33, tiB4, tiB68, tiB70, dlen, List.length_replicate, List.length_set, List.length_map, List.length_zipWith, List.length_take, List.length_append, List.length_cons, List.length_nil]; omega)) ?_ | refine g_o (op_lenM rfl rfl rfl (ev_ok rfl) (tgt rfl) rfl) ?_ | rw [ela] | rw [Int.toNat_natCast]); conv => whnf))
  generalize hla : (td a).length = la at *
  generalize hlb : (td b).length = lb at *
  refine SW_loopS hE (fun k => k) [0, 1, 5, 6] [15] (fun m fr hp => ∃ (i : Nat) (out : List Int), m = la - i ∧ i ≤ la ∧ out.length = la + lb ∧ W4 out ∧ valT out (la + lb) = valT (td a) i * b ∧
    fr = [(0, nN a), (1, nN b), (5, .slc 15 1 0 (la + lb)), (6, .val (.int .i64 (i : Nat)))] ∧ hp = [(15, zblk out)]) la ?_ ?_ ?_
  · kernel_rfl
  · refine ⟨0, List.replicate (la + lb) 0, rfl, Nat.zero_le _, List.length_replicate, W4_of (fun x hx => by rw [(List.mem_replicate.1 hx).2]; omega), ?_, rfl, rfl⟩
    rw [valT_zeros (k := 0) (fun i _ _ => getD_replicate) (Nat.zero_le _)]; simp [valT]
  rintro m _ _ ⟨i, out, rfl, hi, hol, how, hov, rfl, rfl⟩
  by_cases hlt : i < la
  · have t1 : decide ((i : Int) < (la : Int)) = true := decide_eq_true (by omega)
    have e9 := winc (i := i) (by omega)
    have hx := wa i
    have hbnd : valT (td a) (i + 1) * b < 10000 ^ (i + 1 + lb) := by
      have h1 := valT_lt wa (i + 1)
      have h2 : (b : Int) < 10000 ^ lb := by rw [← natPowT]; exact Int.ofNat_lt.2 (td_lt_pow (by omega))
      have h3 := valT_nonneg wa (i + 1)
      have h4 : valT (td a) (i + 1) * b ≤ valT (td a) (i + 1) * 10000 ^ lb := Int.mul_le_mul_of_nonneg_left (by omega) h3
      have h5 : valT (td a) (i + 1) * 10000 ^ lb < 10000 ^ (i + 1) * 10000 ^ lb := Int.mul_lt_mul_of_pos_right h1 (powT_pos lb)
      rw [Int.pow_add]; omega
    have hva1 : valT (td a) (i + 1) = valT (td a) i + (td a).getD i 0 * 10000 ^ i := rfl
    have hila : i < (td a).length := by omega
    generalize hxe : (td a).getD i 0 = x at *
    refine SWx.of hE ?_
    conv => whnf
    (repeat ((first | refine step_w1 rfl rfl ?_ | refine g_o (op_lenM rfl rfl rfl (ev_ok rfl) (tgt rfl) rfl) ?_ | rw [hla] | rw [t1]); conv => whnf))
    refine SW_loopN hE (fun k => k) [0, 1, 5, 6, 7, 8] [15] (fun m fr hp => ∃ (k : Nat) (out : List Int) (c : Int), m = lb + 2 - k ∧ k ≤ lb + 1 ∧ out.length = la + lb ∧ W4 out ∧ 0 ≤ c ∧ c ≤ 9999 ∧ valT out (la + lb) + c * 10000 ^ (i + k) = valT (td a) i * b + x * valT (td b) k * 10000 ^ i ∧
      fr = [(0, nN a), (1, nN b), (5, .slc 15 1 0 (la + lb)), (6, .val (.int .i64 (i : Nat))), (7, .val (.int .i64 c)), (8, .val (.int .i64 (k : Nat)))] ∧ hp = [(15, zblk out)]) (lb + 2) ?_ ?_ ?_
    · kernel_rfl
    · exact ⟨0, out, 0, rfl, by omega, hol, how, by omega, by omega, by rw [hov]; simp [valT], rfl, rfl⟩
    clear hov how hol out
    rintro m _ _ ⟨k, out, c, rfl, hk, hol, how, hc0, hc1, hov, rfl, rfl⟩
    have hend : lb ≤ k → valT out (la + lb) + c * 10000 ^ (i + k) = valT (td a) (i + 1) * b := fun h => by
      rw [hov, td_valN b k (by omega), hva1]; grind
    have hck : 0 < c → k ≤ lb := fun h => by
      rcases Nat.lt_or_ge lb k with g | g
      · have h1 := hend (by omega)
        have h2 := valT_nonneg how (la + lb)
        have h3 : 1 * (10000 : Int) ^ (i + k) ≤ c * 10000 ^ (i + k) := Int.mul_le_mul_of_nonneg_right (by omega) (Int.le_of_lt (powT_pos _))
        have h4 : (10000 : Int) ^ (i + k) < 10000 ^ (i + 1 + lb) := by omega
        have := pow_lt_of (l := 0) h4
        omega
      · exact g
    by_cases hgo : k < lb ∨ 0 < c
    · have hkb : k ≤ lb := by
        rcases hgo with h | h
        · omega
        · exact hck h
      have hik : i + k < out.length := by omega
      have k2 := r_at b k (by omega)
      have hy := wb k
      have ho := how (i + k)
      generalize hye : (td b).getD k 0 = y at *
      generalize hoe : out.getD (i + k) 0 = o at *
      have hxy : 0 ≤ x * y := Int.mul_nonneg hx.1 hy.1
      have hxy2 : x * y ≤ 9999 * 9999 := by
        have h1 : x * y ≤ 9999 * y := Int.mul_le_mul_of_nonneg_right (by omega) hy.1
        omega
      have e1 : IntKind.i64.wrap ((i : Int) + (k : Int)) = ((i + k : Nat) : Int) := by rw [wrap_i64 (by omega) (by omega)]; omega
      have e2 : IntKind.i64.wrap (x * y) = x * y := wrap_i64 (by omega) (by omega)
      have e3 : IntKind.i64.wrap (o + x * y) = o + x * y := wrap_i64 (by omega) (by omega)
      have e4 : IntKind.i64.wrap (o + x * y + c) = o + x * y + c := wrap_i64 (by omega) (by omega)
      have e5 : (o + x * y + c).tmod 10000 = (o + x * y + c) % 10000 := Int.tmod_eq_emod_of_nonneg (by omega)
      have e6 : IntKind.i64.wrap ((o + x * y + c).tdiv 10000) = (o + x * y + c) / 10000 := by rw [Int.tdiv_eq_ediv_of_nonneg (by omega)]; exact wrap_i64 (by omega) (by omega)
      have e7 : (o + x * y + c).tdiv 10000 = (o + x * y + c) / 10000 := Int.tdiv_eq_ediv_of_nonneg (by omega)
      have e8 := winc (i := k) (by omega)
      have hD : o + x * y + c = (o + x * y + c) % 10000 + 10000 * ((o + x * y + c) / 10000) := (Int.emod_add_mul_ediv _ _).symm
      have hC0 : 0 ≤ (o + x * y + c) / 10000 := by omega
      have hC1 : (o + x * y + c) / 10000 ≤ 9999 := by omega
      have hD0 : 0 ≤ (o + x * y + c) % 10000 := by omega
      have hD1 : (o + x * y + c) % 10000 < 10000 := by omega
      have hnew : valT (out.set (i + k) ((o + x * y + c) % 10000)) (la + lb) + (o + x * y + c) / 10000 * 10000 ^ (i + (k + 1)) = valT (td a) i * b + x * valT (td b) (k + 1) * 10000 ^ i := by
        rw [valT_set (by omega) hik, hoe, show i + (k + 1) = i + k + 1 from rfl, Int.pow_succ, valT, hye]
        have := mul_carry hov hD
        have e : x * (valT (td b) k + y * 10000 ^ k) * 10000 ^ i = x * valT (td b) k * 10000 ^ i + x * y * 10000 ^ (i + k) := by rw [Int.pow_add]; grind
        rw [e]; omega
      have hl2 : (out.set (i + k) ((o + x * y + c) % 10000)).length = la + lb := by rw [List.length_set]; exact hol
      have hw2 := how.set (i := i + k) hD0 hD1
      clear hend hck hov hxy hxy2 hD
      conv => whnf
      by_cases g1 : k < lb
      · have t2 : decide ((k : Int) < (lb : Int)) = true := decide_eq_true (by omega)
        (repeat ((first | refine step_w1 rfl rfl ?_ | refine step_w2 rfl rfl ?_ | refine step_i (by kernel_rfl) ?_ | refine step_oL (by first | omega | decide | (simp only [tiB5, tiB23, tiB3, tiB2, tiB9, tiB41, tiB72, tiB29, tiB30, tiB39, tiB33, tiB4, tiB68, tiB70, dlen, List.length_replicate, List.length_set, List.length_map, List.length_zipWith, List.length_take, List.length_append, List.length_cons, List.length_nil]; omega)) ?_ | refine step_oA (by first | omega | decide | (simp only [tiB5, tiB23, tiB3, tiB2, tiB9, tiB41, tiB72, tiB29, tiB30, tiB39, tiB33, tiB4, tiB68, tiB70, dlen, List.length_replicate, List.length_set, List.length_map, List.length_zipWith, List.length_take, List.length_append, List.length_cons, List.length_nil]; omega)) ?_ | refine step_oN (by first | omega | decide | (simp only [tiB5, tiB23, tiB3, tiB2, tiB9, tiB41, tiB72, tiB29, tiB30, tiB39, tiB33, tiB4, tiB68, tiB70, dlen, List.length_replicate, List.length_set, List.length_map, List.length_zipWith, List.length_take, List.length_append, List.length_cons, List.length_nil]; omega)) ?_ | refine g_c (by assumption) ?_ | refine g_o (op_pickT rfl (ev_ok rfl) (ev_ok rfl)) ?_ | refine g_o (op_lenM rfl rfl rfl (ev_ok rfl) (tgt rfl) rfl) ?_ | refine g_o (op_loadA rfl (ev_ok rfl) (tgt rfl) rfl (Nat.succ_ne_zero _) rfl) ?_ | refine g_o (op_indexN (α := Int) (d := 0) rfl (ev_ok rfl) (ev_ok rfl) (tgt rfl) rfl (tgt rfl) rfl (by omega)) ?_ | rw [hlb] | rw [t2] | rw [hxe] | rw [e1] | rw [hoe] | rw [e2] | rw [e3] | rw [e4] | rw [e5] | rw [e6] | rw [e8] | rw [Int.toNat_natCast] | rw [Nat.zero_add]); conv => whnf))
        exact ⟨lb + 2 - (k + 1), fun k => k, [0, 1, 5, 6, 7, 8], [15], by omega, by kernel_rfl, k + 1, _, _, rfl, by omega, hl2, hw2, hC0, hC1, hnew, rfl, rfl⟩
      · have t2 : decide ((k : Int) < (lb : Int)) = false := decide_eq_false (by omega)
        have t3 : decide (c > 0) = true := decide_eq_true (by omega)
        (repeat ((first | refine step_w1 rfl rfl ?_ | refine step_i (by kernel_rfl) ?_ | refine step_oL (by first | omega | decide | (simp only [tiB5, tiB23, tiB3, tiB2, tiB9, tiB41, tiB72, tiB29, tiB30, tiB39, tiB33, tiB4, tiB68, tiB70, dlen, List.length_replicate, List.length_set, List.length_map, List.length_zipWith, List.length_take, List.length_append, List.length_cons, List.length_nil]; omega)) ?_ | refine step_oA (by first | omega | decide | (simp only [tiB5, tiB23, tiB3, tiB2, tiB9, tiB41, tiB72, tiB29, tiB30, tiB39, tiB33, tiB4, tiB68, tiB70, dlen, List.length_replicate, List.length_set, List.length_map, List.length_zipWith, List.length_take, List.length_append, List.length_cons, List.length_nil]; omega)) ?_ | refine step_oN (by first | omega | decide | (simp only [tiB5, tiB23, tiB3, tiB2, tiB9, tiB41, tiB72, tiB29, tiB30, tiB39, tiB33, tiB4, tiB68, tiB70, dlen, List.length_replicate, List.length_set, List.length_map, List.length_zipWith, List.length_take, List.length_append, List.length_cons, List.length_nil]; omega)) ?_ | refine g_c (by assumption) ?_ | refine g_o (op_pickF rfl (ev_ok rfl) (ev_ok rfl)) ?_ | refine g_o (op_lenM rfl rfl rfl (ev_ok rfl) (tgt rfl) rfl) ?_ | refine g_o (op_loadA rfl (ev_ok rfl) (tgt rfl) rfl (Nat.succ_ne_zero _) rfl) ?_ | refine g_o (op_indexN (α := Int) (d := 0) rfl (ev_ok rfl) (ev_ok rfl) (tgt rfl) rfl (tgt rfl) rfl (by omega)) ?_ | rw [hlb] | rw [t2] | rw [t3] | rw [hxe] | rw [e1] | rw [hoe] | rw [e2] | rw [e3] | rw [e4] | rw [e5] | rw [e6] | rw [e8] | rw [Int.toNat_natCast] | rw [Nat.zero_add]); conv => whnf))
        exact ⟨lb + 2 - (k + 1), fun k => k, [0, 1, 5, 6, 7, 8], [15], by omega, by kernel_rfl, k + 1, _, _, rfl, by omega, hl2, hw2, hC0, hC1, hnew, rfl, rfl⟩
    · have t2 : decide ((k : Int) < (lb : Int)) = false := decide_eq_false (by omega)
      have t3 : decide (c > 0) = false := decide_eq_false (by omega)
      have hc : c = 0 := by omega
      have hv := hend (by omega)
      rw [hc, Int.zero_mul, Int.add_zero] at hv
      conv => whnf
      (repeat ((first | refine step_w1 rfl rfl ?_ | refine step_w2 rfl rfl ?_ | refine g_o (op_pickF rfl (ev_ok rfl) (ev_ok rfl)) ?_ | refine g_o (op_lenM rfl rfl rfl (ev_ok rfl) (tgt rfl) rfl) ?_ | rw [hlb] | rw [t2] | rw [t3] | rw [e9]); conv => whnf))
      exact ⟨la - (i + 1), fun k => k, [0, 1, 5, 6], [15], by omega, by kernel_rfl, i + 1, out, rfl, by omega, hol, how, hv, rfl, rfl⟩
  · have t1 : decide ((i : Int) < (la : Int)) = false := decide_eq_false (by omega)
    have hI : i = la := by omega
    subst hI
    rw [td_valN a i (by omega)] at hov
    have k1 := r_trim out (by omega) how
    rw [show (valT out out.length).toNat = a * b by rw [hol, hov, ← Int.natCast_mul]; exact Int.toNat_natCast _] at k1
    refine SWx_frzI 5 15 (fun _ h => h) rfl rfl hol.symm ?_
    refine SWx.of hE ?_
    conv => whnf
    (repeat ((first | refine step_w2 rfl rfl ?_ | refine g_c (by assumption) ?_ | refine g_o (op_lenM rfl rfl rfl (ev_ok rfl) (tgt rfl) rfl) ?_ | rw [hla] | rw [t1]); conv => whnf)); (first | exact Recast.refl _ | exact Frz.recast (Recast.refl _) rfl | (refine Frz.one rfl rfl ?_; skip) | (refine Frz.tup ?_; skip))
end Go.Proofs.YtgodfkgocbppgaaGreatDoor

namespace Go.Proofs.YtgodfkgocbppgaaGreatDoor
open Go.Sx
set_option linter.unusedSimpArgs false
set_option linter.unusedVariables false
set_option maxRecDepth 100000
set_option maxHeartbeats 4000000

/-- What is loaded from a slice that is a value. -/
theorem run_firstV {P : Program} {ρ : Rho} {w : World} {s n : Nat} {vs : List SV} {d : Sx.Data} {v : Value} (hv : Has ρ (vecA s vs) v) (himm : ∀ b o, ρ.imm b = some o → w.heap[b]? = some o)
    (hr : ∀ z, HasZ (bareR ρ.imm ρ.glob) vs z → (∀ x ∈ vs, x.width = s) → Go.Sx.Rows ρ s d z) (hn : n = vs.length) :
    ∃ z, Go.Sx.Rows ρ s d z ∧ (∀ w', (∀ b, b < w.heap.size → w'.heap[b]? = w.heap[b]?) → (Builtin.firstCells s n v).run P w' = .ok (((z.drop 0).take n).flatten).toArray w') ∧ Builtin.lenOf v = Pure.pure n := by
  subst hn
  rcases has_vec hv with ⟨rfl, a, rfl⟩ | ⟨b, cap, z, pre, ex, ty, fz, h1, h2, h3, h4, h5, h6⟩
  · refine ⟨[], hr [] (by simp only [HasZ]) (fun x hx => by cases hx), fun w' _ => ?_, rfl⟩
    cases a with
    | none => simp [Builtin.firstCells]
    | some a => simp [Builtin.firstCells, loadCells, loadCellsFrom]
  · have hzr := hr z h2 h3
    obtain ⟨zl, zw⟩ := hzr.len
    have hzl : z.length = vs.length := HasZ_length h2
    subst h6
    refine ⟨z, hzr, fun w' hw' => ?_, rfl⟩
    have hh0 := himm _ _ h1
    have hblt : b < w.heap.size := by
      rcases Nat.lt_or_ge b w.heap.size with h' | h'
      · exact h'
      · simp [Array.getElem?_eq_none h'] at hh0
    have hh : w'.heap[b]? = some (.cells (pre ++ (z.flatten ++ ex)).toArray ty fz) := by rw [hw' b hblt]; exact hh0
    have e0 : (z.drop 0).take vs.length = z := by rw [List.drop_zero, List.take_of_length_le (by omega)]
    rw [e0]
    have hlen : z.flatten.length = vs.length * s := by rw [flatten_len (s := s) _ zw, hzl]
    refine run_firstCells_some (P := P) w' s vs.length _ vs.length cap _ hlen ?_
    intro j u hj
    have hadd : (⟨b, pre.length, none⟩ : Addr).add j = ⟨b, pre.length + j, none⟩ := by unfold Addr.add; split <;> simp_all
    rw [hadd, cell_of_row w' b (pre.length + j) _ ty fz hh]
    have hlt : j < z.flatten.length := (List.getElem?_eq_some_iff.1 hj).1
    simp only [List.getElem?_toArray]
    rw [List.getElem?_append_right (by omega), Nat.add_sub_cancel_left, List.getElem?_append_left hlt]
    exact hj

theorem HasZ_intsU {ρ : Rho} {kd : IntKind} : ∀ (xs : List Int) (z : List (List Value)), HasZ ρ (xs.map (iel kd)) z → z = xs.map fun x => [.int kd x]
  | [], z, h => by simpa only [List.map_nil, HasZ] using h
  | x :: xs, z, h => by
    simp only [List.map_cons, HasZ] at h
    obtain ⟨y, r, rfl, h1, h2⟩ := h
    rw [HasZ_intsU xs r h2]
    simp only [iel, HasC] at h1
    rw [h1.1, List.map_cons]
theorem rows_ints {kd : IntKind} (xs : List Int) : ∀ (ρ : Rho) z, HasZ (bareR ρ.imm ρ.glob) (xs.map (iel kd)) z → (∀ x ∈ xs.map (iel kd), x.width = 1) → Go.Sx.Rows ρ 1 (.ints kd xs) z :=
  fun ρ z h _ => ⟨rfl, HasZ_intsU xs z h⟩

theorem op_appendV {P : Program} {o : Oper} {fr : List (Nat × SV)} {fk : List (Nat × Blk)} {t t2 e : TypeId} {x y : Operand} {xs : Array Operand} {ts : Array TypeId} {ti t0 te : TI} {k kn n m : Nat} {d d' d2 : Sx.Data} {vs : List SV} (ho : o.op = .call ⟨.builtin .append, xs, ts⟩) (hxs : xs = #[x, y]) (hts : ts = #[t, t2])
    (hx : EvOK fr x (.slc k te.size 0 n)) (hy : EvOK fr y (vecA te.size vs)) (hr2 : ∀ (ρ : Rho) z, HasZ (bareR ρ.imm ρ.glob) vs z → (∀ x ∈ vs, x.width = te.size) → Go.Sx.Rows ρ te.size d2 z) (ht : TOK P t ti) (hk : ti.kind = .slc e) (ht2 : TOK P t2 t0) (hk2 : t0.kind = .slc e) (he : TOK P e te)
    (hf : (k, ⟨e, true, d⟩) ∈ fk) (hl : d.live = true) (hw : dwidth d = some te.size)
    (hn : n ≤ dlen d) (hmv : m = vs.length) (hm : 0 + m ≤ dlen d2) (hd : dapp d n d2 0 m = some d') (hbytes : (n + m) * te.bytes ≤ 140737488355328) (h63 : n + m ≤ 9223372036854775807) :
    OpOK P o fr fk (.slc kn te.size 0 (n + m)) [(kn, ⟨e, true, d'⟩)] [(k, ⟨e, true, .dead⟩)] :=
  ok_value fun ρ a w hp => by
    have hvx := hx ρ a hp.hft
    have hvy := hy ρ a hp.hft
    obtain ⟨i, zv, i1, i2', i3, i4, i5, i6, i7, _⟩ := he.info
    have hu := ht.kind; rw [hk] at hu
    have hu2 := ht2.kind; rw [hk2] at hu2
    obtain ⟨z, hz, hzc⟩ := blk_rows (hp.hfk k _ hf) hl hw
    obtain ⟨z2, hz2, hrun2, hlen2⟩ := run_firstV (P := P) (d := d2) hvy hp.imm (hr2 ρ) hmv
    obtain ⟨zl, zw⟩ := hz.len
    obtain ⟨zl2, zw2⟩ := hz2.len
    have hrows := (dapp_rows hd hz hz2).1
    have hfresh := hp.fresh kn _ (List.mem_cons_self ..)
    simp only at zl
    have hsegw : ∀ u ∈ (z2.drop 0).take m, u.length = te.size := fun u hu => zw2 u (List.mem_of_mem_drop (List.mem_of_mem_take hu))
    have hsegl : ((z2.drop 0).take m).length = m := by rw [List.length_take, List.length_drop]; omega
    have hnews : (((z2.drop 0).take m).flatten).length = m * te.size := by rw [flatten_len _ hsegw, hsegl]
    have hnone : ∀ u ∈ (((z2.drop 0).take m).flatten), u.oneCell' = true := fun u hu => by
      obtain ⟨q, hq, hu⟩ := List.mem_flatten.1 hu
      exact hz2.one' q (List.mem_of_mem_drop (List.mem_of_mem_take hq)) u hu
    have hcall : ∀ v w', (Builtin.append_ ts o.type #[a.eval x, a.eval y]).run P w = .ok v w' → (execOp a.eval o).run P w = .ok (.value v) w' := by
      intro v w' h
      simp only [execOp, ho, resolve, invoke, builtin, hxs, Sem.run_bind, Sem.run_pure, Result.andThen_ok, List.map_toArray, List.map_cons, List.map_nil]
      rw [h]
      rfl
    have zone : ∀ v ∈ zv.cells.toList, v.oneCell' = true := by
      have h1 := (HasZ.len (ρ := ρ) te.zero _ (zero_has i6)).2
      rw [i5, List.flatMap_def]; exact h1
    have h63' : ¬ ((n + m : Nat) : Int) > IntKind.i64.max := by
      have : IntKind.i64.max = 9223372036854775807 := by decide
      omega
    -- the growing way
    have grow : ∀ (base : Option Addr) (cap : Nat), a.eval x = .slice base n cap → cap < n + m → (∀ w', (∀ b, b < w.heap.size → w'.heap[b]? = w.heap[b]?) → (Builtin.firstCells te.size n (.slice base n cap)).run P w' = .ok ((z.take n).flatten).toArray w') →
        ∃ v w' ρ', (execOp a.eval o).run P w = .ok (.value v) w' ∧ Post ρ w (.slc kn te.size 0 (n + m)) [(kn, ⟨e, true, d'⟩)] [(k, ⟨e, true, .dead⟩)] v ρ' w' := by
      intro base cap hbx hcap hfirst
      have hfit : ¬ Builtin.nextslicecap (n + m) cap * i.bytes > 2 ^ 48 := by
        have := growslice_fits (bytes := te.bytes) hcap hbytes
        rw [i3]; simpa using this
      have hgc : n + m ≤ grownCap w (n + m) cap e := by
        simp only [grownCap, Question.cut]
        omega
      have hpost := post_row (ρ := ρ) (w := w.drew) (k := kn) (s := te.size) (n := n + m) (cap := grownCap w (n + m) cap e) (ty := e) (d := d') (vs := (z.take n ++ (z2.drop 0).take m).flatten) (ex := (Builtin.zeroCells zv.cells (grownCap w (n + m) cap e - (n + m))).toList) hfresh hrows.data hgc
        (by
          have h1 : ((z.take n ++ (z2.drop 0).take m).flatten).length = (n + m) * te.size := by
            rw [flatten_len (s := te.size) _ (fun u hu => (List.mem_append.1 hu).elim (fun h => zw u (List.mem_of_mem_take h)) (hsegw u)), List.length_append, hsegl, List.length_take]
            congr 1
            omega
          rw [List.length_append, h1, Array.length_toList]
          have h2 : (Builtin.zeroCells zv.cells (grownCap w (n + m) cap e - (n + m))).size = (grownCap w (n + m) cap e - (n + m)) * te.size := by simp [Builtin.zeroCells, i7]
          rw [h2, ← Nat.add_mul, show n + m + (grownCap w (n + m) cap e - (n + m)) = grownCap w (n + m) cap e from by omega]
          exact Nat.le_refl _) (zeroCells_one zone _)
      refine ⟨_, _, _, hcall _ _ ?_, { hpost with
        pres := ⟨hpost.pres.os, hpost.pres.tape, hpost.pres.output, hpost.pres.size, fun b hb hn => hpost.pres.block b hb (fun hh => by obtain ⟨_, _, _, hh, _⟩ := hh; cases hh)⟩
        blk := fun j b hj => by
          rcases hj with hj | hj
          · simp only [List.mem_singleton, Prod.mk.injEq] at hj
            obtain ⟨rfl, rfl⟩ := hj
            exact .inl rfl
          · exact hpost.blk j b (.inr hj)
        once := fun j b b' h1 h2 h3 h4 => by
          simp only [List.mem_singleton, Prod.mk.injEq] at h1 h2
          rw [h2.2] at h4
          cases h4
        newb := fun j b q hj hq => .inl ((hpost.newb j b q hj hq).elim id (fun hh => by obtain ⟨_, _, _, hh, _⟩ := hh; cases hh)) }⟩
      have hz0 : (if false = true then (Pure.pure 0 : Sem Nat) else Builtin.lenOf (a.eval y)).run P w = .ok m w := by rw [hlen2]; rfl
      have hcap' : ¬ n + m ≤ cap := by omega
      have hnb : (w.drew).heap = w.heap := rfl
      have hr1 := hfirst w.drew (fun b _ => rfl)
      have hr2 := hrun2 w.drew (fun b _ => rfl)
      simp only [Builtin.append_, hts, hbx, List.getElem?_toArray, List.getElem?_cons_zero, List.getElem?_cons_succ, Sem.run_bind, run_underlying hu, run_underlying hu2, Result.andThen_ok, he.sizeOf, Sem.run_pure, Bool.false_eq_true, if_false, hlen2]
      have hti : ∀ w', (typeInfo e).run P w' = .ok i w' := fun w' => by simp [typeInfo, i1]
      have hzv : ∀ w', (Go.zeroValue e).run P w' = .ok zv w' := fun w' => by simp [Go.zeroValue, typeInfo, i1, i4]
      have hcond : ¬ (((n + m : Nat) : Int) > IntKind.i64.max ∧ (False ∨ i.bytes = 0)) := fun h => h63' h.1
      have hforced : (Question.appendCap (n + m) cap e).forced = false := rfl
      simp only [hcap', if_false, Sem.run_bind, hti, Result.andThen_ok, hcond, hfit, run_choose, hforced, Bool.false_eq_true, World.drew_eq, run_askRoom, hr1, Bool.not_false, if_true, hr2, hzv, newRow, run_newObj, Sem.run_pure, World.alloc_eq]
      have harr : ((z.take n).flatten.toArray ++ ((z2.drop 0).take m).flatten.toArray ++ Builtin.zeroCells zv.cells (grownCap w (n + m) cap e - (n + m))) = ((z.take n ++ (z2.drop 0).take m).flatten ++ (Builtin.zeroCells zv.cells (grownCap w (n + m) cap e - (n + m))).toList).toArray := by
        apply Array.ext'
        simp
      show Result.ok (Value.slice (some ⟨w.drew.heap.size, 0, none⟩) (n + m) (grownCap w (n + m) cap e)) (w.drew.alloc (.cells ((z.take n).flatten.toArray ++ ((z2.drop 0).take m).flatten.toArray ++ Builtin.zeroCells zv.cells (grownCap w (n + m) cap e - (n + m))) e)) = _
      rw [harr]
    -- the ways
    rcases has_slc hvx with ⟨b, tt, cap, e1, e2, e3, e4⟩ | ⟨rfl, ad, e4⟩
    · rcases hzc with ⟨b', tt', ex, c1, c2, c3, c4⟩ | ⟨c1, _⟩
      · rw [e1] at c1
        cases c1
        simp only at c2
        rcases Nat.lt_or_ge cap (n + m) with hlt | hge
        · refine grow _ cap e4 hlt ?_
          obtain ⟨z3, hz3, hrun3, _⟩ := run_first (P := P) hvx (hp.hfk k _ hf) hl hw (by simpa using hn)
          intro w' hw'
          have h0 := run_firstCells_some (P := P) w' te.size n ⟨b, 0 * te.size, none⟩ n cap ((z.take n).flatten) (by
            rw [flatten_len (s := te.size) _ (fun u hu => zw u (List.mem_of_mem_take hu)), List.length_take]; congr 1; omega) (by
            intro j u hj
            have hblt : b < w.heap.size := by
              rcases Nat.lt_or_ge b w.heap.size with h' | h'
              · exact h'
              · simp [Array.getElem?_eq_none h'] at c2
            have hh : w'.heap[b]? = some (.cells (z.flatten ++ ex).toArray e (0, 0)) := by rw [hw' b hblt]; exact c2
            have hadd : (⟨b, 0 * te.size, none⟩ : Addr).add j = ⟨b, j, none⟩ := addr_add0 b te.size j
            rw [hadd, cell_of_row w' b j _ e (0, 0) hh]
            rw [flatten_take (s := te.size) _ _ zw] at hj
            have h6 : z.flatten[j]? = some u := by
              rw [List.getElem?_take] at hj
              split at hj
              · exact hj
              · cases hj
            have hlt2 : j < z.flatten.length := (List.getElem?_eq_some_iff.1 h6).1
            simp only [List.getElem?_toArray]
            rw [List.getElem?_append_left hlt2]
            exact h6)
          exact h0
        · -- in place
          have hblt : b < w.heap.size := by
            rcases Nat.lt_or_ge b w.heap.size with h' | h'
            · exact h'
            · simp [Array.getElem?_eq_none h'] at c2
          have hr2 := hrun2 w (fun b _ => rfl)
          have hfitc : 0 * te.size + n * te.size + (((z2.drop 0).take m).flatten).length ≤ (z.flatten ++ ex).length := by
            rw [hnews, c3, Nat.zero_mul, Nat.zero_add, ← Nat.add_mul]
            exact Nat.le_trans (Nat.mul_le_mul_right _ hge) (by simpa using e3)
          have hsc := run_storeCells_at (P := P) b (n * te.size) e (((z2.drop 0).take m).flatten) 0 (z.flatten ++ ex).toArray w c2 (by simp only [List.size_toArray]; simpa using hfitc) hnone
          have hadd : (⟨b, 0 * te.size, none⟩ : Addr).add (n * te.size) = ⟨b, n * te.size, none⟩ := addr_add0 b te.size _
          have hcells : ((z.flatten ++ ex).take (n * te.size + 0) ++ (((z2.drop 0).take m).flatten) ++ (z.flatten ++ ex).drop (n * te.size + 0 + (((z2.drop 0).take m).flatten).length)) =
              (z.take n ++ (z2.drop 0).take m).flatten ++ (z.flatten ++ ex).drop (n * te.size + m * te.size) := by
            rw [Nat.add_zero, hnews, List.flatten_append, flatten_take (s := te.size) _ _ zw, List.take_append_of_le_length (by rw [flatten_len (s := te.size) _ zw]; exact Nat.mul_le_mul_right _ (by omega))]
          rw [hcells] at hsc
          let ρ' : Rho := ⟨fun j => if j = kn then some (b, tt) else ρ.key j, ρ.imm, ρ.glob⟩
          have hle : ρ.Le ρ' := ⟨fun j q hq => by
            show (if j = kn then _ else _) = _
            by_cases hj : j = kn
            · subst hj; rw [hfresh] at hq; cases hq
            · rw [if_neg hj]; exact hq, fun b o hb => hb⟩
          refine ⟨.slice (some ⟨b, 0 * te.size, none⟩) (n + m) cap, w.setRow b ((z.take n ++ (z2.drop 0).take m).flatten ++ (z.flatten ++ ex).drop (n * te.size + m * te.size)).toArray, ρ', hcall _ _ ?_, ?_⟩
          · simp only [Builtin.append_, hts, e4, List.getElem?_toArray, List.getElem?_cons_zero, List.getElem?_cons_succ, Sem.run_bind, run_underlying hu, run_underlying hu2, Result.andThen_ok, he.sizeOf, Sem.run_pure, Bool.false_eq_true, if_false, hlen2, hge, if_true, Bool.not_false, hr2, hadd, hsc]
          · refine ⟨hle, slc_has (.inl ⟨b, tt, cap, ?_, hge, e3, rfl⟩), ?_, ⟨rfl, rfl, rfl, by simp [World.setRow], ?_⟩, ?_, ?_, ?_, ?_, fun b o hb => .inl hb⟩
            · show (if kn = kn then _ else _) = _
              rw [if_pos rfl]
            · intro j hj
              show (if j = kn then _ else _) = _
              rw [if_neg]
              rintro rfl
              exact hj _ (List.mem_cons_self ..)
            · intro q hq hnq
              refine heap_setRow_other fun hqb => hnq ⟨k, _, tt, List.mem_cons_self .., ?_⟩
              rw [hqb]; exact e1
            · intro j bj hj
              rcases hj with hj | hj
              · simp only [List.mem_singleton, Prod.mk.injEq] at hj
                obtain ⟨rfl, rfl⟩ := hj
                exact .inl rfl
              · simp only [List.mem_singleton, Prod.mk.injEq] at hj
                obtain ⟨rfl, rfl⟩ := hj
                refine .inr (.inl ⟨b, tt, _, (z.flatten ++ ex).drop (n * te.size + m * te.size), ?_, heap_setRow_same c2, hrows.data.mono hle, ?_, ?_⟩)
                · show (if j = j then _ else _) = _
                  rw [if_pos rfl]
                · have h1 : ((z.take n ++ (z2.drop 0).take m).flatten).length = (n + m) * te.size := by
                    rw [flatten_len (s := te.size) _ (fun u hu => (List.mem_append.1 hu).elim (fun h => zw u (List.mem_of_mem_take h)) (hsegw u)), List.length_append, hsegl, List.length_take]
                    congr 1
                    omega
                  rw [List.length_append, h1, List.length_drop, c3, Nat.add_mul]
                  rw [hnews, c3] at hfitc
                  omega
                · intro u hu
                  have := List.mem_of_mem_drop hu
                  rcases List.mem_append.1 this with h | h
                  · obtain ⟨q, hq, hu'⟩ := List.mem_flatten.1 h
                    exact hz.one' q hq u hu'
                  · exact c4 u h
            · intro j c c' h1 h2 h3 h4
              simp only [List.mem_singleton, Prod.mk.injEq] at h1 h2
              rw [h2.2] at h4
              cases h4
            · intro j bj q hj hq
              simp only [List.mem_singleton, Prod.mk.injEq] at hj
              obtain ⟨rfl, rfl⟩ := hj
              have hq' : (if j = j then some (b, tt) else ρ.key j) = some q := hq
              rw [if_pos rfl] at hq'
              cases hq'
              exact .inr ⟨k, _, tt, List.mem_cons_self .., rfl, e1⟩
            · intro j bj j' bj' q q' hj hj' hne
              simp only [List.mem_singleton, Prod.mk.injEq] at hj hj'
              exact absurd (hj.1.trans hj'.1.symm) hne
      · rw [e1] at c1; cases c1
    · rcases Nat.eq_zero_or_pos m with rfl | hm0
      · -- nothing onto nothing
        have hr2 := hrun2 w (fun b _ => rfl)
        refine ⟨.slice ad 0 0, w, ρ, hcall _ _ ?_, ?_⟩
        · have hst : ∀ q : Addr, (storeCells q ([] : List Value)).run P w = .ok () w := fun q => rfl
          have hseg0 : ((z2.drop 0).take 0).flatten = [] := by simp
          rw [hseg0] at hr2
          cases ad <;> simp only [Builtin.append_, hts, e4, List.getElem?_toArray, List.getElem?_cons_zero, List.getElem?_cons_succ, Sem.run_bind, run_underlying hu, run_underlying hu2, Result.andThen_ok, he.sizeOf, Sem.run_pure, Bool.false_eq_true, if_false, hlen2, Nat.add_zero, Nat.le_refl, if_true, Bool.not_false, hr2, hst]
        · have hemp : d'.empty ∨ True := .inr trivial
          have hd0 : d'.empty := by
            unfold dapp at hd
            split at hd
            · split at hd
              · simp only [Option.some.injEq] at hd; subst hd; simp [Data.empty]
              · simp at hd
            · simp only [Option.some.injEq] at hd; subst hd; simp [Data.empty]
            · split at hd
              · simp only [Option.some.injEq] at hd; subst hd; simp [Data.empty]
              · simp at hd
            · simp at hd
          refine ⟨.refl ρ, slc_has (.inr ⟨rfl, ad, rfl⟩), fun _ _ => rfl, .refl _ _, ?_, ?_, ?_, ?_, fun b o hb => .inl hb⟩
          · intro j bj hj
            rcases hj with hj | hj
            · simp only [List.mem_singleton, Prod.mk.injEq] at hj
              obtain ⟨rfl, rfl⟩ := hj
              exact .inl rfl
            · simp only [List.mem_singleton, Prod.mk.injEq] at hj
              obtain ⟨rfl, rfl⟩ := hj
              exact .inr (.inr ⟨hfresh, hd0⟩)
          · intro j c c' h1 h2 h3 h4
            simp only [List.mem_singleton, Prod.mk.injEq] at h1 h2
            rw [h2.2] at h4
            cases h4
          · intro j bj q hj hq
            simp only [List.mem_singleton, Prod.mk.injEq] at hj
            obtain ⟨rfl, rfl⟩ := hj
            rw [hfresh] at hq; cases hq
          · intro j bj j' bj' q q' hj hj' hne
            simp only [List.mem_singleton, Prod.mk.injEq] at hj hj'
            exact absurd (hj.1.trans hj'.1.symm) hne
      · refine grow ad 0 e4 (by omega) ?_
        intro w' _
        cases ad with
        | none => simp [Builtin.firstCells]
        | some q => simp [Builtin.firstCells, loadCells, loadCellsFrom]

end Go.Proofs.YtgodfkgocbppgaaGreatDoor

namespace Go.Proofs.YtgodfkgocbppgaaGreatDoor
open Go.Sx
set_option linter.unusedSimpArgs false
set_option linter.unusedVariables false
set_option maxRecDepth 100000
set_option maxHeartbeats 4000000

theorem SWx_frzP {E : Env} (t k : Nat) {c : Code} {K : Post'} {fr : List (Nat × SV)} {hp : List (Nat × Blk)} {ty : TypeId} {n : Nat} {kd : IntKind} {xs ys : List Int} (hW : ∀ b, ¬ E.W0 b) (ht : lk fr t = some (.slc k 1 0 n)) (hk : find hp k = some ⟨ty, true, .ints kd xs⟩)
    (hn : n ≤ xs.length) (hy : xs.take n = ys) (hs : SWx E c K ((t, ivec kd ys) :: fr) (setB hp k ⟨ty, true, .dead⟩)) : SWx E c K fr hp := by
  refine SWx_freeze t k (xs := xs.map (iel kd)) hW ht hk rfl rfl (keylessL_map (fun _ => rfl) xs) (by simp; omega) ?_
  have e : cutL (xs.map (iel kd)) 0 (0 + n) = ys.map (iel kd) := by
    rw [cutL, List.drop_zero, Nat.sub_zero, Nat.zero_add, ← List.map_take, hy]
  rw [e]
  exact hs

theorem r_trimM (xs : List Int) (n : Nat) (hn : n ≤ xs.length) (hl : xs.length < 1099511627776) (K : Nat) (wr : Bool) :
    CallOK Tryz.prog 138 [.slc K 1 0 n] [(K, ⟨3, wr, .ints .i64 xs⟩)] (.slc K 1 0 (cutN xs n)) [] [] := by
  refine CallOK.anyWr ?_
  refine callK (Z := []) tabOK mixedOK Tryz.func138 rfl (by kernel_rfl) (args := [.slc 1001 1 0 n]) (fk := [(1001, ⟨3, false, .ints .i64 xs⟩)]) (c := .slc 1001 1 0 (cutN xs n)) (new := []) (upd := []) (ShapeOK.of rfl rfl rfl rfl rfl rfl rfl rfl rfl rfl rfl) rfl (fun _ => K) (NamesOK.ro rfl) ?_
  intro W0 w0 ρ0 hE
  conv => whnf
  skip
  refine SW_loopN hE (fun k => k) [0] [1001] (fun m fr hp => m ≤ n ∧ cutN xs m = cutN xs n ∧ fr = [(0, .slc 1001 1 0 m)] ∧ hp = [(1001, ⟨3, false, .ints .i64 xs⟩)]) n ?_ ?_ ?_
  · kernel_rfl
  · exact ⟨by omega, rfl, rfl, rfl⟩
  rintro m _ _ ⟨hm, hc, rfl, rfl⟩
  conv => whnf
  by_cases h0 : m = 0
  · subst h0
    have t1 : decide (((0 : Nat) : Int) > 0) = false := rfl
    have e : cutN xs n = 0 := hc.symm
    rw [e]
    (repeat (first | (refine step_w2 rfl rfl ?_; conv => whnf) | (refine g_o (op_pickF rfl (ev_ok rfl) (ev_ok rfl)) ?_; conv => whnf)))
    exact ⟨Recast.refl _, (fun _ _ h => by cases h), (fun _ _ h => by cases h)⟩
  · obtain ⟨m, rfl⟩ : ∃ k, m = k + 1 := ⟨m - 1, by omega⟩
    have t1 : decide (((m + 1 : Nat) : Int) > 0) = true := decide_eq_true (by omega)
    have e1 : IntKind.i64.wrap (((m + 1 : Nat) : Int) - 1) = (m : Int) := by rw [wrap_i64 (by omega) (by omega)]; omega
    by_cases hx : xs.getD m 0 = 0
    · have t2 : (xs.getD m 0 == 0) = true := beq_iff_eq.2 hx
      rw [cutN, if_pos hx] at hc
      (repeat ((first | refine step_w1 rfl rfl ?_ | refine step_oL (by first | omega | decide | (simp only [tiB5, tiB23, tiB3, tiB2, tiB9, tiB41, tiB72, tiB29, tiB30, tiB39, tiB33, tiB4, tiB68, tiB70, dlen, List.length_replicate, List.length_set, List.length_map, List.length_zipWith, List.length_take, List.length_append, List.length_cons, List.length_nil]; omega)) ?_ | refine step_oA (by first | omega | decide | (simp only [tiB5, tiB23, tiB3, tiB2, tiB9, tiB41, tiB72, tiB29, tiB30, tiB39, tiB33, tiB4, tiB68, tiB70, dlen, List.length_replicate, List.length_set, List.length_map, List.length_zipWith, List.length_take, List.length_append, List.length_cons, List.length_nil]; omega)) ?_ | refine g_o (op_pickT rfl (ev_ok rfl) (ev_ok rfl)) ?_ | rw [t1] | rw [e1] | rw [show 0 + (m : Int).toNat = m from by omega] | rw [t2] | rw [show ((m : Int) - 0).toNat = m from by omega] | rw [Nat.zero_add]); conv => whnf))
      exact ⟨m, fun k => k, [0], [1001], by omega, by kernel_rfl, by omega, hc, rfl, rfl⟩
    · have t2 : (xs.getD m 0 == 0) = false := beq_false_of_ne hx
      rw [cutN, if_neg hx] at hc
      rw [← hc]
      (repeat ((first | refine step_w1 rfl rfl ?_ | refine step_w2 rfl rfl ?_ | refine step_oL (by first | omega | decide | (simp only [tiB5, tiB23, tiB3, tiB2, tiB9, tiB41, tiB72, tiB29, tiB30, tiB39, tiB33, tiB4, tiB68, tiB70, dlen, List.length_replicate, List.length_set, List.length_map, List.length_zipWith, List.length_take, List.length_append, List.length_cons, List.length_nil]; omega)) ?_ | refine step_oA (by first | omega | decide | (simp only [tiB5, tiB23, tiB3, tiB2, tiB9, tiB41, tiB72, tiB29, tiB30, tiB39, tiB33, tiB4, tiB68, tiB70, dlen, List.length_replicate, List.length_set, List.length_map, List.length_zipWith, List.length_take, List.length_append, List.length_cons, List.length_nil]; omega)) ?_ | refine g_o (op_pickT rfl (ev_ok rfl) (ev_ok rfl)) ?_ | rw [t1] | rw [e1] | rw [show 0 + (m : Int).toNat = m from by omega] | rw [t2]); conv => whnf))
      exact ⟨Recast.refl _, (fun _ _ h => by cases h), (fun _ _ h => by cases h)⟩

/-- Dividing by a power, one place more. -/
theorem div_pow_step (R i : Nat) : R / 10000 ^ i = 10000 * (R / 10000 ^ (i + 1)) + R / 10000 ^ i % 10000 := by
  have := Nat.div_add_mod (R / 10000 ^ i) 10000
  rw [Nat.div_div_eq_div_mul, ← Nat.pow_succ] at this
  exact this.symm

theorem r_leading (R F : Nat) (hR : (td R).length < 1099511627776) (hF : F < 1099511627776) (hb : R / 10000 ^ F < 100000000000000000) : CallOK Tryz.prog 153 [nN R, .val (.int .i64 (F : Nat))] [] (.val (.int .i64 ((R / 10000 ^ F : Nat) : Int))) [] [] := by
  have e0 : IntKind.i64.wrap (((td R).length : Int) - 1) = ((td R).length : Int) - 1 := wrap_i64 (by omega) (by omega)
  refine callV (Z := []) tabOK mixedOK Tryz.func153 rfl (by kernel_rfl) rfl rfl (by kernel_rfl) rfl ?_
  intro W0 w0 ρ0 hE
  conv => whnf
  (repeat (first | (refine g_o (op_lenM rfl rfl rfl (ev_ok rfl) (tgt rfl) rfl) ?_; conv => whnf) | (rw [e0]; conv => whnf)))
  refine SW_loopN hE (fun k => k) [0, 1, 5, 6] [] (fun q fr hp => ∃ j : Nat, q = j - F ∧ j ≤ (td R).length ∧ (F ≤ j ∨ j = (td R).length) ∧ fr = [(0, nN R), (1, .val (.int .i64 (F : Nat))), (5, .val (.int .i64 ((R / 10000 ^ j : Nat) : Int))), (6, .val (.int .i64 ((j : Int) - 1)))] ∧ hp = []) ((td R).length - F) ?_ ?_ ?_
  · kernel_rfl
  · exact ⟨(td R).length, rfl, Nat.le_refl _, .inr rfl, by rw [Nat.div_eq_of_lt (tlt_len R)]; rfl, rfl⟩
  rintro q _ _ ⟨j, rfl, hj, hjF, rfl, rfl⟩
  conv => whnf
  by_cases hgo : F < j
  · obtain ⟨i, rfl⟩ : ∃ i, j = i + 1 := ⟨j - 1, by omega⟩
    have ei : (((i + 1 : Nat) : Int) - 1) = (i : Int) := by omega
    rw [ei]
    have hs := div_pow_step R i
    have hle : R / 10000 ^ i ≤ R / 10000 ^ F := Nat.div_le_div_left (Nat.pow_le_pow_right (by decide) (by omega)) (Nat.pow_pos (by decide))
    have hg := td_get R i
    have t1 : decide ((i : Int) ≥ (F : Int)) = true := decide_eq_true (by omega)
    generalize hA : R / 10000 ^ (i + 1) = A at *
    generalize hB : R / 10000 ^ i = B at *
    have e1 : IntKind.i64.wrap (10000 * (A : Int)) = 10000 * (A : Int) := wrap_i64 (by omega) (by omega)
    have e2 : IntKind.i64.wrap (10000 * (A : Int) + ((B % 10000 : Nat) : Int)) = (B : Int) := by rw [wrap_i64 (by omega) (by omega)]; omega
    have e3 : IntKind.i64.wrap ((i : Int) - 1) = (i : Int) - 1 := wrap_i64 (by omega) (by omega)
    have hiT : i < (td R).length := by omega
    clear hs hle
    (repeat ((first | refine step_w1 rfl rfl ?_ | refine g_o (op_loadA rfl (ev_ok rfl) (tgt rfl) rfl (Nat.succ_ne_zero _) rfl) ?_ | refine g_o (op_indexN (α := Int) (d := 0) rfl (ev_ok rfl) (ev_ok rfl) (tgt rfl) rfl (tgt rfl) rfl (by omega)) ?_ | rw [t1] | rw [hg] | rw [e1] | rw [e2] | rw [e3]); conv => whnf))
    exact ⟨i - F, fun k => k, [0, 1, 5, 6], [], by omega, by kernel_rfl, i, rfl, by omega, by omega, by rw [hB]; rfl, rfl⟩
  · have t1 : decide ((j : Int) - 1 ≥ (F : Int)) = false := decide_eq_false (by omega)
    have e : R / 10000 ^ F = R / 10000 ^ j := by
      rcases hjF with h | h
      · rw [show j = F by omega]
      · rw [h, Nat.div_eq_of_lt (tlt_len R), Nat.div_eq_of_lt (td_lt_pow (by omega))]
    rw [e]
    (repeat (first | (refine step_w2 rfl rfl ?_; conv => whnf) | (rw [t1]; conv => whnf))); (first | exact Recast.refl _ | exact Frz.recast (Recast.refl _) rfl | (refine Frz.one rfl rfl ?_; skip) | (refine Frz.tup ?_; skip))
theorem r_leadingM (L : List Int) (R F : Nat) (hL : L.take (td R).length = td R) (hLl : (td R).length ≤ L.length) (hR : (td R).length < 1099511627776) (hF : F < 1099511627776) (hb : R / 10000 ^ F < 100000000000000000) (K : Nat) (wr : Bool) :
    CallOK Tryz.prog 153 [.slc K 1 0 (td R).length, .val (.int .i64 (F : Nat))] [(K, ⟨3, wr, .ints .i64 L⟩)] (.val (.int .i64 ((R / 10000 ^ F : Nat) : Int))) [] [] := by
  have e0 : IntKind.i64.wrap (((td R).length : Int) - 1) = ((td R).length : Int) - 1 := wrap_i64 (by omega) (by omega)
  have hLg : ∀ i, i < (td R).length → L.getD i 0 = ((R / 10000 ^ i % 10000 : Nat) : Int) := fun i hi => by rw [← td_get, ← hL, getD_take, if_pos hi]
  refine CallOK.anyWr ?_
  refine callK (Z := []) tabOK mixedOK Tryz.func153 rfl (by kernel_rfl) (args := [.slc 1001 1 0 (td R).length, .val (.int .i64 (F : Nat))]) (fk := [(1001, ⟨3, false, .ints .i64 L⟩)]) (c := .val (.int .i64 ((R / 10000 ^ F : Nat) : Int))) (new := []) (upd := []) (ShapeOK.of rfl rfl rfl rfl rfl rfl rfl rfl rfl rfl rfl) rfl (fun _ => K) (NamesOK.ro rfl) ?_
  intro W0 w0 ρ0 hE
  conv => whnf
  (repeat (first | (rw [e0]; conv => whnf)))
  refine SW_loopN hE (fun k => k) [0, 1, 5, 6] [1001] (fun q fr hp => ∃ j : Nat, q = j - F ∧ j ≤ (td R).length ∧ (F ≤ j ∨ j = (td R).length) ∧ fr = [(0, .slc 1001 1 0 (td R).length), (1, .val (.int .i64 (F : Nat))), (5, .val (.int .i64 ((R / 10000 ^ j : Nat) : Int))), (6, .val (.int .i64 ((j : Int) - 1)))] ∧ hp = [(1001, ⟨3, false, .ints .i64 L⟩)]) ((td R).length - F) ?_ ?_ ?_
  · kernel_rfl
  · exact ⟨(td R).length, rfl, Nat.le_refl _, .inr rfl, by rw [Nat.div_eq_of_lt (tlt_len R)]; rfl, rfl⟩
  rintro q _ _ ⟨j, rfl, hj, hjF, rfl, rfl⟩
  conv => whnf
  by_cases hgo : F < j
  · obtain ⟨i, rfl⟩ : ∃ i, j = i + 1 := ⟨j - 1, by omega⟩
    have ei : (((i + 1 : Nat) : Int) - 1) = (i : Int) := by omega
    rw [ei]
    have hs := div_pow_step R i
    have hle : R / 10000 ^ i ≤ R / 10000 ^ F := Nat.div_le_div_left (Nat.pow_le_pow_right (by decide) (by omega)) (Nat.pow_pos (by decide))
    have hg := hLg i (by omega)
    have t1 : decide ((i : Int) ≥ (F : Int)) = true := decide_eq_true (by omega)
    generalize hA : R / 10000 ^ (i + 1) = A at *
    generalize hB : R / 10000 ^ i = B at *
    have e1 : IntKind.i64.wrap (10000 * (A : Int)) = 10000 * (A : Int) := wrap_i64 (by omega) (by omega)
    have e2 : IntKind.i64.wrap (10000 * (A : Int) + ((B % 10000 : Nat) : Int)) = (B : Int) := by rw [wrap_i64 (by omega) (by omega)]; omega
    have e3 : IntKind.i64.wrap ((i : Int) - 1) = (i : Int) - 1 := wrap_i64 (by omega) (by omega)
    have hiT : i < (td R).length := by omega
    clear hs hle
    (repeat ((first | refine step_w1 rfl rfl ?_ | refine step_oL (by first | omega | decide | (simp only [tiB5, tiB23, tiB3, tiB2, tiB9, tiB41, tiB72, tiB29, tiB30, tiB39, tiB33, tiB4, tiB68, tiB70, dlen, List.length_replicate, List.length_set, List.length_map, List.length_zipWith, List.length_take, List.length_append, List.length_cons, List.length_nil]; omega)) ?_ | refine step_oA (by first | omega | decide | (simp only [tiB5, tiB23, tiB3, tiB2, tiB9, tiB41, tiB72, tiB29, tiB30, tiB39, tiB33, tiB4, tiB68, tiB70, dlen, List.length_replicate, List.length_set, List.length_map, List.length_zipWith, List.length_take, List.length_append, List.length_cons, List.length_nil]; omega)) ?_ | rw [t1] | rw [hg] | rw [e1] | rw [e2] | rw [e3] | rw [Int.toNat_natCast] | rw [Nat.zero_add]); conv => whnf))
    exact ⟨i - F, fun k => k, [0, 1, 5, 6], [1001], by omega, by kernel_rfl, i, rfl, by omega, by omega, by rw [hB]; rfl, rfl⟩
  · have t1 : decide ((j : Int) - 1 ≥ (F : Int)) = false := decide_eq_false (by omega)
    have e : R / 10000 ^ F = R / 10000 ^ j := by
      rcases hjF with h | h
      · rw [show j = F by omega]
      · rw [h, Nat.div_eq_of_lt (tlt_len R), Nat.div_eq_of_lt (td_lt_pow (by omega))]
    rw [e]
    (repeat (first | (refine step_w2 rfl rfl ?_; conv => whnf) | (rw [t1]; conv => whnf)))
    exact ⟨Recast.refl _, (fun _ _ h => by cases h), (fun _ _ h => by cases h)⟩

section
variable {a b R d P F T lb : Nat}
theorem guess_lo {R b P T : Nat} (hb : 0 < b) (hP : 0 < P) (hT : b < (T + 1) * P) : R / P / (T + 1) ≤ R / b := by
  rw [Nat.le_div_iff_mul_le hb]
  have h1 : R / P / (T + 1) * (T + 1) ≤ R / P := Nat.div_mul_le_self _ _
  have h2 : R / P * P ≤ R := Nat.div_mul_le_self _ _
  have h3 : R / P / (T + 1) * b ≤ R / P / (T + 1) * ((T + 1) * P) := Nat.mul_le_mul_left _ (Nat.le_of_lt hT)
  have h4 : R / P / (T + 1) * (T + 1) * P ≤ R / P * P := Nat.mul_le_mul_right P h1
  rw [Nat.mul_assoc] at h4
  omega
theorem guess_hi {R b P T : Nat} (hT0 : 0 < T) (hP : 0 < P) (hT : T * P ≤ b) : R / b ≤ R / P / T := by
  rw [Nat.le_div_iff_mul_le hT0, Nat.le_div_iff_mul_le hP]
  have h1 : R / b * b ≤ R := Nat.div_mul_le_self _ _
  have h2 : R / b * (T * P) ≤ R / b * b := Nat.mul_le_mul_left _ hT
  rw [Nat.mul_assoc]
  omega
end
theorem step_div {A b d : Nat} (hb : 0 < b) : (10000 * A + d) / b = 10000 * (A / b) + (A % b * 10000 + d) / b := by
  have h : 10000 * A + d = A % b * 10000 + d + b * (10000 * (A / b)) := by
    have := Nat.div_add_mod A b
    have e : b * (10000 * (A / b)) = 10000 * (b * (A / b)) := by rw [← Nat.mul_assoc, Nat.mul_comm b 10000, Nat.mul_assoc]
    omega
  rw [h, Nat.add_mul_div_left _ _ hb]; omega
theorem step_mod {A b d : Nat} : (10000 * A + d) % b = (A % b * 10000 + d) % b := by
  have h : 10000 * A + d = A % b * 10000 + d + b * (10000 * (A / b)) := by
    have := Nat.div_add_mod A b
    have e : b * (10000 * (A / b)) = 10000 * (b * (A / b)) := by rw [← Nat.mul_assoc, Nat.mul_comm b 10000, Nat.mul_assoc]
    omega
  rw [h, Nat.add_mul_mod_self_left]
theorem digit_lt {r b d : Nat} (hb : 0 < b) (hr : r < b) (hd : d < 10000) : (r * 10000 + d) / b < 10000 := by
  rw [Nat.div_lt_iff_lt_mul hb]
  have : (r + 1) * 10000 ≤ b * 10000 := Nat.mul_le_mul_right _ hr
  rw [Nat.add_mul] at this
  rw [Nat.mul_comm 10000 b]; omega
/-- The first digits of a number. -/
theorem top_pos {b : Nat} (hb : 0 < b) : 0 < b / 10000 ^ ((td b).length - 3) := by
  refine Nat.div_pos (Nat.le_trans (Nat.pow_le_pow_right (by decide) (by omega)) (td_ge_pow (by omega))) (Nat.pow_pos (by decide))
theorem top_lt {b : Nat} : b / 10000 ^ ((td b).length - 3) < 1000000000000 := by
  rw [Nat.div_lt_iff_lt_mul (Nat.pow_pos (by decide)), show 1000000000000 = 10000 ^ 3 from rfl, ← Nat.pow_add]
  exact td_lt_pow (by omega)
theorem td_cons {d R : Nat} (hd : d < 10000) (h : R * 10000 + d ≠ 0) : td (R * 10000 + d) = (d : Int) :: td R := by
  rw [td_succ h, show (R * 10000 + d) % 10000 = d by omega, show (R * 10000 + d) / 10000 = R by omega]
theorem td_drop : ∀ (k n : Nat), (td n).drop k = td (n / 10000 ^ k)
  | 0, n => by simp
  | k + 1, n => by
    by_cases h : n = 0
    · subst h; rw [td_zero, Nat.zero_div]; rfl
    · rw [td_succ h, List.drop_succ_cons, td_drop k, Nat.div_div_eq_div_mul, Nat.pow_succ, Nat.mul_comm]
/-- A digit in front of a number's. -/
theorem cut_cons {d R : Nat} (hd : d < 10000) : cutN ((d : Int) :: td R) ((td R).length + 1) = (td (R * 10000 + d)).length ∧ ((d : Int) :: td R).take (td (R * 10000 + d)).length = td (R * 10000 + d) := by
  by_cases h : R * 10000 + d = 0
  · obtain rfl : R = 0 := by omega
    obtain rfl : d = 0 := by omega
    exact ⟨rfl, rfl⟩
  · have e := td_cons hd h
    have hl : (td (R * 10000 + d)).length = (td R).length + 1 := by rw [e]; rfl
    have ht := (td_top h).2
    rw [hl, e, Nat.add_sub_cancel] at ht
    refine ⟨?_, ?_⟩
    · rw [hl, cutN, if_neg ht]
    · rw [← e, List.take_length]

theorem wrap_nat {n : Nat} (h : n < 9223372036854775808) : IntKind.i64.wrap (n : Int) = n := wrap_i64 (by omega) (by omega)
theorem r_Div (a b : Nat) (hb : 0 < b) (ha : (td a).length < 268435456) (hbl : (td b).length < 268435456) : CallOK Tryz.prog 134 [nN a, nN b] [] (.tup [nN (a / b), nN (a % b)]) [] [] := by
  have k1 := r_Cmp a b (by omega) (by omega)
  by_cases hlt : a < b
  · have t1 : decide (((a : Int) - b).sign < 0) = true := decide_eq_true (by rw [Int.sign_eq_neg_one_of_neg (by omega)]; omega)
    have e0 : nN (a / b) = vecA 1 [] := by rw [Nat.div_eq_of_lt hlt]; rfl
    have e1 : nN (a % b) = nN a := by rw [Nat.mod_eq_of_lt hlt]
    rw [e0, e1]
    refine callF (Z := []) tabOK mixedOK Tryz.func134 rfl (by kernel_rfl) (by first | rfl | (simp [keylessL, keyless, keylessL_map, *]; done)) (by first | rfl | (simp [keylessL, keyless, keylessL_map, *]; done)) (by kernel_rfl) rfl ?_
    intro w0 ρ0 hE
    conv => whnf
    (repeat (first | (refine step_w1 rfl rfl ?_; conv => whnf) | (refine g_c (by assumption) ?_; conv => whnf) | (rw [t1]; conv => whnf))); (first | exact Recast.refl _ | exact Frz.recast (Recast.refl _) rfl | (refine Frz.one rfl rfl ?_; skip) | (refine Frz.tup ?_; (repeat (first | exact FrzC.keyless rfl | exact FrzL.nil | refine FrzL.cons ?_ ?_ | exact FrzC.nilS))))
  have t1 : decide (((a : Int) - b).sign < 0) = false := decide_eq_false (by have := Int.sign_nonneg_iff.2 (show 0 ≤ (a : Int) - b by omega); omega)
  have hle := td_len_mono (show b ≤ a by omega)
  have hlb0 : 0 < (td b).length := by have := (td_len_zero (n := b)); omega
  have hT0 := top_pos hb
  have hT1 := top_lt (b := b)
  have hPos : 0 < 10000 ^ ((td b).length - 3) := Nat.pow_pos (by decide)
  have hTb : b / 10000 ^ ((td b).length - 3) * 10000 ^ ((td b).length - 3) ≤ b := Nat.div_mul_le_self _ _
  have hbT : b < (b / 10000 ^ ((td b).length - 3) + 1) * 10000 ^ ((td b).length - 3) := by rw [Nat.mul_comm]; exact Nat.lt_mul_div_succ b hPos
  have k2 := r_leading b ((td b).length - 3) (by omega) (by omega) (by omega)
  generalize hF : (td b).length - 3 = F at *
  generalize hT : b / 10000 ^ F = T at *
  have e1 : IntKind.i64.wrap (((td b).length : Int) - 3) = ((td b).length : Int) - 3 := wrap_i64 (by omega) (by omega)
  have e2 : (if ((td b).length : Int) - 3 > 0 then ((td b).length : Int) - 3 else 0) = (F : Int) := by split <;> omega
  generalize hD : (td a).length - (td b).length = D
  have e3 : IntKind.i64.wrap (((td a).length : Int) - ((td b).length : Int)) = (D : Int) := by rw [wrap_i64 (by omega) (by omega)]; omega
  have e4 : IntKind.i64.wrap ((D : Int) + 1) = ((D + 1 : Nat) : Int) := by rw [wrap_i64 (by omega) (by omega)]; omega
  have hA0 : a / 10000 ^ (D + 1) < b := by
    have h1 := tlt_len a
    have h2 := td_ge_pow (n := b) (by omega)
    rw [Nat.div_lt_iff_lt_mul (Nat.pow_pos (by decide))]
    refine Nat.lt_of_lt_of_le h1 (Nat.le_trans (m := 10000 ^ ((td b).length - 1) * 10000 ^ (D + 1)) ?_ (Nat.mul_le_mul_right _ h2))
    rw [← Nat.pow_add]
    exact Nat.pow_le_pow_right (by decide) (by omega)
  have hdrop : ((td a).drop (D + 1)).take ((td a).length - (D + 1)) = td (a / 10000 ^ (D + 1)) := by
    rw [td_drop, List.take_of_length_le]
    rw [← td_drop, List.length_drop]; omega
  have wb := td_w32 b
  refine callF (Z := []) tabOK mixedOK Tryz.func134 rfl (by kernel_rfl) (by first | rfl | (simp [keylessL, keyless, keylessL_map, *]; done)) (by first | rfl | (simp [keylessL, keyless, keylessL_map, *]; done)) (by kernel_rfl) rfl ?_
  intro w0 ρ0 hE
  conv => whnf
  have hR0l : (td (a / 10000 ^ (D + 1))).length < 1099511627776 := by have := td_len_mono (Nat.div_le_self a (10000 ^ (D + 1))); omega
  generalize hR0 : a / 10000 ^ (D + 1) = R0 at *
  (repeat (first | (refine step_w2 rfl rfl ?_; conv => whnf) | (refine step_oA (by first | omega | decide | (simp only [tiB5, tiB23, tiB3, tiB2, tiB9, tiB41, tiB72, tiB29, tiB30, tiB39, tiB33, tiB4, tiB68, tiB70, dlen, List.length_replicate, List.length_set, List.length_map, List.length_zipWith, List.length_take, List.length_append, List.length_cons, List.length_nil]; omega)) ?_; conv => whnf) | (refine g_c (by assumption) ?_; conv => whnf) | (refine g_o (op_lenM rfl rfl rfl (ev_ok rfl) (tgt rfl) rfl) ?_; conv => whnf) | (refine g_o (op_sliceM rfl (ev_ok rfl) (bound_spec rfl) (bound_spec rfl) (.inl rfl) (tgt rfl) rfl (tgt rfl) rfl (by omega)) ?_; conv => whnf) | (refine ⟨.slc 40 1 0 (0 + (td R0).length), [(35, ⟨3, true, .ints .i64 []⟩)], [(40, ⟨3, true, .ints .i64 (td R0)⟩)], [(35, ⟨3, true, .dead⟩)], op_appendV rfl rfl rfl (ev_ok rfl) (ev_ok rfl) (rows_ints (td R0)) (tabOK.get (t := 68) rfl) rfl (tabOK.get (t := 68) rfl) rfl (tabOK.get (t := 3) rfl) (List.mem_cons_self ..) rfl rfl (by simp [dlen]) (by simp) (by simp [dlen]) (by simp [dapp]) (by show (0 + _) * ti3.bytes ≤ _; simp only [tiB3]; omega) (by omega), one_fk rfl, one_new rfl, one_upd (List.mem_cons_self ..) rfl rfl rfl, ?_⟩; conv => whnf) | (rw [t1]; conv => whnf) | (rw [e1]; conv => whnf) | (rw [e2]; conv => whnf) | (rw [e3]; conv => whnf) | (rw [e4]; conv => whnf) | (rw [hdrop]; conv => whnf) | (rw [Int.toNat_natCast]; conv => whnf) | (rw [Nat.zero_add]; conv => whnf)))
  refine SWx_frzP 10 40 (fun _ h => h) rfl rfl (Nat.le_refl _) (List.take_length) ?_
  have e5 : ((D + 1 : Nat) : Int) - 1 = (D : Int) := by omega
  refine SW_loopS hE (fun k => k) [0, 1, 6, 7, 8, 9, 10] [34] (fun m fr hp => ∃ Q : List Int, m ≤ D + 1 ∧ Q.length = D + 1 ∧ W4 Q ∧ (∀ k, k < m → Q.getD k 0 = 0) ∧ valT Q (D + 1) = ((a / 10000 ^ m / b : Nat) : Int) * 10000 ^ m ∧
    fr = [(0, nN a), (1, nN b), (6, .val (.int .i64 (F : Nat))), (7, .val (.int .i64 (T : Nat))), (8, .val (.int .i64 ((m : Int) - 1))), (9, .slc 34 1 0 (D + 1)), (10, nN (a / 10000 ^ m % b))] ∧ hp = [(34, zblk Q)]) (D + 1) ?_ ?_ ?_
  · kernel_rfl
  · refine ⟨List.replicate (D + 1) 0, Nat.le_refl _, List.length_replicate, W4_of (fun x hx => by rw [(List.mem_replicate.1 hx).2]; omega), (fun k _ => getD_replicate), ?_, ?_, rfl⟩
    · rw [valT_zeros (k := 0) (fun i _ _ => getD_replicate) (Nat.zero_le _), hR0, Nat.div_eq_of_lt hA0]; simp [valT]
    · rw [e5, hR0, Nat.mod_eq_of_lt hA0]; rfl
  rintro m _ _ ⟨Q, hm, hQl, hQw, hQ0, hQv, rfl, rfl⟩
  by_cases h0 : m = 0
  · subst h0
    rw [Nat.pow_zero, Nat.div_one, Int.pow_zero, Int.mul_one] at hQv
    have hz : nN (a / 10000 ^ 0 % b) = nN (a % b) := by rw [Nat.pow_zero, Nat.div_one]
    rw [hz]
    have t2 : decide (((0 : Nat) : Int) - 1 ≥ 0) = false := rfl
    have kt := r_trim Q (by omega) hQw
    rw [show (valT Q Q.length).toNat = a / b by rw [hQl, hQv]; exact Int.toNat_natCast _] at kt
    refine SWx_frzI 9 34 (fun _ h => h) rfl rfl hQl.symm ?_
    refine SWx.of hE ?_
    conv => whnf
    (repeat (first | (refine step_w2 rfl rfl ?_; conv => whnf) | (refine g_c (by assumption) ?_; conv => whnf))); (first | exact Recast.refl _ | exact Frz.recast (Recast.refl _) rfl | (refine Frz.one rfl rfl ?_; skip) | (refine Frz.tup ?_; skip))
  · obtain ⟨i, rfl⟩ : ∃ i, m = i + 1 := ⟨m - 1, by omega⟩
    have ei : (((i + 1 : Nat) : Int) - 1) = (i : Int) := by omega
    rw [ei]
    have hst := div_pow_step a i
    have hdig : (td a).getD i 0 = ((a / 10000 ^ i % 10000 : Nat) : Int) := td_get a i
    have hdlt : a / 10000 ^ i % 10000 < 10000 := Nat.mod_lt _ (by decide)
    have hia : i < (td a).length := by omega
    have hAle := td_len_mono (Nat.le_trans (Nat.mod_le (a / 10000 ^ (i + 1)) b) (Nat.div_le_self a _))
    have hq1 := hQv
    have hfin : ((a / 10000 ^ i / b : Nat) : Int) = 10000 * ((a / 10000 ^ (i + 1) / b : Nat) : Int) + (((a / 10000 ^ (i + 1) % b * 10000 + a / 10000 ^ i % 10000) / b : Nat) : Int) := by
      rw [hst, step_div hb]
      have : (10000 * (a / 10000 ^ (i + 1)) + a / 10000 ^ i % 10000) % 10000 = a / 10000 ^ i % 10000 := by rw [← hst]
      rw [this]; omega
    have hfinr : a / 10000 ^ i % b = (a / 10000 ^ (i + 1) % b * 10000 + a / 10000 ^ i % 10000) % b := by
      have h := step_mod (A := a / 10000 ^ (i + 1)) (b := b) (d := a / 10000 ^ i % 10000)
      rw [← hst] at h; exact h
    have hRb : a / 10000 ^ (i + 1) % b < b := Nat.mod_lt _ hb
    clear hst
    generalize hd : a / 10000 ^ i % 10000 = d at *
    generalize hR : a / 10000 ^ (i + 1) % b = R at *
    obtain ⟨hc1, hc2⟩ := cut_cons (R := R) hdlt
    have hR'l : (td (R * 10000 + d)).length ≤ (td R).length + 1 := tlen_le (by have := tlt_len R; rw [Nat.pow_succ]; omega)
    have hqlt := digit_lt (d := d) hb hRb hdlt
    have hR'b : (td (R * 10000 + d)).length ≤ (td b).length + 1 := tlen_le (by have := tlt_len b; rw [Nat.pow_succ]; omega)
    have kt := r_trimM ((d : Int) :: td R) (1 + (td R).length) (by rw [List.length_cons]; omega) (by rw [List.length_cons]; omega) 51 true
    rw [Nat.add_comm 1, hc1, Nat.add_comm] at kt
    have hfst : (R * 10000 + d) / 10000 ^ F < 10000 ^ 4 := by
      rw [Nat.div_lt_iff_lt_mul (Nat.pow_pos (by decide)), ← Nat.pow_add]
      exact td_lt_pow (by omega)
    have kl := r_leadingM ((d : Int) :: td R) (R * 10000 + d) F hc2 (by rw [List.length_cons]; omega) (by omega) (by omega) (by omega) 51 true
    have glo := guess_lo (R := R * 10000 + d) hb hPos hbT
    have ghi := guess_hi (R := R * 10000 + d) hT0 hPos hTb
    have hsub : R * 10000 + d - b * ((R * 10000 + d) / b) = a / 10000 ^ i % b := by
      rw [hfinr]; have := Nat.div_add_mod (R * 10000 + d) b; omega
    have hmulle : b * ((R * 10000 + d) / b) ≤ R * 10000 + d := Nat.mul_div_le _ _
    have hqle : ∀ x, b * x ≤ R * 10000 + d ↔ x ≤ (R * 10000 + d) / b := fun x => by rw [Nat.le_div_iff_mul_le hb, Nat.mul_comm]
    generalize hR' : R * 10000 + d = R' at *
    generalize hfe : R' / 10000 ^ F = fst at *
    generalize hqd : R' / b = qd at *
    have e6 : IntKind.i64.wrap ((T : Int) + 1) = ((T + 1 : Nat) : Int) := by rw [wrap_i64 (by omega) (by omega)]; omega
    have e7 : IntKind.i64.wrap ((fst : Int).tdiv ((T + 1 : Nat) : Int)) = ((fst / (T + 1) : Nat) : Int) := by
      rw [Int.tdiv_eq_ediv_of_nonneg (by omega), ← Int.natCast_ediv]
      exact wrap_nat (Nat.lt_of_le_of_lt (Nat.div_le_self fst (T + 1)) (by omega))
    have e8 : IntKind.i64.wrap ((fst : Int).tdiv (T : Int)) = ((fst / T : Nat) : Int) := by
      rw [Int.tdiv_eq_ediv_of_nonneg (by omega), ← Int.natCast_ediv]
      exact wrap_nat (Nat.lt_of_le_of_lt (Nat.div_le_self fst T) (by omega))
    have e9 : (if (9999 : Int) < ((fst / T : Nat) : Int) then (9999 : Int) else ((fst / T : Nat) : Int)) = ((min (fst / T) 9999 : Nat) : Int) := by split <;> omega
    have t2 : decide ((i : Int) ≥ 0) = true := decide_eq_true (by omega)
    have hRl : (td R).length < 1099511627776 := by omega
    refine SWx.of hE ?_
    conv => whnf
    (repeat (first | (refine step_w1 rfl rfl ?_; conv => whnf) | (refine step_i (by kernel_rfl) ?_; conv => whnf) | (refine step_oN (by first | omega | decide | (simp only [tiB5, tiB23, tiB3, tiB2, tiB9, tiB41, tiB72, tiB29, tiB30, tiB39, tiB33, tiB4, tiB68, tiB70, dlen, List.length_replicate, List.length_set, List.length_map, List.length_zipWith, List.length_take, List.length_append, List.length_cons, List.length_nil]; omega)) ?_; conv => whnf) | (refine g_c1 (by assumption) rfl ?_; conv => whnf) | (refine g_o (op_loadA rfl (ev_ok rfl) (tgt rfl) rfl (Nat.succ_ne_zero _) rfl) ?_; conv => whnf) | (refine g_o (op_indexN (α := Int) (d := 0) rfl (ev_ok rfl) (ev_ok rfl) (tgt rfl) rfl (tgt rfl) rfl (by omega)) ?_; conv => whnf) | (refine ⟨.slc 51 1 0 (1 + (td R).length), [(49, ⟨3, true, .ints .i64 [(d : Int)]⟩)], [(51, ⟨3, true, .ints .i64 ((d : Int) :: td R)⟩)], [(49, ⟨3, true, .dead⟩)], op_appendV rfl rfl rfl (ev_ok rfl) (ev_ok rfl) (rows_ints (td R)) (tabOK.get (t := 68) rfl) rfl (tabOK.get (t := 68) rfl) rfl (tabOK.get (t := 3) rfl) (List.mem_cons_self ..) rfl rfl (by simp [dlen]) (by simp) (by simp [dlen]) (by simp [dapp]) (by show (1 + _) * ti3.bytes ≤ _; simp only [tiB3]; omega) (by omega), one_fk rfl, one_new rfl, one_upd (List.mem_cons_self ..) rfl rfl rfl, ?_⟩; conv => whnf) | (rw [t2]; conv => whnf) | (rw [hdig]; conv => whnf) | (rw [e6]; conv => whnf) | (rw [e7]; conv => whnf) | (rw [e8]; conv => whnf) | (rw [e9]; conv => whnf)))
    refine SWx_frzP 10 51 (fun _ h => h) rfl rfl (by rw [List.length_cons]; omega) hc2 ?_
    have hmin1 : fst / (T + 1) ≤ qd := glo
    have hmin2 : qd ≤ min (fst / T) 9999 := by omega
    have hmin3 : min (fst / T) 9999 ≤ 9999 := Nat.min_le_right _ _
    clear kl kt hc1 hc2 glo ghi hbT hTb e9 e8 e7 e6 hfst
    generalize fst / (T + 1) = lo0 at *
    generalize min (fst / T) 9999 = hi0 at *
    refine SW_loopN hE (fun k => k) [0, 1, 6, 7, 8, 9, 10, 12, 13] [34] (fun q fr hp => ∃ lo hi : Nat, q = hi - lo ∧ lo ≤ qd ∧ qd ≤ hi ∧ hi ≤ 9999 ∧
      fr = [(0, nN a), (1, nN b), (6, .val (.int .i64 (F : Nat))), (7, .val (.int .i64 (T : Nat))), (8, .val (.int .i64 (i : Nat))), (9, .slc 34 1 0 (D + 1)), (10, nN R'), (12, .val (.int .i64 (lo : Nat))), (13, .val (.int .i64 (hi : Nat)))] ∧ hp = [(34, zblk Q)]) (hi0 - lo0) ?_ ?_ ?_
    · kernel_rfl
    · exact ⟨lo0, hi0, rfl, hmin1, hmin2, hmin3, rfl, rfl⟩
    rintro q _ _ ⟨lo, hi, rfl, hlo, hhi, hhi2, rfl, rfl⟩
    conv => whnf
    by_cases hl : lo < hi
    · have t3 : decide ((lo : Int) < (hi : Int)) = true := decide_eq_true (by omega)
      have e10 : IntKind.i64.wrap ((lo : Int) + (hi : Int)) = ((lo + hi : Nat) : Int) := by rw [wrap_i64 (by omega) (by omega)]; omega
      have e11 : IntKind.i64.wrap (((lo + hi : Nat) : Int) + 1) = ((lo + hi + 1 : Nat) : Int) := by rw [wrap_i64 (by omega) (by omega)]; omega
      have e12 : IntKind.i64.wrap (((lo + hi + 1 : Nat) : Int).tdiv 2) = (((lo + hi + 1) / 2 : Nat) : Int) := by
        rw [Int.tdiv_eq_ediv_of_nonneg (by omega)]
        exact wrap_i64 (by omega) (by omega)
      have e12' : (((lo + hi + 1 : Nat) : Int).tdiv 2) = (((lo + hi + 1) / 2 : Nat) : Int) := by rw [Int.tdiv_eq_ediv_of_nonneg (by omega)]; rfl
      have hmid : lo < (lo + hi + 1) / 2 ∧ (lo + hi + 1) / 2 ≤ hi := by omega
      generalize (lo + hi + 1) / 2 = mid at *
      have e13 : IntKind.u64.wrap (mid : Int) = (mid : Int) := wrap_u64 (by omega) (by omega)
      have hbm : (td (b * mid)).length ≤ (td b).length + 1 := tlen_le (by
        have h1 := tlt_len b
        have h2 : b * mid ≤ b * 10000 := Nat.mul_le_mul_left _ (by omega)
        rw [Nat.pow_succ]; omega)
      have hml : (td mid).length ≤ 1 := tlen_le (by omega)
      have o1 := r_Of mid (by omega)
      have o2 := r_Mul b mid (by omega) (by omega)
      have o3 := r_Cmp (b * mid) R' (by omega) (by omega)
      by_cases hc : b * mid ≤ R'
      · have t4 : decide ((((b * mid : Nat) : Int) - R').sign ≤ 0) = true := decide_eq_true (by
          have := Int.sign_nonpos_iff.2 (show ((b * mid : Nat) : Int) - R' ≤ 0 by omega); omega)
        have := (hqle mid).1 hc
        (repeat ((first | refine step_w1 rfl rfl ?_ | refine step_oN (by first | omega | decide | (simp only [tiB5, tiB23, tiB3, tiB2, tiB9, tiB41, tiB72, tiB29, tiB30, tiB39, tiB33, tiB4, tiB68, tiB70, dlen, List.length_replicate, List.length_set, List.length_map, List.length_zipWith, List.length_take, List.length_append, List.length_cons, List.length_nil]; omega)) ?_ | refine g_c (by assumption) ?_ | rw [t3] | rw [e10] | rw [e11] | rw [e12] | rw [e13] | rw [t4]); conv => whnf))
        exact ⟨hi - mid, fun k => k, [0, 1, 6, 7, 8, 9, 10, 12, 13], [34], by omega, by kernel_rfl, mid, hi, rfl, this, hhi, hhi2, rfl, rfl⟩
      · have t4 : decide ((((b * mid : Nat) : Int) - R').sign ≤ 0) = false := decide_eq_false (by
          rw [Int.sign_eq_one_of_pos (show 0 < ((b * mid : Nat) : Int) - R' by omega)]; omega)
        have : ¬ mid ≤ qd := fun h => hc ((hqle mid).2 h)
        have e14 : IntKind.i64.wrap ((mid : Int) - 1) = ((mid - 1 : Nat) : Int) := by rw [wrap_i64 (by omega) (by omega)]; omega
        (repeat ((first | refine step_w1 rfl rfl ?_ | refine step_w2 rfl rfl ?_ | refine step_oN (by first | omega | decide | (simp only [tiB5, tiB23, tiB3, tiB2, tiB9, tiB41, tiB72, tiB29, tiB30, tiB39, tiB33, tiB4, tiB68, tiB70, dlen, List.length_replicate, List.length_set, List.length_map, List.length_zipWith, List.length_take, List.length_append, List.length_cons, List.length_nil]; omega)) ?_ | refine g_c (by assumption) ?_ | rw [t3] | rw [e10] | rw [e11] | rw [e12] | rw [e13] | rw [t4] | rw [e14]); conv => whnf))
        exact ⟨mid - 1 - lo, fun k => k, [0, 1, 6, 7, 8, 9, 10, 12, 13], [34], by omega, by kernel_rfl, lo, mid - 1, rfl, hlo, by omega, by omega, rfl, rfl⟩
    · have t3 : decide ((lo : Int) < (hi : Int)) = false := decide_eq_false (by omega)
      obtain rfl : lo = qd := by omega
      have e13 : IntKind.u64.wrap (lo : Int) = (lo : Int) := wrap_u64 (by omega) (by omega)
      have e14 : IntKind.i64.wrap ((i : Int) - 1) = (i : Int) - 1 := wrap_i64 (by omega) (by omega)
      have hbm : (td (b * lo)).length ≤ (td b).length + 1 := tlen_le (by
        have h1 := tlt_len b
        have h2 : b * lo ≤ b * 10000 := Nat.mul_le_mul_left _ (by omega)
        rw [Nat.pow_succ]; omega)
      have hml : (td lo).length ≤ 1 := tlen_le (by omega)
      have o1 := r_Of lo (by omega)
      have o2 := r_Mul b lo (by omega) (by omega)
      have o3 := r_Sub R' (b * lo) hmulle (by omega)
      rw [hsub] at o3
      have hiQ : i < Q.length := by omega
      have hQs : (Q.set i (lo : Int)).length = D + 1 := by rw [List.length_set]; exact hQl
      have hQw2 := hQw.set (i := i) (show (0 : Int) ≤ lo by omega) (by omega)
      have hQ02 : ∀ k, k < i → (Q.set i (lo : Int)).getD k 0 = 0 := fun k hk => by rw [getD_set, if_neg (by omega)]; exact hQ0 k (by omega)
      have hQv2 : valT (Q.set i (lo : Int)) (D + 1) = ((a / 10000 ^ i / b : Nat) : Int) * 10000 ^ i := by
        rw [valT_set (by omega) hiQ, hQ0 i (by omega), hQv, hfin, Int.pow_succ]; grind
      (repeat ((first | refine step_w2 rfl rfl ?_ | refine step_oL (by first | omega | decide | (simp only [tiB5, tiB23, tiB3, tiB2, tiB9, tiB41, tiB72, tiB29, tiB30, tiB39, tiB33, tiB4, tiB68, tiB70, dlen, List.length_replicate, List.length_set, List.length_map, List.length_zipWith, List.length_take, List.length_append, List.length_cons, List.length_nil]; omega)) ?_ | refine step_oA (by first | omega | decide | (simp only [tiB5, tiB23, tiB3, tiB2, tiB9, tiB41, tiB72, tiB29, tiB30, tiB39, tiB33, tiB4, tiB68, tiB70, dlen, List.length_replicate, List.length_set, List.length_map, List.length_zipWith, List.length_take, List.length_append, List.length_cons, List.length_nil]; omega)) ?_ | refine g_c (by assumption) ?_ | rw [t3] | rw [show 0 + (i : Int).toNat = i from by omega] | rw [e13] | rw [e14]); conv => whnf))
      exact ⟨i, fun k => k, [0, 1, 6, 7, 8, 9, 10], [34], by omega, by kernel_rfl, Q.set i (lo : Int), by omega, hQs, hQw2, hQ02, hQv2, rfl, rfl⟩

theorem td_lt_len {a b : Nat} (h : a ≤ b) {M : Nat} (hb : (td b).length < M) : (td a).length < M := Nat.lt_of_le_of_lt (td_len_mono h) hb
theorem r_Gcd (a b : Nat) (ha : (td a).length < 268435456) (hb : (td b).length < 268435456) : CallOK Tryz.prog 133 [nN a, nN b] [] (nN (Nat.gcd a b)) [] [] := by
  refine callV (Z := []) tabOK mixedOK Tryz.func133 rfl (by kernel_rfl) rfl rfl (by kernel_rfl) rfl ?_
  intro W0 w0 ρ0 hE
  conv => whnf
  skip
  refine SW_loopN hE (fun k => k) [0, 1] [] (fun q fr hp => ∃ x y : Nat, q = y ∧ Nat.gcd x y = Nat.gcd a b ∧ (td x).length < 268435456 ∧ (td y).length < 268435456 ∧ fr = [(0, nN x), (1, nN y)] ∧ hp = []) b ?_ ?_ ?_
  · kernel_rfl
  · exact ⟨a, b, rfl, rfl, ha, hb, rfl, rfl⟩
  rintro q _ _ ⟨x, y, rfl, hg, hx, hy, rfl, rfl⟩
  conv => whnf
  by_cases h0 : 0 < q
  · have t1 : decide (((td q).length : Int) > 0) = true := decide_eq_true (by have := td_len_zero (n := q); omega)
    have k1 := r_Div x q h0 hx hy
    have hlt := Nat.mod_lt x h0
    (repeat ((first | refine step_w1 rfl rfl ?_ | refine g_c (by assumption) ?_ | refine g_o (op_lenM rfl rfl rfl (ev_ok rfl) (tgt rfl) rfl) ?_ | rw [t1]); conv => whnf))
    exact ⟨x % q, fun k => k, [0, 1], [], hlt, by kernel_rfl, q, x % q, rfl, by rw [← hg, Nat.gcd_comm x q, Nat.gcd_rec q x]; exact Nat.gcd_comm _ _, hy, td_lt_len (Nat.le_of_lt hlt) hy, rfl, rfl⟩
  · obtain rfl : q = 0 := by omega
    rw [Nat.gcd_zero_right] at hg
    subst hg
    have t1 : decide (((td 0).length : Int) > 0) = false := rfl
    (repeat (first | (refine step_w2 rfl rfl ?_; conv => whnf) | (refine g_o (op_lenM rfl rfl rfl (ev_ok rfl) (tgt rfl) rfl) ?_; conv => whnf))); (first | exact Recast.refl _ | exact Frz.recast (Recast.refl _) rfl | (refine Frz.one rfl rfl ?_; skip) | (refine Frz.tup ?_; skip))
end Go.Proofs.YtgodfkgocbppgaaGreatDoor

namespace Go.Proofs.YtgodfkgocbppgaaGreatDoor
open Go.Sx
set_option linter.unusedSimpArgs false
set_option linter.unusedVariables false
set_option maxRecDepth 100000
set_option maxHeartbeats 4000000

def ofInts (l : List Int) : List Rat := l.map fun (n : Int) => ((n : Int) : Rat)
theorem map_get {α β : Type} {f : α → β} {l : List α} {i : Nat} {d : α} {e : β} (h : i < l.length) : (l.map f).getD i e = f (l.getD i d) := by
  simp [List.getD_eq_getElem?_getD, List.getElem?_eq_getElem h]

theorem v_Of (l : List Int) (hl : l.length < 1099511627776) (h : ∀ i, i < l.length → -9223372036854775808 ≤ l.getD i 0 ∧ l.getD i 0 < 9223372036854775808) : CallOK Tryz.prog 51 [ivec .i64 l] [] (fvec (ofInts l)) [] [] := by
  refine callF (Z := []) tabOK mixedOK Tryz.func51 rfl (by kernel_rfl) (by first | rfl | (simp [keylessL, keyless, keylessL_map, *]; done)) (by first | rfl | (simp [keylessL, keyless, keylessL_map, *]; done)) (by kernel_rfl) rfl ?_
  intro w0 ρ0 hE
  conv => whnf
  (repeat (first | (refine And.intro (by first | decide | omega | (simp only [tiB5, tiB23, tiB3, tiB2, tiB9, tiB41, tiB72, tiB29, tiB30, tiB39, tiB33, tiB4, tiB68, tiB70, dlen, List.length_replicate, List.length_set, List.length_map, List.length_zipWith, List.length_take, List.length_append, List.length_cons, List.length_nil]; omega)) ?_; conv => whnf) | (refine g_o (op_lenM rfl rfl rfl (ev_ok rfl) (tgt rfl) rfl) ?_; conv => whnf) | (rw [Int.toNat_natCast]; conv => whnf)))
  have hz : (ofInts l).length = l.length := by simp [ofInts]
  refine SW_loopN hE (fun k => k) [0, 2, 3, 9, 10] [7] (fun m fr hp => ∃ i, m = l.length - i ∧ i ≤ l.length ∧ fr = [(0, ivec .i64 l), (2, .val (.slice none 0 0)), (3, .slc 7 5 0 l.length), (9, .val (.int .i64 (l.length : Nat))), (10, .val (.int .i64 (i : Nat)))] ∧
    hp = [(7, ⟨41, true, .fracs ((ofInts l).take i ++ List.replicate (l.length - i) 0)⟩)]) l.length ?_ ?_ ?_
  · kernel_rfl
  · exact ⟨0, rfl, Nat.zero_le _, rfl, rfl⟩
  rintro m _ _ ⟨i, rfl, hi, rfl, rfl⟩
  conv => whnf
  have hlen := fill_len (d := (0 : Rat)) hi hz
  by_cases hlt : i < l.length
  · have t1 := dlt hlt
    have t2 := winc (i := i) (by omega)
    obtain ⟨b1, b2⟩ := h i hlt
    have k1 := c_fInt (l.getD i 0) b1 b2
    rw [← map_get (f := fun (n : Int) => ((n : Int) : Rat)) (e := 0) hlt] at k1
    (repeat ((first | refine step_w1 rfl rfl ?_ | refine And.intro (by first | decide | omega | (simp only [tiB5, tiB23, tiB3, tiB2, tiB9, tiB41, tiB72, tiB29, tiB30, tiB39, tiB33, tiB4, tiB68, tiB70, dlen, List.length_replicate, List.length_set, List.length_map, List.length_zipWith, List.length_take, List.length_append, List.length_cons, List.length_nil]; omega)) ?_ | refine g_c (by assumption) ?_ | refine g_o (op_loadA rfl (ev_ok rfl) (tgt rfl) rfl (Nat.succ_ne_zero _) rfl) ?_ | refine g_o (op_indexN (α := Int) (d := 0) rfl (ev_ok rfl) (ev_ok rfl) (tgt rfl) rfl (tgt rfl) rfl (by omega)) ?_ | rw [t1] | rw [t2] | rw [Int.toNat_natCast] | rw [Nat.zero_add]); conv => whnf))
    refine ⟨l.length - (i + 1), fun k => k, [0, 2, 3, 9, 10], [7], by omega, by kernel_rfl, i + 1, rfl, hlt, rfl, ?_⟩
    rw [← fill_set (e := 0) hlt hz]
    rfl
  · have t1 := dge hlt
    have hI : i = l.length := by omega
    subst hI
    rw [fill_all hz]
    (repeat (first | (refine step_w2 rfl rfl ?_; conv => whnf) | (rw [t1]; conv => whnf))); (first | exact Recast.refl _ | exact Frz.recast (Recast.refl _) rfl | (refine Frz.one rfl rfl ?_; (repeat (first | (refine FrzC.fracs rfl ?_; (first | rfl | omega | (simp <;> fail) | (simp <;> omega)))))) | (refine Frz.tup ?_; skip))

/-- The elements at some places. -/
def vpart (a : List Rat) (p : List Int) : List Rat := p.map fun i => a.getD i.toNat 0
theorem v_Part (a : List Rat) (p : List Int) (ha : a.length ≤ 2048) (hp : p.length ≤ 2048) (h : ∀ i, i < p.length → 0 ≤ p.getD i 0 ∧ p.getD i 0 < a.length) : CallOK Tryz.prog 29 [fvec a, ivec .i64 p] [] (.tup [fvec (vpart a p), .val (.int .i64 0)]) [] [] := by
  have t0 : decide ((if (p.length : Int) > (a.length : Int) then (p.length : Int) else (a.length : Int)) > 2048) = false := decide_eq_false (by split <;> omega)
  refine callF (Z := []) tabOK mixedOK Tryz.func29 rfl (by kernel_rfl) (by first | rfl | (simp [keylessL, keyless, keylessL_map, *]; done)) (by first | rfl | (simp [keylessL, keyless, keylessL_map, *]; done)) (by kernel_rfl) rfl ?_
  intro w0 ρ0 hE
  conv => whnf
  (repeat ((first | refine step_w2 rfl rfl ?_ | refine And.intro (by first | decide | omega | (simp only [tiB5, tiB23, tiB3, tiB2, tiB9, tiB41, tiB72, tiB29, tiB30, tiB39, tiB33, tiB4, tiB68, tiB70, dlen, List.length_replicate, List.length_set, List.length_map, List.length_zipWith, List.length_take, List.length_append, List.length_cons, List.length_nil]; omega)) ?_ | refine g_o (op_lenM rfl rfl rfl (ev_ok rfl) (tgt rfl) rfl) ?_ | rw [t0] | rw [Int.toNat_natCast]); conv => whnf))
  have hz : (vpart a p).length = p.length := by simp [vpart]
  refine SW_loopN hE (fun k => k) [0, 1, 4, 5, 6, 18, 19, 20] [17] (fun m fr hp => ∃ i, m = p.length - i ∧ i ≤ p.length ∧ fr = [(0, fvec a), (1, ivec .i64 p), (4, .val (.slice none 0 0)), (5, .val (.int .i64 0)), (6, .slc 17 5 0 p.length), (18, ivec .i64 p), (19, .val (.int .i64 (p.length : Nat))), (20, .val (.int .i64 (i : Nat)))] ∧
    hp = [(17, ⟨41, true, .fracs ((vpart a p).take i ++ List.replicate (p.length - i) 0)⟩)]) p.length ?_ ?_ ?_
  · kernel_rfl
  · exact ⟨0, rfl, Nat.zero_le _, rfl, rfl⟩
  rintro m _ _ ⟨i, rfl, hi, rfl, rfl⟩
  conv => whnf
  have hlen := fill_len (d := (0 : Rat)) hi hz
  by_cases hlt : i < p.length
  · have t1 := dlt hlt
    have t2 := winc (i := i) (by omega)
    obtain ⟨b1, b2⟩ := h i hlt
    have e1 : a.getD (p.getD i 0).toNat 0 = (vpart a p).getD i 0 := (map_get (f := fun (i : Int) => a.getD i.toNat 0) hlt).symm
    have t3 : decide (p.getD i 0 < 0) = false := decide_eq_false (by omega)
    have t4 : decide (p.getD i 0 ≥ (a.length : Int)) = false := decide_eq_false (by omega)
    (repeat ((first | refine step_w1 rfl rfl ?_ | refine step_w2 rfl rfl ?_ | refine And.intro (by first | decide | omega | (simp only [tiB5, tiB23, tiB3, tiB2, tiB9, tiB41, tiB72, tiB29, tiB30, tiB39, tiB33, tiB4, tiB68, tiB70, dlen, List.length_replicate, List.length_set, List.length_map, List.length_zipWith, List.length_take, List.length_append, List.length_cons, List.length_nil]; omega)) ?_ | refine g_o (op_pickF rfl (ev_ok rfl) (ev_ok rfl)) ?_ | refine g_o (op_lenM rfl rfl rfl (ev_ok rfl) (tgt rfl) rfl) ?_ | refine g_o (op_loadA rfl (ev_ok rfl) (tgt rfl) rfl (Nat.succ_ne_zero _) rfl) ?_ | refine g_o (op_indexN (α := Int) (d := 0) rfl (ev_ok rfl) (ev_ok rfl) (tgt rfl) rfl (tgt rfl) rfl (by omega)) ?_ | refine g_o (op_indexM (α := Rat) (d := 0) rfl (ev_ok rfl) (ev_ok rfl) (tgt rfl) rfl (tgt rfl) rfl (by omega)) ?_ | rw [t1] | rw [t3] | rw [t4] | rw [e1] | rw [t2] | rw [Int.toNat_natCast] | rw [Nat.zero_add]); conv => whnf))
    refine ⟨p.length - (i + 1), fun k => k, [0, 1, 4, 5, 6, 18, 19, 20], [17], by omega, by kernel_rfl, i + 1, rfl, hlt, rfl, ?_⟩
    rw [← fill_set (e := 0) hlt hz]
    rfl
  · have t1 := dge hlt
    have hI : i = p.length := by omega
    subst hI
    rw [fill_all hz]
    (repeat (first | (refine step_w2 rfl rfl ?_; conv => whnf) | (rw [t1]; conv => whnf))); (first | exact Recast.refl _ | exact Frz.recast (Recast.refl _) rfl | (refine Frz.one rfl rfl ?_; skip) | (refine Frz.tup ?_; (repeat (first | exact FrzC.keyless rfl | exact FrzL.nil | refine FrzL.cons ?_ ?_ | (refine FrzC.fracs rfl ?_; (first | rfl | omega | (simp <;> fail) | (simp <;> omega)))))))

theorem alike_zero {ls : List (List Rat)} {n : Nat} (hl : ∀ v ∈ ls, v.length = n) (hn2 : n ≤ 2048) : alikeF ls = 0 := by
  rw [alikeF, if_neg, if_pos]
  · refine List.all_eq_true.2 fun v hv => ?_
    rw [hl v hv]
    cases ls with
    | nil => cases hv
    | cons x l => rw [List.headD_cons, hl x (List.mem_cons_self ..)]; exact beq_self_eq_true _
  · rw [Bool.not_eq_true, List.any_eq_false]
    intro v hv
    rw [hl v hv]
    simp; omega

/-- The first part of a linear combination. -/
def mixN (c : List Rat) (ls : List (List Rat)) (n : Nat) : Nat → List Rat
  | 0 => List.replicate n 0
  | i + 1 => vaxpy (c.getD i 0) (ls.getD i []) (mixN c ls n i)
theorem mixN_len {c : List Rat} {ls : List (List Rat)} {n : Nat} (hl : ∀ v ∈ ls, v.length = n) : ∀ i, i ≤ ls.length → (mixN c ls n i).length = n
  | 0, _ => by simp [mixN]
  | i + 1, h => by
    have h1 := mixN_len (c := c) hl i (by omega)
    have h2 := hl _ (getD_mem (d := []) (show i < ls.length by omega))
    rw [mixN]; exact zip_len h2 h1
theorem mixN_fs {c : List Rat} {ls : List (List Rat)} {n B : Nat} (hc : c.length = ls.length) (hl : ∀ v ∈ ls, v.length = n) (hb : ∀ v ∈ ls, ∀ k, k < n → fs (v.getD k 0) ≤ B) (hcb : ∀ q ∈ c, fs q ≤ B) : ∀ i, i ≤ ls.length → ∀ k, k < n → fs ((mixN c ls n i).getD k 0) ≤ 2 + i * (B + B)
  | 0, _, k, hk => by
    have : (List.replicate n (0 : Rat)).getD k 0 = 0 := by simp [List.getD_eq_getElem?_getD, hk]
    rw [mixN, this, fs_zero]; omega
  | i + 1, h, k, hk => by
    have h1 := mixN_fs hc hl hb hcb i (by omega) k hk
    have hm := getD_mem (d := []) (show i < ls.length by omega)
    have hmc := hcb _ (getD_mem (d := 0) (show i < c.length by omega))
    have h2 := hb _ hm k hk
    have h3 := mixN_len (c := c) hl i (by omega)
    rw [mixN, zip_get (d1 := 0) (d2 := 0) (by rw [hl _ hm]; exact hk) (by omega)]
    have h4 := fs_add (c.getD i 0 * (ls.getD i []).getD k 0) ((mixN c ls n i).getD k 0)
    have h5 := fs_mul (c.getD i 0) ((ls.getD i []).getD k 0)
    rw [Nat.succ_mul]; omega

theorem v_Mix (c : List Rat) (ls : List (List Rat)) (n B : Nat) (hc : c.length = ls.length) (hn : ls.length < 1048576) (h0 : ls ≠ []) (hl : ∀ v ∈ ls, v.length = n) (hn2 : n ≤ 2048) (hb : ∀ v ∈ ls, ∀ k, k < n → fs (v.getD k 0) ≤ B) (hcb : ∀ q ∈ c, fs q ≤ B)
    (hB : 2 + ls.length * (B + B) + (B + B) ≤ 1073741824) : CallOK Tryz.prog 23 [fvec c, mvec 1 fvec ls] [] (.tup [fvec (mixN c ls n ls.length), .val (.int .i64 0)]) [] [] := by
  have ka := v_alike ls (by omega) (fun v hv => by rw [hl v hv]; omega)
  rw [alike_zero hl hn2] at ka
  have hpos : 0 < ls.length := List.length_pos_iff.2 h0
  have t0 : ((ls.length : Int) == 0) = false := beq_false_of_ne (by omega)
  have t1 : ((c.length : Int) != (ls.length : Int)) = false := by rw [hc]; exact bne_self_eq_false _
  have hlen0 := hl _ (getD_mem (d := []) hpos)
  have t9 : (((ls.getD 0 []).length : Nat) : Int) = (n : Int) := by rw [hlen0]
  refine callF (Z := []) tabOK mixedOK Tryz.func23 rfl (by kernel_rfl) (by first | rfl | (simp [keylessL, keyless, keylessL_map, *]; done)) (by first | rfl | (simp [keylessL, keyless, keylessL_map, *]; done)) (by kernel_rfl) rfl ?_
  intro w0 ρ0 hE
  conv => whnf
  (repeat ((first | refine step_w1 rfl rfl ?_ | refine step_w2 rfl rfl ?_ | refine And.intro (by first | decide | omega | (simp only [tiB5, tiB23, tiB3, tiB2, tiB9, tiB41, tiB72, tiB29, tiB30, tiB39, tiB33, tiB4, tiB68, tiB70, dlen, List.length_replicate, List.length_set, List.length_map, List.length_zipWith, List.length_take, List.length_append, List.length_cons, List.length_nil]; omega)) ?_ | refine g_c (by assumption) ?_ | refine g_o (op_pickF rfl (ev_ok rfl) (ev_ok rfl)) ?_ | rw [bne_self_eq_false] | refine g_o (op_lenM rfl rfl rfl (ev_ok rfl) (tgt rfl) rfl) ?_ | refine g_o (op_loadA rfl (ev_ok rfl) (tgt rfl) rfl (Nat.succ_ne_zero _) rfl) ?_ | refine g_o (op_indexN (α := List Rat) (d := []) rfl (ev_ok rfl) (ev_ok rfl) (tgt rfl) rfl (tgt rfl) rfl (by omega)) ?_ | rw [t0] | rw [t1] | rw [t9] | rw [Int.toNat_natCast]); conv => whnf))
  refine SWx_freezeF 7 34 (fun _ h => h) rfl rfl (by simp) ?_
  refine SW_loopN hE (fun k => k) [0, 1, 4, 5, 7, 36, 37] [] (fun m fr hp => ∃ i, m = ls.length - i ∧ i ≤ ls.length ∧ fr = [(0, fvec c), (1, mvec 1 fvec ls), (4, .val (.slice none 0 0)), (5, .val (.int .i64 0)), (7, fvec (mixN c ls n i)), (36, .val (.int .i64 (ls.length : Nat))), (37, .val (.int .i64 (i : Nat)))] ∧ hp = []) ls.length ?_ ?_ ?_
  · kernel_rfl
  · exact ⟨0, rfl, Nat.zero_le _, rfl, rfl⟩
  rintro m _ _ ⟨i, rfl, hi, rfl, rfl⟩
  conv => whnf
  by_cases hlt : i < ls.length
  · have t1 := dlt hlt
    have t2 := winc (i := i) (by omega)
    have hm := getD_mem (d := []) hlt
    have hmc := hcb _ (getD_mem (d := 0) (show i < c.length by omega))
    have h3 := mixN_len (c := c) hl i hi
    have hi2 : i * (B + B) ≤ ls.length * (B + B) := Nat.mul_le_mul_right _ hi
    have k1 := v_Axpy (c.getD i 0) (ls.getD i []) (mixN c ls n i) (by rw [h3, hl _ hm]) (by rw [hl _ hm]; omega) (fun k hk => by
      rw [hl _ hm] at hk
      have h1 := mixN_fs hc hl hb hcb i hi k (by omega)
      have h2 := hb _ hm k (by omega)
      omega)
    (repeat ((first | refine step_w1 rfl rfl ?_ | refine step_i (by kernel_rfl) ?_ | refine g_c (by assumption) ?_ | refine g_o (op_indexN (α := Rat) (d := 0) rfl (ev_ok rfl) (ev_ok rfl) (tgt rfl) rfl (tgt rfl) rfl (by omega)) ?_ | refine g_o (op_loadA rfl (ev_ok rfl) (tgt rfl) rfl (Nat.succ_ne_zero _) rfl) ?_ | refine g_o (op_indexN (α := List Rat) (d := []) rfl (ev_ok rfl) (ev_ok rfl) (tgt rfl) rfl (tgt rfl) rfl (by omega)) ?_ | rw [t1] | rw [t2]); conv => whnf))
    exact ⟨ls.length - (i + 1), fun k => k, [0, 1, 4, 5, 7, 36, 37], [], by omega, by kernel_rfl, i + 1, rfl, hlt, rfl, rfl⟩
  · have t1 := dge hlt
    have hI : i = ls.length := by omega
    subst hI
    (repeat (first | (refine step_w2 rfl rfl ?_; conv => whnf) | (rw [t1]; conv => whnf))); (first | exact Recast.refl _ | exact Frz.recast (Recast.refl _) rfl | (refine Frz.one rfl rfl ?_; skip) | (refine Frz.tup ?_; skip))
end Go.Proofs.YtgodfkgocbppgaaGreatDoor

namespace Go.Proofs
open Go.Shelf
def Tryz.lays156_ren : Go.Shelf.Ren := ⟨fun | 156 => 88 | 165 => 122 | 166 => 123 | 169 => 124 | 240 => 146 | 241 => 147 | 276 => 161 | 277 => 162 | n => n, fun | 31 => 123 | 9 => 9 | 3 => 3 | 4 => 4 | 0 => 0 | 20 => 20 | 72 => 160 | 76 => 164 | 70 => 157 | 37 => 158 | 75 => 163 | 127 => 185 | 164 => 198 | 5 => 5 | 80 => 166 | n => n, fun | n => n⟩
theorem Tryz.lays156 : Go.Proofs.Lays.n156 Tryz.prog Tryz.lays156_ren := {
  mixed := by kernel_rfl
  f156 := Tryz.func88.trans (congrArg some (by kernel_rfl))
  f165 := Tryz.func122.trans (congrArg some (by kernel_rfl))
  f166 := Tryz.func123.trans (congrArg some (by kernel_rfl))
  f169 := Tryz.func124.trans (congrArg some (by kernel_rfl))
  f240 := Tryz.func146.trans (congrArg some (by kernel_rfl))
  f241 := Tryz.func147.trans (congrArg some (by kernel_rfl))
  f276 := Tryz.func161.trans (congrArg some (by kernel_rfl))
  f277 := Tryz.func162.trans (congrArg some (by kernel_rfl))
  t0 := Tryz.underlying0
  a0 := Tryz.isAgg0
  z0 := Tryz.sizeOf0
  v0 := Tryz.zeroValue0
  t3 := Tryz.underlying3
  a3 := Tryz.isAgg3
  z3 := Tryz.sizeOf3
  v3 := Tryz.zeroValue3
  t4 := Tryz.underlying4
  a4 := Tryz.isAgg4
  z4 := Tryz.sizeOf4
  v4 := Tryz.zeroValue4
  t9 := Tryz.underlying9
  a9 := Tryz.isAgg9
  z9 := Tryz.sizeOf9
  v9 := Tryz.zeroValue9
  t20 := Tryz.underlying20
  a20 := Tryz.isAgg20
  z20 := Tryz.sizeOf20
  v20 := Tryz.zeroValue20
  t31 := Tryz.underlying123
  a31 := Tryz.isAgg123
  z31 := Tryz.sizeOf123
  v31 := Tryz.zeroValue123
  t37 := Tryz.underlying158
  a37 := Tryz.isAgg158
  z37 := Tryz.sizeOf158
  v37 := Tryz.zeroValue158
  t70 := Tryz.underlying157
  a70 := Tryz.isAgg157
  z70 := Tryz.sizeOf157
  v70 := Tryz.zeroValue157
  t72 := Tryz.underlying160
  a72 := Tryz.isAgg160
  z72 := Tryz.sizeOf160
  v72 := Tryz.zeroValue160
  t75 := Tryz.underlying163
  a75 := Tryz.isAgg163
  z75 := Tryz.sizeOf163
  v75 := Tryz.zeroValue163
  t76 := Tryz.underlying164
  a76 := Tryz.isAgg164
  z76 := Tryz.sizeOf164
  v76 := Tryz.zeroValue164
  t127 := Tryz.underlying185
  a127 := Tryz.isAgg185
  z127 := Tryz.sizeOf185
  v127 := Tryz.zeroValue185
  t164 := Tryz.underlying198
  a164 := Tryz.isAgg198
  z164 := Tryz.sizeOf198
  v164 := Tryz.zeroValue198 }
theorem Tryz.Builder_Extra_156 : Builder.Extra Tryz.prog Tryz.lays156_ren := {
  sizeBuilder := by kernel_rfl
  liesBuilder := by kernel_rfl
  t5 := Tryz.underlying5
  a5 := Tryz.isAgg5
  z5 := Tryz.sizeOf5
  v5 := Tryz.zeroValue5
  infoByte := by kernel_rfl
  cellsByte := by kernel_rfl
  sizeByte := by kernel_rfl
  neB5 := by decide }
open Go.RowKit in
/-- No element: the empty string; the world is as it was. (Whatever the slice's address and capacity: a nil slice too.) (LAID: no walk: one application.) -/
theorem Tryz.strings_Join_none (a : Option Addr) (c : Nat) (sep : ByteArray) (w : World) :
    Calls Tryz.prog 88 #[.slice a 0 c, .string sep] w fun e w' => e = .returned (.string ⟨#[]⟩) ∧ w' = w := Any.strings_Join_none Tryz.lays156 Tryz.Builder_Extra_156 a c sep w
open Go.RowKit in
/-- strings.Join: "Join concatenates the elements of its first argument to create a single string. The separator string sep is placed between elements in the resulting string.": HOWEVER MANY ELEMENTS. Below the heap's end the world is as it was. (LAID: no walk: one application.) -/
theorem Tryz.strings_Join (bk o c : Nat) (xs : List ByteArray) (sep : ByteArray) (w : World) (hcells : ∀ (j : Nat) x, xs[j]? = some x → w.cell? ⟨bk, o + j, none⟩ = some (.string x)) (hbk : bk < w.heap.size) (hN : xs.length ≤ 140737488355328) (hcap : xs.length ≤ c) (hlen : (Lib.join (xs.map (·.data.toList)) sep.data.toList).length ≤ 140737488355328) :
    Calls Tryz.prog 88 #[.slice (some ⟨bk, o, none⟩) xs.length c, .string sep] w fun e w' => e = .returned (.string ⟨(Lib.join (xs.map (·.data.toList)) sep.data.toList).toArray⟩) ∧ Below w.heap.size w w' := Any.strings_Join Tryz.lays156 Tryz.Builder_Extra_156 bk o c xs sep w hcells hbk hN hcap hlen
def Tryz.lays283_ren : Go.Shelf.Ren := ⟨fun | 283 => 154 | n => n, fun | 3 => 3 | 9 => 9 | 4 => 4 | n => n, fun | n => n⟩
theorem Tryz.lays283 : Go.Proofs.Lays.n283 Tryz.prog Tryz.lays283_ren := {
  mixed := by kernel_rfl
  f283 := Tryz.func154.trans (congrArg some (by kernel_rfl))
  t3 := Tryz.underlying3
  a3 := Tryz.isAgg3
  z3 := Tryz.sizeOf3
  v3 := Tryz.zeroValue3
  t4 := Tryz.underlying4
  a4 := Tryz.isAgg4
  z4 := Tryz.sizeOf4
  v4 := Tryz.zeroValue4
  t9 := Tryz.underlying9
  a9 := Tryz.isAgg9
  z9 := Tryz.sizeOf9
  v9 := Tryz.zeroValue9 }
open Go.Lib in
/-- internal/strconv.small: "small returns the string for an i with 0 <= i < nSmalls.": i's decimal numeral. The world is as it was. (LAID: no walk: one application.) -/
theorem Tryz.internal_strconv_small (i : Nat) (h : i < 100) (w : World) :
    Calls Tryz.prog 154 #[.int .i64 i] w fun e w' => e = .returned (.string ⟨(Lib.decDigits i).toArray⟩) ∧ w' = w := Any.internal_strconv_small Tryz.lays283 i h w
def Tryz.laysM284_ren : Go.Shelf.Ren := ⟨fun | 284 => 155 | 129 => 166 | 317 => 165 | 318 => 167 | n => n, fun | 53 => 33 | 3 => 3 | 212 => 203 | 0 => 0 | 4 => 4 | 46 => 135 | 5 => 5 | 9 => 9 | n => n, fun | 17 => 1 | n => n⟩
theorem Tryz.laysM284 : Go.Proofs.LaysM.n284 Tryz.prog Tryz.laysM284_ren := {
  mixed := by kernel_rfl
  f129 := Tryz.func166.trans (congrArg some (by kernel_rfl))
  f284 := Tryz.func155.trans (congrArg some (by kernel_rfl))
  f317 := Tryz.func165.trans (congrArg some (by kernel_rfl))
  f318 := Tryz.func167.trans (congrArg some (by kernel_rfl))
  t0 := Tryz.underlying0
  a0 := Tryz.isAgg0
  z0 := Tryz.sizeOf0
  v0 := Tryz.zeroValue0
  t3 := Tryz.underlying3
  a3 := Tryz.isAgg3
  z3 := Tryz.sizeOf3
  v3 := Tryz.zeroValue3
  t4 := Tryz.underlying4
  a4 := Tryz.isAgg4
  z4 := Tryz.sizeOf4
  v4 := Tryz.zeroValue4
  t5 := Tryz.underlying5
  a5 := Tryz.isAgg5
  z5 := Tryz.sizeOf5
  v5 := Tryz.zeroValue5
  t9 := Tryz.underlying9
  a9 := Tryz.isAgg9
  z9 := Tryz.sizeOf9
  v9 := Tryz.zeroValue9
  t46 := Tryz.underlying135
  a46 := Tryz.isAgg135
  z46 := Tryz.sizeOf135
  v46 := Tryz.zeroValue135
  t53 := Tryz.underlying33
  a53 := Tryz.isAgg33
  z53 := Tryz.sizeOf33
  v53 := Tryz.zeroValue33
  t212 := Tryz.underlying203
  a212 := Tryz.isAgg203
  z212 := Tryz.sizeOf203
  v212 := Tryz.zeroValue203
  g17 := by kernel_rfl
  i0 := by kernel_rfl
  i3 := by kernel_rfl
  i4 := by kernel_rfl
  i5 := by kernel_rfl
  i9 := by kernel_rfl
  i46 := by kernel_rfl
  i53 := by kernel_rfl
  i212 := by kernel_rfl
  m17 := by kernel_rfl }
open Go.Lib in
/-- internal/strconv.numDigits, at a d that is not 0: THE NUMBER OF d's DECIMAL DIGITS. The world is as it was. (LAID: no walk: one application.) -/
theorem Tryz.internal_strconv_numDigits (u : Nat) (h1 : 1 ≤ u) (h2 : u < 18446744073709551616) (w : World) (htab : Lib.TabIs Tryz.prog w "internal/strconv.uint64pow10" .u64 Lib.pow10Tab) :
    Calls Tryz.prog 155 #[.int .u64 u] w fun e w' => e = .returned (.int .i64 (Lib.nDigits u)) ∧ w' = w := Any.internal_strconv_numDigits Tryz.laysM284 u h1 h2 w htab
def Tryz.lays285_ren : Go.Shelf.Ren := ⟨fun | 285 => 156 | n => n, fun | 37 => 158 | 53 => 33 | 3 => 3 | 4 => 4 | 51 => 23 | 9 => 9 | 5 => 5 | 0 => 0 | n => n, fun | n => n⟩
theorem Tryz.lays285 : Go.Proofs.Lays.n285 Tryz.prog Tryz.lays285_ren := {
  mixed := by kernel_rfl
  f285 := Tryz.func156.trans (congrArg some (by kernel_rfl))
  t0 := Tryz.underlying0
  a0 := Tryz.isAgg0
  z0 := Tryz.sizeOf0
  v0 := Tryz.zeroValue0
  t3 := Tryz.underlying3
  a3 := Tryz.isAgg3
  z3 := Tryz.sizeOf3
  v3 := Tryz.zeroValue3
  t4 := Tryz.underlying4
  a4 := Tryz.isAgg4
  z4 := Tryz.sizeOf4
  v4 := Tryz.zeroValue4
  t5 := Tryz.underlying5
  a5 := Tryz.isAgg5
  z5 := Tryz.sizeOf5
  v5 := Tryz.zeroValue5
  t9 := Tryz.underlying9
  a9 := Tryz.isAgg9
  z9 := Tryz.sizeOf9
  v9 := Tryz.zeroValue9
  t37 := Tryz.underlying158
  a37 := Tryz.isAgg158
  z37 := Tryz.sizeOf158
  v37 := Tryz.zeroValue158
  t51 := Tryz.underlying23
  a51 := Tryz.isAgg23
  z51 := Tryz.sizeOf23
  v51 := Tryz.zeroValue23
  t53 := Tryz.underlying33
  a53 := Tryz.isAgg33
  z53 := Tryz.sizeOf33
  v53 := Tryz.zeroValue33 }
open Go.RowKit Go.Sort Go.Lib in
/-- internal/strconv.formatBase10: "formatBase10 formats the decimal representation of u into a. The caller is responsible for ensuring that a is big enough to hold u. If a is too big, leading zeros will be filled in as needed.": THE ROW HOLDS u's DIGITS ('FmtInv .. 0 ..': every place t holds 'dg u (len - 1 - t)'); all else is as it was but for the count of draws. (LAID: no walk: one application.) -/
theorem Tryz.internal_strconv_formatBase10 (blk off cap : Nat) (u : Nat) (d : Array UInt8) (w : World) (hH : Holds (fun (b : UInt8) => Value.int .u8 (b.toNat : Int)) w blk off d) (hu : u < 10 ^ d.size) (hu64 : u < 18446744073709551616) (hsz : d.size < 4611686018427387904) :
    Calls Tryz.prog 156 #[.slice (some ⟨blk, off, none⟩) d.size cap, .int .u64 u] w fun e w' =>
      e = .returned (.tuple #[]) ∧ ∃ (n v' : Nat) (dk : Array UInt8), w' = (putRow (fun (b : UInt8) => Value.int .u8 (b.toNat : Int)) w blk off dk).drewN n ∧ FmtInv d.size u 0 v' dk := Any.internal_strconv_formatBase10 Tryz.lays285 blk off cap u d w hH hu hu64 hsz
def Tryz.laysM171_ren : Go.Shelf.Ren := ⟨fun | 171 => 114 | 243 => 141 | 246 => 158 | 283 => 154 | 284 => 155 | 285 => 156 | 286 => 157 | 129 => 166 | 317 => 165 | 318 => 167 | 319 => 168 | 320 => 169 | 337 => 170 | 338 => 171 | n => n, fun | 3 => 3 | 9 => 9 | 2 => 2 | 4 => 4 | 171 => 191 | 0 => 0 | 53 => 33 | 37 => 158 | 5 => 5 | 173 => 194 | 212 => 203 | 51 => 23 | 20 => 20 | 213 => 204 | 46 => 135 | 232 => 207 | 233 => 208 | n => n, fun | 17 => 1 | 18 => 3 | 19 => 4 | n => n⟩
theorem Tryz.laysM171 : Go.Proofs.LaysM.n171 Tryz.prog Tryz.laysM171_ren := {
  mixed := by kernel_rfl
  f129 := Tryz.func166.trans (congrArg some (by kernel_rfl))
  f171 := Tryz.func114.trans (congrArg some (by kernel_rfl))
  f243 := Tryz.func141.trans (congrArg some (by kernel_rfl))
  f246 := Tryz.func158.trans (congrArg some (by kernel_rfl))
  f283 := Tryz.func154.trans (congrArg some (by kernel_rfl))
  f284 := Tryz.func155.trans (congrArg some (by kernel_rfl))
  f285 := Tryz.func156.trans (congrArg some (by kernel_rfl))
  f286 := Tryz.func157.trans (congrArg some (by kernel_rfl))
  f317 := Tryz.func165.trans (congrArg some (by kernel_rfl))
  f318 := Tryz.func167.trans (congrArg some (by kernel_rfl))
  f319 := Tryz.func168.trans (congrArg some (by kernel_rfl))
  f320 := Tryz.func169.trans (congrArg some (by kernel_rfl))
  f337 := Tryz.func170.trans (congrArg some (by kernel_rfl))
  f338 := Tryz.func171.trans (congrArg some (by kernel_rfl))
  t0 := Tryz.underlying0
  a0 := Tryz.isAgg0
  z0 := Tryz.sizeOf0
  v0 := Tryz.zeroValue0
  t2 := Tryz.underlying2
  a2 := Tryz.isAgg2
  z2 := Tryz.sizeOf2
  v2 := Tryz.zeroValue2
  t3 := Tryz.underlying3
  a3 := Tryz.isAgg3
  z3 := Tryz.sizeOf3
  v3 := Tryz.zeroValue3
  t4 := Tryz.underlying4
  a4 := Tryz.isAgg4
  z4 := Tryz.sizeOf4
  v4 := Tryz.zeroValue4
  t5 := Tryz.underlying5
  a5 := Tryz.isAgg5
  z5 := Tryz.sizeOf5
  v5 := Tryz.zeroValue5
  t9 := Tryz.underlying9
  a9 := Tryz.isAgg9
  z9 := Tryz.sizeOf9
  v9 := Tryz.zeroValue9
  t20 := Tryz.underlying20
  a20 := Tryz.isAgg20
  z20 := Tryz.sizeOf20
  v20 := Tryz.zeroValue20
  t37 := Tryz.underlying158
  a37 := Tryz.isAgg158
  z37 := Tryz.sizeOf158
  v37 := Tryz.zeroValue158
  t46 := Tryz.underlying135
  a46 := Tryz.isAgg135
  z46 := Tryz.sizeOf135
  v46 := Tryz.zeroValue135
  t51 := Tryz.underlying23
  a51 := Tryz.isAgg23
  z51 := Tryz.sizeOf23
  v51 := Tryz.zeroValue23
  t53 := Tryz.underlying33
  a53 := Tryz.isAgg33
  z53 := Tryz.sizeOf33
  v53 := Tryz.zeroValue33
  t171 := Tryz.underlying191
  a171 := Tryz.isAgg191
  z171 := Tryz.sizeOf191
  v171 := Tryz.zeroValue191
  t173 := Tryz.underlying194
  a173 := Tryz.isAgg194
  z173 := Tryz.sizeOf194
  v173 := Tryz.zeroValue194
  t212 := Tryz.underlying203
  a212 := Tryz.isAgg203
  z212 := Tryz.sizeOf203
  v212 := Tryz.zeroValue203
  t213 := Tryz.underlying204
  a213 := Tryz.isAgg204
  z213 := Tryz.sizeOf204
  t232 := Tryz.underlying207
  a232 := Tryz.isAgg207
  z232 := Tryz.sizeOf207
  v232 := Tryz.zeroValue207
  t233 := Tryz.underlying208
  a233 := Tryz.isAgg208
  z233 := Tryz.sizeOf208
  v233 := Tryz.zeroValue208
  g17 := by kernel_rfl
  g18 := by kernel_rfl
  g19 := by kernel_rfl
  i0 := by kernel_rfl
  i2 := by kernel_rfl
  i3 := by kernel_rfl
  i4 := by kernel_rfl
  i5 := by kernel_rfl
  i9 := by kernel_rfl
  i20 := by kernel_rfl
  i37 := by kernel_rfl
  i46 := by kernel_rfl
  i51 := by kernel_rfl
  i53 := by kernel_rfl
  i171 := by kernel_rfl
  i173 := by kernel_rfl
  i212 := by kernel_rfl
  i232 := by kernel_rfl
  i233 := by kernel_rfl
  m17 := by kernel_rfl
  m18 := by kernel_rfl
  m19 := by kernel_rfl }
open Go.RowKit Go.Sort Go.Lib in
/-- strconv.Itoa: "Itoa is equivalent to FormatInt(int64(i), 10).": i's DECIMAL NUMERAL ('Lib.itoa': a '-' where i is negative, then the digits), FOR EVERY int. The world behind the call: the world before it, new blocks behind the heap (the library's 'var a [24]byte'), draws. (LAID: no walk: one application.) -/
theorem Tryz.strconv_Itoa (n : Int) (h0 : -9223372036854775808 ≤ n) (h1 : n ≤ 9223372036854775807) (w : World) (htab : Lib.TabIs Tryz.prog w "internal/strconv.uint64pow10" .u64 Lib.pow10Tab) :
    Calls Tryz.prog 114 #[.int .i64 n] w fun e w' => e = .returned (.string ⟨(Lib.itoa n).toArray⟩) ∧ ∃ k os, w' = grow (w.drewN k) os := Any.strconv_Itoa Tryz.laysM171 n h0 h1 w htab
def Tryz.lays105_ren : Go.Shelf.Ren := ⟨fun | 105 => 115 | 212 => 142 | 99 => 143 | 165 => 122 | 166 => 123 | 170 => 144 | 169 => 124 | 263 => 159 | 264 => 95 | 206 => 160 | 240 => 146 | 241 => 147 | 276 => 161 | 277 => 162 | n => n, fun | 9 => 9 | 3 => 3 | 4 => 4 | 20 => 20 | 0 => 0 | 46 => 135 | 109 => 180 | 5 => 5 | 72 => 160 | 76 => 164 | 51 => 23 | 146 => 170 | 53 => 33 | 148 => 132 | 70 => 157 | 37 => 158 | 75 => 163 | 127 => 185 | 164 => 198 | 80 => 166 | n => n, fun | n => n⟩
theorem Tryz.lays105 : Go.Proofs.Lays.n105 Tryz.prog Tryz.lays105_ren := {
  mixed := by kernel_rfl
  f99 := Tryz.func143.trans (congrArg some (by kernel_rfl))
  f105 := Tryz.func115.trans (congrArg some (by kernel_rfl))
  f165 := Tryz.func122.trans (congrArg some (by kernel_rfl))
  f166 := Tryz.func123.trans (congrArg some (by kernel_rfl))
  f169 := Tryz.func124.trans (congrArg some (by kernel_rfl))
  f170 := Tryz.func144.trans (congrArg some (by kernel_rfl))
  f206 := Tryz.func160.trans (congrArg some (by kernel_rfl))
  f212 := Tryz.func142.trans (congrArg some (by kernel_rfl))
  f240 := Tryz.func146.trans (congrArg some (by kernel_rfl))
  f241 := Tryz.func147.trans (congrArg some (by kernel_rfl))
  f263 := Tryz.func159.trans (congrArg some (by kernel_rfl))
  f264 := Tryz.func95.trans (congrArg some (by kernel_rfl))
  f276 := Tryz.func161.trans (congrArg some (by kernel_rfl))
  f277 := Tryz.func162.trans (congrArg some (by kernel_rfl))
  t0 := Tryz.underlying0
  a0 := Tryz.isAgg0
  z0 := Tryz.sizeOf0
  v0 := Tryz.zeroValue0
  t3 := Tryz.underlying3
  a3 := Tryz.isAgg3
  z3 := Tryz.sizeOf3
  v3 := Tryz.zeroValue3
  t4 := Tryz.underlying4
  a4 := Tryz.isAgg4
  z4 := Tryz.sizeOf4
  v4 := Tryz.zeroValue4
  t5 := Tryz.underlying5
  a5 := Tryz.isAgg5
  z5 := Tryz.sizeOf5
  v5 := Tryz.zeroValue5
  t9 := Tryz.underlying9
  a9 := Tryz.isAgg9
  z9 := Tryz.sizeOf9
  v9 := Tryz.zeroValue9
  t20 := Tryz.underlying20
  a20 := Tryz.isAgg20
  z20 := Tryz.sizeOf20
  v20 := Tryz.zeroValue20
  t37 := Tryz.underlying158
  a37 := Tryz.isAgg158
  z37 := Tryz.sizeOf158
  v37 := Tryz.zeroValue158
  t46 := Tryz.underlying135
  a46 := Tryz.isAgg135
  z46 := Tryz.sizeOf135
  v46 := Tryz.zeroValue135
  t51 := Tryz.underlying23
  a51 := Tryz.isAgg23
  z51 := Tryz.sizeOf23
  v51 := Tryz.zeroValue23
  t53 := Tryz.underlying33
  a53 := Tryz.isAgg33
  z53 := Tryz.sizeOf33
  v53 := Tryz.zeroValue33
  t70 := Tryz.underlying157
  a70 := Tryz.isAgg157
  z70 := Tryz.sizeOf157
  v70 := Tryz.zeroValue157
  t72 := Tryz.underlying160
  a72 := Tryz.isAgg160
  z72 := Tryz.sizeOf160
  v72 := Tryz.zeroValue160
  t75 := Tryz.underlying163
  a75 := Tryz.isAgg163
  z75 := Tryz.sizeOf163
  v75 := Tryz.zeroValue163
  t76 := Tryz.underlying164
  a76 := Tryz.isAgg164
  z76 := Tryz.sizeOf164
  v76 := Tryz.zeroValue164
  t109 := Tryz.underlying180
  a109 := Tryz.isAgg180
  z109 := Tryz.sizeOf180
  v109 := Tryz.zeroValue180
  t127 := Tryz.underlying185
  a127 := Tryz.isAgg185
  z127 := Tryz.sizeOf185
  v127 := Tryz.zeroValue185
  t146 := Tryz.underlying170
  a146 := Tryz.isAgg170
  z146 := Tryz.sizeOf170
  v146 := Tryz.zeroValue170
  t148 := Tryz.underlying132
  a148 := Tryz.isAgg132
  z148 := Tryz.sizeOf132
  v148 := Tryz.zeroValue132
  t164 := Tryz.underlying198
  a164 := Tryz.isAgg198
  z164 := Tryz.sizeOf198
  v164 := Tryz.zeroValue198 }
theorem Tryz.Builder_Extra_105 : Builder.Extra Tryz.prog Tryz.lays105_ren := {
  sizeBuilder := by kernel_rfl
  liesBuilder := by kernel_rfl
  t5 := Tryz.underlying5
  a5 := Tryz.isAgg5
  z5 := Tryz.sizeOf5
  v5 := Tryz.zeroValue5
  infoByte := by kernel_rfl
  cellsByte := by kernel_rfl
  sizeByte := by kernel_rfl
  neB5 := by decide }
open Go.RowKit Go.Lib in
/-- **strings.Repeat: count ≥ 0, the result within one allocation: count copies of s.** (LAID: no walk: one application.) -/
theorem Tryz.strings_Repeat (s : ByteArray) (c : Nat) (w : World) (hc : c ≤ 9223372036854775807) (hlen : s.size * c ≤ 140737488355328) :
    Calls Tryz.prog 115 #[.string s, .int .i64 c] w fun e w' => e = .returned (.string ⟨(Lib.repeatL s.data.toList c).toArray⟩) ∧ Below w.heap.size w w' := Any.strings_Repeat Tryz.lays105 Tryz.Builder_Extra_105 s c w hc hlen
end Go.Proofs

namespace Go.Proofs.YtgodfkgocbppgaaGreatDoor
open Go.Sx
set_option linter.unusedSimpArgs false
set_option linter.unusedVariables false
set_option maxRecDepth 100000
set_option maxHeartbeats 4000000

/-- The decimal text of a number. -/
def decF : Nat → Nat → List UInt8
  | 0, _ => []
  | f + 1, n => if n < 10 then [UInt8.ofNat (48 + n)] else decF f (n / 10) ++ [UInt8.ofNat (48 + n % 10)]
theorem decF_eq : ∀ f n, n < f → decF f n = Lib.decDigits n
  | 0, n, h => by omega
  | f + 1, n, h => by
    rw [decF, Lib.decDigits]
    by_cases h1 : n < 10
    · rw [if_pos h1, dif_pos h1]
    · rw [if_neg h1, dif_neg h1, decF_eq f (n / 10) (by omega)]
def tN (n : Nat) : ByteArray := ⟨(decF (n + 1) n).toArray⟩
theorem tN_eq (n : Nat) : tN n = ⟨(Lib.decDigits n).toArray⟩ := by rw [tN, decF_eq _ _ (Nat.lt_succ_self n)]
def tZ (z : Int) : ByteArray := if z < 0 then "-".toUTF8 ++ tN z.natAbs else tN z.natAbs
def tQ (q : Rat) : ByteArray := if q.den = 1 then tZ q.num else tZ q.num ++ "/".toUTF8 ++ tN q.den

theorem t_small (i : Nat) (h : i < 100) : CallOK Tryz.prog 154 [.val (.int .i64 (i : Nat))] [] (.val (.string (tN i))) [] [] :=
  call_vals' (vs := [.int .i64 (i : Nat)]) ⟨Tryz.f154, Tryz.func154, rfl, by kernel_rfl⟩ rfl (fun w => by rw [tN_eq]; exact Tryz.internal_strconv_small i h w)

theorem t_iFormat (n : Nat) (h : n < 100) : CallOK Tryz.prog 139 [.val (.int .u64 (n : Nat)), .val (.int .i64 10)] [] (.val (.string (tN n))) [] [] := by
  have k1 := t_small n h
  have t1 : decide ((n : Int) < 100) = true := decide_eq_true (by omega)
  have t2 : IntKind.i64.wrap (n : Int) = n := wrap_i64 (by omega) (by omega)
  refine callV (Z := []) tabOK mixedOK Tryz.func139 rfl (by kernel_rfl) rfl rfl (by kernel_rfl) rfl ?_
  intro W0 w0 ρ0 hE
  conv => whnf
  (repeat ((first | refine step_w1 rfl rfl ?_ | refine g_c (by assumption) ?_ | rw [beq_self_eq_true] | rw [t1] | rw [t2]); conv => whnf)); (first | exact Recast.refl _ | exact Frz.recast (Recast.refl _) rfl | (refine Frz.one rfl rfl ?_; skip) | (refine Frz.tup ?_; skip))
theorem t_Format (n : Nat) (h : n < 100) : CallOK Tryz.prog 111 [.val (.int .u64 (n : Nat)), .val (.int .i64 10)] [] (.val (.string (tN n))) [] [] := by
  have k1 := t_iFormat n h
  refine callV (Z := []) tabOK mixedOK Tryz.func111 rfl (by kernel_rfl) rfl rfl (by kernel_rfl) rfl ?_
  intro W0 w0 ρ0 hE
  conv => whnf
  (repeat (first | (refine g_c (by assumption) ?_; conv => whnf))); (first | exact Recast.refl _ | exact Frz.recast (Recast.refl _) rfl | (refine Frz.one rfl rfl ?_; skip) | (refine Frz.tup ?_; skip))
theorem t_Nat (n : Nat) (h : n < 100) : CallOK Tryz.prog 79 [.nat n] [] (.val (.string (tN n))) [] [] := by
  have k1 := t_Format n h
  have e1 : low n = (n : Int) := low_small (by omega)
  have e2 : ((big n).toList == (ByteArray.mk #[]).toList) = true := by rw [big_eq]; exact decide_eq_true (by omega)
  refine callV (Z := []) tabOK mixedOK Tryz.func79 rfl (by kernel_rfl) rfl rfl (by kernel_rfl) rfl ?_
  intro W0 w0 ρ0 hE
  conv => whnf
  (repeat ((first | refine step_w1 rfl rfl ?_ | refine g_c (by assumption) ?_ | rw [e2] | rw [e1]); conv => whnf)); (first | exact Recast.refl _ | exact Frz.recast (Recast.refl _) rfl | (refine Frz.one rfl rfl ?_; skip) | (refine Frz.tup ?_; skip))

theorem tN_size : ∀ n, n < 100 → (tN n).size ≤ 2 := by
  intro n h
  rw [tN_eq]
  show (Lib.decDigits n).toArray.size ≤ 2
  by_cases h1 : n < 10
  · rw [Lib.decDigits_one h1]; simp
  · rw [Lib.decDigits_two h1 h]; simp
theorem t_Int (z : Int) (h : z.natAbs < 100) : CallOK Tryz.prog 78 [.int z] [] (.val (.string (tZ z))) [] [] := by
  have k1 := t_Nat z.natAbs h
  have hs := tN_size _ h
  have h1 : (ByteArray.mk #[45]).size = 1 := rfl
  have h2 : (ByteArray.mk #[45]).size + (tN z.natAbs).size ≤ 9223372036854775807 := by omega
  unfold tZ
  refine callV (Z := []) tabOK mixedOK Tryz.func78 rfl (by kernel_rfl) rfl rfl (by kernel_rfl) rfl ?_
  intro W0 w0 ρ0 hE
  conv => whnf
  by_cases hz : z < 0
  · have t1 : decide (z < 0) = true := decide_eq_true hz
    rw [if_pos hz]
    (repeat ((first | refine step_w1 rfl rfl ?_ | refine And.intro (by first | decide | omega | (simp only [tiB5, tiB23, tiB3, tiB2, tiB9, tiB41, tiB72, tiB29, tiB30, tiB39, tiB33, tiB4, tiB68, tiB70, dlen, List.length_replicate, List.length_set, List.length_map, List.length_zipWith, List.length_take, List.length_append, List.length_cons, List.length_nil]; omega)) ?_ | refine g_c (by assumption) ?_ | rw [t1]); conv => whnf)); (first | exact Recast.refl _ | exact Frz.recast (Recast.refl _) rfl | (refine Frz.one rfl rfl ?_; skip) | (refine Frz.tup ?_; skip))
  · have t1 : decide (z < 0) = false := decide_eq_false hz
    rw [if_neg hz]
    (repeat (first | (refine step_w2 rfl rfl ?_; conv => whnf) | (refine g_c (by assumption) ?_; conv => whnf) | (rw [t1]; conv => whnf))); (first | exact Recast.refl _ | exact Frz.recast (Recast.refl _) rfl | (refine Frz.one rfl rfl ?_; skip) | (refine Frz.tup ?_; skip))
theorem tZ_size {z : Int} (h : z.natAbs < 100) : (tZ z).size ≤ 3 := by
  have hs := tN_size _ h
  unfold tZ
  split
  · rw [ByteArray.size_append]; have : ("-".toUTF8).size = 1 := rfl; omega
  · omega
theorem t_Frac (q : Rat) (h : q.num.natAbs < 100) (h' : q.den < 100) : CallOK Tryz.prog 44 [.frac q] [] (.val (.string (tQ q))) [] [] := by
  have kw := c_Whole q
  have k1 := t_Int q.num h
  have k2 := t_Nat q.den h'
  have k3 := c_den natBig q (Nat.le_trans (sz_le.2 (show q.den < 2 ^ 64 by omega)) (by decide))
  have hs := tZ_size h
  have hs2 := tN_size _ h'
  have h1 : (ByteArray.mk #[47]).size = 1 := rfl
  have h2 : (tZ q.num).size + (ByteArray.mk #[47]).size ≤ 9223372036854775807 := by omega
  have h3 : (tZ q.num ++ (ByteArray.mk #[47])).size + (tN q.den).size ≤ 9223372036854775807 := by rw [ByteArray.size_append]; omega
  unfold tQ
  refine callV (Z := []) tabOK mixedOK Tryz.func44 rfl (by kernel_rfl) rfl rfl (by kernel_rfl) rfl ?_
  intro W0 w0 ρ0 hE
  conv => whnf
  by_cases hd : q.den = 1
  · rw [decide_eq_true hd] at kw
    rw [if_pos hd]
    (repeat (first | (refine step_w1 rfl rfl ?_; conv => whnf) | (refine g_c (by assumption) ?_; conv => whnf))); (first | exact Recast.refl _ | exact Frz.recast (Recast.refl _) rfl | (refine Frz.one rfl rfl ?_; skip) | (refine Frz.tup ?_; skip))
  · rw [decide_eq_false hd] at kw
    rw [if_neg hd]
    (repeat ((first | refine step_w2 rfl rfl ?_ | refine step_i (by kernel_rfl) ?_ | refine And.intro (by first | decide | omega | (simp only [tiB5, tiB23, tiB3, tiB2, tiB9, tiB41, tiB72, tiB29, tiB30, tiB39, tiB33, tiB4, tiB68, tiB70, dlen, List.length_replicate, List.length_set, List.length_map, List.length_zipWith, List.length_take, List.length_append, List.length_cons, List.length_nil]; omega)) ?_ | refine g_c (by assumption) ?_); conv => whnf)); (first | exact Recast.refl _ | exact Frz.recast (Recast.refl _) rfl | (refine Frz.one rfl rfl ?_; skip) | (refine Frz.tup ?_; skip))

/-- The text of a vector. -/
def tV (a : List Rat) : ByteArray := "[".toUTF8 ++ ⟨(Lib.join ((a.map tQ).map (·.data.toList)) [32]).toArray⟩ ++ "]".toUTF8

theorem t_Join (ss : List ByteArray) (hN : ss.length ≤ 1099511627776) (hlen : (Lib.join (ss.map (·.data.toList)) [32]).length ≤ 140737488355328) :
    CallOK Tryz.prog 88 [mvec 1 sel ss, .val (.string ⟨#[32]⟩)] [] (.val (.string ⟨(Lib.join (ss.map (·.data.toList)) [32]).toArray⟩)) [] [] := by
  refine call_strs ⟨Tryz.f88, Tryz.func88, rfl, by kernel_rfl⟩ rfl ?_ ?_
  · rintro rfl a w
    exact Tryz.strings_Join_none a 0 ⟨#[32]⟩ w
  · intro bk o c w hc hb hcap
    exact Tryz.strings_Join bk o c ss ⟨#[32]⟩ w hc hb (by omega) hcap hlen

theorem t_Vec (a : List Rat) (hl : a.length ≤ 2048) (h : ∀ i, i < a.length → (a.getD i 0).num.natAbs < 100 ∧ (a.getD i 0).den < 100) (hJ : (Lib.join ((a.map tQ).map (·.data.toList)) [32]).length ≤ 140737488355328) : CallOK Tryz.prog 52 [fvec a] [] (.val (.string (tV a))) [] [] := by
  have hz : ((a.map tQ).map sel).length = a.length := by simp
  have hget : ∀ i, i < a.length → ((a.map tQ).map sel).getD i .any = .val (.string (tQ (a.getD i 0))) := fun i hi => by rw [map_get (d := ByteArray.empty) (by simpa using hi), map_get (d := 0) hi]; rfl
  have kj := t_Join (a.map tQ) (by simp; omega) hJ
  refine callF (Z := []) tabOK mixedOK Tryz.func52 rfl (by kernel_rfl) (by first | rfl | (simp [keylessL, keyless, keylessL_map, *]; done)) (by first | rfl | (simp [keylessL, keyless, keylessL_map, *]; done)) (by kernel_rfl) rfl ?_
  intro w0 ρ0 hE
  conv => whnf
  (repeat (first | (refine And.intro (by first | decide | omega | (simp only [tiB5, tiB23, tiB3, tiB2, tiB9, tiB41, tiB72, tiB29, tiB30, tiB39, tiB33, tiB4, tiB68, tiB70, dlen, List.length_replicate, List.length_set, List.length_map, List.length_zipWith, List.length_take, List.length_append, List.length_cons, List.length_nil]; omega)) ?_; conv => whnf) | (refine g_o (op_lenM rfl rfl rfl (ev_ok rfl) (tgt rfl) rfl) ?_; conv => whnf) | (rw [Int.toNat_natCast]; conv => whnf)))
  refine SW_loopS hE (fun k => k) [0, 2, 3, 9, 10, 11] [8] (fun m fr hp => ∃ i, m = a.length - i ∧ i ≤ a.length ∧ fr = [(0, fvec a), (2, .val (.string ⟨#[]⟩)), (3, .slc 8 1 0 a.length), (9, fvec a), (10, .val (.int .i64 (a.length : Nat))), (11, .val (.int .i64 (i : Nat)))] ∧
    hp = [(8, ⟨9, true, .seq 1 (((a.map tQ).map sel).take i ++ List.replicate (a.length - i) (.val (.string .empty)))⟩)]) a.length ?_ ?_ ?_
  · kernel_rfl
  · exact ⟨0, rfl, Nat.zero_le _, rfl, rfl⟩
  rintro m _ _ ⟨i, rfl, hi, rfl, rfl⟩
  have hlen := fill_len (d := SV.val (.string .empty)) hi hz
  by_cases hlt : i < a.length
  · have t1 := dlt hlt
    have t2 := winc (i := i) (by omega)
    obtain ⟨b1, b2⟩ := h i hlt
    have k1 := t_Frac (a.getD i 0) b1 b2
    refine SWx.of hE ?_
    conv => whnf
    have e3 := fill_get (d := SV.val (.string .empty)) (e := SV.any) hlt hz
    (repeat ((first | refine step_w1 rfl rfl ?_ | refine And.intro (by first | decide | omega | (simp only [tiB5, tiB23, tiB3, tiB2, tiB9, tiB41, tiB72, tiB29, tiB30, tiB39, tiB33, tiB4, tiB68, tiB70, dlen, List.length_replicate, List.length_set, List.length_map, List.length_zipWith, List.length_take, List.length_append, List.length_cons, List.length_nil]; omega)) ?_ | refine g_c (by assumption) ?_ | refine g_o (op_indexN (α := Rat) (d := 0) rfl (ev_ok rfl) (ev_ok rfl) (tgt rfl) rfl (tgt rfl) rfl (by omega)) ?_ | refine g_o (op_loadA rfl (ev_ok rfl) (tgt rfl) rfl (Nat.succ_ne_zero _) rfl) ?_ | rw [t1] | rw [e3] | rw [t2] | rw [Int.toNat_natCast] | rw [Nat.zero_add]); conv => whnf))
    refine ⟨a.length - (i + 1), fun k => k, [0, 2, 3, 9, 10, 11], [8], by omega, by kernel_rfl, i + 1, rfl, hlt, rfl, ?_⟩
    rw [← fill_set (e := .any) hlt hz, hget i hlt]
    rfl
  · have t1 := dge hlt
    have hI : i = a.length := by omega
    subst hI
    rw [fill_all hz]
    refine SWx_freezeM 3 8 (fun _ h => h) (fun _ => rfl) rfl rfl (by simp) ?_
    refine SWx.of hE ?_
    conv => whnf
    have h91 : (ByteArray.mk #[91]).size = 1 := rfl
    have h93 : (ByteArray.mk #[93]).size = 1 := rfl
    have hjs : (ByteArray.mk (Lib.join ((a.map tQ).map (·.data.toList)) [32]).toArray).size = (Lib.join ((a.map tQ).map (·.data.toList)) [32]).length := by show (Lib.join ((a.map tQ).map (·.data.toList)) [32]).toArray.size = _; simp
    have o1 : (ByteArray.mk #[91]).size + (ByteArray.mk (Lib.join ((a.map tQ).map (·.data.toList)) [32]).toArray).size ≤ 9223372036854775807 := by omega
    have o2 : (ByteArray.mk #[91] ++ ByteArray.mk (Lib.join ((a.map tQ).map (·.data.toList)) [32]).toArray).size + (ByteArray.mk #[93]).size ≤ 9223372036854775807 := by rw [ByteArray.size_append]; omega
    (repeat ((first | refine step_w2 rfl rfl ?_ | refine And.intro (by first | decide | omega | (simp only [tiB5, tiB23, tiB3, tiB2, tiB9, tiB41, tiB72, tiB29, tiB30, tiB39, tiB33, tiB4, tiB68, tiB70, dlen, List.length_replicate, List.length_set, List.length_map, List.length_zipWith, List.length_take, List.length_append, List.length_cons, List.length_nil]; omega)) ?_ | refine g_c (by assumption) ?_ | rw [t1]); conv => whnf)); (first | exact Recast.refl _ | exact Frz.recast (Recast.refl _) rfl | (refine Frz.one rfl rfl ?_; skip) | (refine Frz.tup ?_; skip))
end Go.Proofs.YtgodfkgocbppgaaGreatDoor

namespace Go.Proofs.YtgodfkgocbppgaaGreatDoor
open Go.Sx
set_option linter.unusedSimpArgs false
set_option linter.unusedVariables false
set_option maxRecDepth 100000
set_option maxHeartbeats 4000000

/-- A fraction as plain data, its value. -/
abbrev qA : Int × Int → SV := ag2 (iel .i64) (iel .u32)
def qV (q : Int × Int) : Rat := (q.1 : Rat) / ((if q.2 < 1 then 1 else q.2 : Int) : Rat)
/-- Its bounds. -/
def qOK (q : Int × Int) : Prop := (-9223372036854775808 ≤ q.1 ∧ q.1 < 9223372036854775808) ∧ (0 ≤ q.2 ∧ q.2 < 4294967296)

theorem fs_qV {q : Int × Int} (h : qOK q) : fs (qV q) ≤ 130 := by
  have h1 := fs_div (q.1 : Rat) ((if q.2 < 1 then 1 else q.2 : Int) : Rat)
  have h2 := fs_int h.1.1 h.1.2
  have h3 : fs ((if q.2 < 1 then 1 else q.2 : Int) : Rat) ≤ 65 := fs_int (by have := h.2; split <;> omega) (by have := h.2; split <;> omega)
  unfold qV
  omega

theorem c_QOf (q : Int × Int) (h : qOK q) : CallOK Tryz.prog 16 [qA q] [] (.frac (qV q)) [] [] := by
  have hd : (if q.2 < 1 then 1 else q.2) ≠ 0 := by have := h.2; split <;> omega
  have e1 : (if (1 : Int) > q.2 then 1 else q.2) = (if q.2 < 1 then 1 else q.2) := rfl
  have e2 : IntKind.i64.wrap (if (1 : Int) > q.2 then 1 else q.2) = (if q.2 < 1 then 1 else q.2) := wrap_i64 (by have := h.2; split <;> omega) (by have := h.2; split <;> omega)
  have g2 := fs_int h.1.1 h.1.2
  have g3 : fs ((if q.2 < 1 then 1 else q.2 : Int) : Rat) ≤ 65 := fs_int (by have := h.2; split <;> omega) (by have := h.2; split <;> omega)
  have k1 := c_fOf natBig q.1 (if q.2 < 1 then 1 else q.2) (by unfold fs at g2 g3; omega) h.1.1 h.1.2 (by have := h.2; split <;> omega) (by have := h.2; split <;> omega) hd
  refine callV (Z := []) tabOK mixedOK Tryz.func16 rfl (by kernel_rfl) rfl rfl (by kernel_rfl) rfl ?_
  intro W0 w0 ρ0 hE
  conv => whnf
  (repeat (first | (refine g_c (by assumption) ?_; conv => whnf) | (rw [e2]; conv => whnf))); (first | exact Recast.refl _ | exact Frz.recast (Recast.refl _) rfl | (refine Frz.one rfl rfl ?_; skip) | (refine Frz.tup ?_; skip))

theorem app_snoc {α : Type} {l : List α} {i : Nat} {d : α} (h : i < l.length) : (l.take i).take i ++ (([l.getD i d] : List α).drop 0).take 1 = l.take (i + 1) := by
  have e : l.take (i + 1) = l.take i ++ [l.getD i d] := by rw [List.take_add_one, List.getD_eq_getElem?_getD, List.getElem?_eq_getElem h]; rfl
  rw [List.take_take, Nat.min_self, e]; rfl

theorem c_V (l : List (Int × Int)) (hl : l.length < 1048576) (h : ∀ q ∈ l, qOK q) : CallOK Tryz.prog 14 [mvec 2 qA l] [] (fvec (l.map qV)) [] [] := by
  have hz : (l.map qV).length = l.length := by simp
  refine callF (Z := []) tabOK mixedOK Tryz.func14 rfl (by kernel_rfl) (by first | rfl | (simp [keylessL, keyless, keylessL_map, *]; done)) (by first | rfl | (simp [keylessL, keyless, keylessL_map, *]; done)) (by kernel_rfl) rfl ?_
  intro w0 ρ0 hE
  conv => whnf
  skip
  refine SWx_adopt (t := 3) (k := 2001) (s := 5) (blk := ⟨41, true, .fracs []⟩) rfl rfl rfl ?_
  refine SW_loopN hE (fun k => k) [0, 2, 3, 4] [2001] (fun m fr hp => ∃ i, m = l.length - i ∧ i ≤ l.length ∧ fr = [(0, mvec 2 qA l), (2, .val (.slice none 0 0)), (3, .slc 2001 5 0 i), (4, .val (.int .i64 (i : Nat)))] ∧ hp = [(2001, ⟨41, true, .fracs ((l.map qV).take i)⟩)]) l.length ?_ ?_ ?_
  · kernel_rfl
  · exact ⟨0, rfl, Nat.zero_le _, rfl, rfl⟩
  rintro m _ _ ⟨i, rfl, hi, rfl, rfl⟩
  have hlen : ((l.map qV).take i).length = i := by simp; omega
  conv => whnf
  by_cases hlt : i < l.length
  · have t1 := dlt hlt
    have t2 := winc (i := i) (by omega)
    have k1 := c_QOf (l.getD i (0, 0)) (h _ (getD_mem hlt))
    rw [← map_get (f := qV) (e := 0) hlt] at k1
    (repeat ((first | refine step_w1 rfl rfl ?_ | refine And.intro (by first | decide | omega | (simp only [tiB5, tiB23, tiB3, tiB2, tiB9, tiB41, tiB72, tiB29, tiB30, tiB39, tiB33, tiB4, tiB68, tiB70, dlen, List.length_replicate, List.length_set, List.length_map, List.length_zipWith, List.length_take, List.length_append, List.length_cons, List.length_nil]; omega)) ?_ | refine g_c (by assumption) ?_ | refine g_o (op_lenM rfl rfl rfl (ev_ok rfl) (tgt rfl) rfl) ?_ | refine g_o (op_loadA rfl (ev_ok rfl) (tgt rfl) rfl (Nat.succ_ne_zero _) rfl) ?_ | refine g_o (op_indexN (α := Int × Int) (d := (0, 0)) rfl (ev_ok rfl) (ev_ok rfl) (tgt rfl) rfl (tgt rfl) rfl (by omega)) ?_ | rw [t1] | rw [t2]); conv => whnf))
    refine ⟨l.length - (i + 1), renBy [(18, 2001)], [0, 2, 3, 4], [18], by omega, by kernel_rfl, i + 1, rfl, hlt, rfl, ?_⟩
    rw [← app_snoc (d := 0) (show i < (l.map qV).length by rw [hz]; exact hlt)]
    rfl
  · have t1 := dge hlt
    have hI : i = l.length := by omega
    subst hI
    rw [List.take_of_length_le (by simp)]
    (repeat (first | (refine step_w2 rfl rfl ?_; conv => whnf) | (refine g_o (op_lenM rfl rfl rfl (ev_ok rfl) (tgt rfl) rfl) ?_; conv => whnf) | (rw [t1]; conv => whnf))); (first | exact Recast.refl _ | exact Frz.recast (Recast.refl _) rfl | (refine Frz.one rfl rfl ?_; (repeat (first | (refine FrzC.fracs rfl ?_; (first | rfl | omega | (simp <;> fail) | (simp <;> omega)))))) | (refine Frz.tup ?_; skip))
end Go.Proofs.YtgodfkgocbppgaaGreatDoor

namespace Go.Proofs.YtgodfkgocbppgaaGreatDoor
open Go.Sx
set_option linter.unusedSimpArgs false
set_option linter.unusedVariables false
set_option maxRecDepth 100000
set_option maxHeartbeats 4000000

/-- A reference integer, a reference fraction. -/
abbrev zZ (z : Int) : SV := .agg [.val (.bool (decide (z < 0))), nN z.natAbs]
abbrev fF (q : Rat) : SV := .agg [zZ q.num, nN (q.den - 1)]

theorem tl_sz {n M : Nat} (h : sz n ≤ M) : (td n).length ≤ M := tlen_le (Nat.lt_of_lt_of_le (sz_le.1 h) (Nat.pow_le_pow_left (by decide) M))

theorem r2_From (neg : Bool) (n : Nat) (hn : (td n).length < 1099511627776) : CallOK Tryz.prog 132 [.val (.bool neg), nN n] [] (zZ (signed neg n)) [] [] := by
  refine callV (Z := []) tabOK mixedOK Tryz.func132 rfl (by kernel_rfl) rfl rfl (by kernel_rfl) rfl ?_
  intro W0 w0 ρ0 hE
  conv => whnf
  cases neg with
  | false =>
    have e : zZ (signed false n) = .agg [.val (.bool false), nN n] := by
      have h : ¬ (signed false n < 0) := by show ¬ ((n : Int) < 0); omega
      rw [zZ, decide_eq_false h, signed_abs]
    rw [e]
    (repeat (first | (refine step_w2 rfl rfl ?_; conv => whnf) | (refine g_o (op_pickF rfl (ev_ok rfl) (ev_ok rfl)) ?_; conv => whnf)))
    exact Recast.refl _
  | true =>
    by_cases h0 : 0 < n
    · have t1 : decide (((td n).length : Int) > 0) = true := decide_eq_true (by have := td_len_zero (n := n); omega)
      have e : zZ (signed true n) = .agg [.val (.bool true), nN n] := by
        have h : signed true n < 0 := by show -(n : Int) < 0; omega
        rw [zZ, decide_eq_true h, signed_abs]
      rw [e]
      (repeat ((first | refine step_w1 rfl rfl ?_ | refine g_o (op_pickT rfl (ev_ok rfl) (ev_ok rfl)) ?_ | refine g_o (op_lenM rfl rfl rfl (ev_ok rfl) (tgt rfl) rfl) ?_ | rw [t1]); conv => whnf))
      exact Recast.refl _
    · obtain rfl : n = 0 := by omega
      have t1 : decide (((td 0).length : Int) > 0) = false := rfl
      have e : zZ (signed true 0) = .agg [.val (.bool false), nN 0] := rfl
      rw [e]
      (repeat ((first | refine step_w1 rfl rfl ?_ | refine g_o (op_pickT rfl (ev_ok rfl) (ev_ok rfl)) ?_ | refine g_o (op_lenM rfl rfl rfl (ev_ok rfl) (tgt rfl) rfl) ?_ | rw [t1]); conv => whnf))
      exact Recast.refl _
/-- From, where the sign and the size are known. -/
theorem r2_From' {neg : Bool} {n : Nat} {z : Int} (hz : signed neg n = z) (hn : (td n).length < 1099511627776) : CallOK Tryz.prog 132 [.val (.bool neg), nN n] [] (zZ z) [] [] := by
  rw [← hz]; exact r2_From neg n hn

theorem r2_Sign (z : Int) (hz : (td z.natAbs).length < 1099511627776) : CallOK Tryz.prog 120 [zZ z] [] (.val (.int .i64 z.sign)) [] [] := by
  refine callV (Z := [1]) tabOK mixedOK Tryz.func120 rfl (by kernel_rfl) rfl rfl (by kernel_rfl) rfl ?_
  intro W0 w0 ρ0 hE
  conv => whnf
  by_cases h0 : z = 0
  · subst h0
    have t1 : (((td (Int.natAbs 0)).length : Int) == 0) = true := rfl
    (repeat ((first | refine step_w1 rfl rfl ?_ | refine g_o (op_lenM rfl rfl rfl (ev_ok rfl) (tgt rfl) rfl) ?_ | refine g_o (op_loadA rfl (ev_ok rfl) (tgt rfl) rfl (Nat.succ_ne_zero _) rfl) ?_ | refine g_o (op_fieldA rfl (ev_ok rfl) (tgt rfl) rfl rfl (Nat.succ_ne_zero _) rfl) ?_); conv => whnf)); (first | exact Recast.refl _ | exact Frz.recast (Recast.refl _) rfl | (refine Frz.one rfl rfl ?_; skip) | (refine Frz.tup ?_; skip))
  · have t1 : (((td z.natAbs).length : Int) == 0) = false := beq_false_of_ne (by have := td_len_zero (n := z.natAbs); omega)
    by_cases hn : z < 0
    · have t2 : decide (z < 0) = true := decide_eq_true hn
      rw [Int.sign_eq_neg_one_of_neg hn]
      (repeat ((first | refine step_w1 rfl rfl ?_ | refine step_w2 rfl rfl ?_ | refine g_o (op_lenM rfl rfl rfl (ev_ok rfl) (tgt rfl) rfl) ?_ | refine g_o (op_loadA rfl (ev_ok rfl) (tgt rfl) rfl (Nat.succ_ne_zero _) rfl) ?_ | refine g_o (op_fieldA rfl (ev_ok rfl) (tgt rfl) rfl rfl (Nat.succ_ne_zero _) rfl) ?_ | rw [t1] | rw [t2]); conv => whnf)); (first | exact Recast.refl _ | exact Frz.recast (Recast.refl _) rfl | (refine Frz.one rfl rfl ?_; skip) | (refine Frz.tup ?_; skip))
    · have t2 : decide (z < 0) = false := decide_eq_false hn
      rw [Int.sign_eq_one_of_pos (by omega)]
      (repeat ((first | refine step_w2 rfl rfl ?_ | refine g_o (op_lenM rfl rfl rfl (ev_ok rfl) (tgt rfl) rfl) ?_ | refine g_o (op_loadA rfl (ev_ok rfl) (tgt rfl) rfl (Nat.succ_ne_zero _) rfl) ?_ | refine g_o (op_fieldA rfl (ev_ok rfl) (tgt rfl) rfl rfl (Nat.succ_ne_zero _) rfl) ?_ | rw [t1] | rw [t2]); conv => whnf)); (first | exact Recast.refl _ | exact Frz.recast (Recast.refl _) rfl | (refine Frz.one rfl rfl ?_; skip) | (refine Frz.tup ?_; skip))

theorem r2_Neg (z : Int) (hz : (td z.natAbs).length < 1099511627776) : CallOK Tryz.prog 121 [zZ z] [] (zZ (-z)) [] [] := by
  have k1 := r2_From' (neg := !decide (z < 0)) (n := z.natAbs) (z := -z) (by by_cases h : z < 0 <;> simp [signed, h] <;> omega) hz
  refine callV (Z := [1]) tabOK mixedOK Tryz.func121 rfl (by kernel_rfl) rfl rfl (by kernel_rfl) rfl ?_
  intro W0 w0 ρ0 hE
  conv => whnf
  (repeat (first | (refine g_c (by assumption) ?_; conv => whnf) | (refine g_o (op_loadA rfl (ev_ok rfl) (tgt rfl) rfl (Nat.succ_ne_zero _) rfl) ?_; conv => whnf) | (refine g_o (op_fieldA rfl (ev_ok rfl) (tgt rfl) rfl rfl (Nat.succ_ne_zero _) rfl) ?_; conv => whnf)))
  exact Recast.refl _

theorem r2_Add (a b : Int) (ha : (td a.natAbs).length < 536870912) (hb : (td b.natAbs).length < 536870912) : CallOK Tryz.prog 105 [zZ a, zZ b] [] (zZ (a + b)) [] [] := by
  refine callV (Z := [2, 3]) tabOK mixedOK Tryz.func105 rfl (by kernel_rfl) rfl rfl (by kernel_rfl) rfl ?_
  intro W0 w0 ρ0 hE
  conv => whnf
  by_cases hs : a < 0 ↔ b < 0
  · have t1 : (decide (a < 0) == decide (b < 0)) = true := by rw [decide_eq_decide.2 hs]; exact beq_self_eq_true _
    have k1 := r_Add a.natAbs b.natAbs (by omega) (by omega)
    have hl : (td (a.natAbs + b.natAbs)).length < 1099511627776 := by
      have h1 : (td (a.natAbs + b.natAbs)).length ≤ max ((td a.natAbs).length) ((td b.natAbs).length) + 1 := tlen_le (by
        have h2 := td_lt_pow (n := a.natAbs) (k := max ((td a.natAbs).length) ((td b.natAbs).length)) (Nat.le_max_left _ _)
        have h3 := td_lt_pow (n := b.natAbs) (k := max ((td a.natAbs).length) ((td b.natAbs).length)) (Nat.le_max_right _ _)
        rw [Nat.pow_succ]; omega)
      omega
    have k2 := r2_From' (neg := decide (a < 0)) (n := a.natAbs + b.natAbs) (z := a + b) (by unfold signed; by_cases h : a < 0 <;> simp [h] <;> omega) hl
    (repeat ((first | refine step_w1 rfl rfl ?_ | refine step_i (by kernel_rfl) ?_ | refine g_c (by assumption) ?_ | refine g_o (op_loadA rfl (ev_ok rfl) (tgt rfl) rfl (Nat.succ_ne_zero _) rfl) ?_ | refine g_o (op_fieldA rfl (ev_ok rfl) (tgt rfl) rfl rfl (Nat.succ_ne_zero _) rfl) ?_ | rw [t1]); conv => whnf))
    exact Recast.refl _
  · have t1 : (decide (a < 0) == decide (b < 0)) = false := beq_false_of_ne (fun h => hs (decide_eq_decide.1 h))
    have k1 := r_Cmp a.natAbs b.natAbs (by omega) (by omega)
    by_cases hab : b.natAbs ≤ a.natAbs
    · have t2 : decide (((a.natAbs : Int) - b.natAbs).sign ≥ 0) = true := decide_eq_true (by have := Int.sign_nonneg_iff.2 (show 0 ≤ (a.natAbs : Int) - b.natAbs by omega); omega)
      have k2 := r_Sub a.natAbs b.natAbs hab (by omega)
      have k3 := r2_From' (neg := decide (a < 0)) (n := a.natAbs - b.natAbs) (z := a + b) (by unfold signed; by_cases h : a < 0 <;> simp [h] <;> omega) (td_lt_len (Nat.sub_le _ b.natAbs) (by omega))
      (repeat ((first | refine step_w1 rfl rfl ?_ | refine step_w2 rfl rfl ?_ | refine step_i (by kernel_rfl) ?_ | refine g_c (by assumption) ?_ | refine g_o (op_loadA rfl (ev_ok rfl) (tgt rfl) rfl (Nat.succ_ne_zero _) rfl) ?_ | refine g_o (op_fieldA rfl (ev_ok rfl) (tgt rfl) rfl rfl (Nat.succ_ne_zero _) rfl) ?_ | rw [t1] | rw [t2]); conv => whnf))
      exact Recast.refl _
    · have t2 : decide (((a.natAbs : Int) - b.natAbs).sign ≥ 0) = false := decide_eq_false (by rw [Int.sign_eq_neg_one_of_neg (show (a.natAbs : Int) - b.natAbs < 0 by omega)]; omega)
      have k2 := r_Sub b.natAbs a.natAbs (by omega) (by omega)
      have k3 := r2_From' (neg := decide (b < 0)) (n := b.natAbs - a.natAbs) (z := a + b) (by unfold signed; by_cases h : b < 0 <;> simp [h] <;> omega) (td_lt_len (Nat.sub_le _ a.natAbs) (by omega))
      (repeat ((first | refine step_w2 rfl rfl ?_ | refine step_i (by kernel_rfl) ?_ | refine g_c (by assumption) ?_ | refine g_o (op_loadA rfl (ev_ok rfl) (tgt rfl) rfl (Nat.succ_ne_zero _) rfl) ?_ | refine g_o (op_fieldA rfl (ev_ok rfl) (tgt rfl) rfl rfl (Nat.succ_ne_zero _) rfl) ?_ | rw [t1] | rw [t2]); conv => whnf))
      exact Recast.refl _

theorem tl_mul {a b : Nat} : (td (a * b)).length ≤ (td a).length + (td b).length := tlen_le (by
  rcases Nat.eq_zero_or_pos b with h | h
  · subst h; rw [Nat.mul_zero]; exact Nat.pow_pos (by decide)
  · rw [Nat.pow_add]
    exact Nat.lt_of_lt_of_le (Nat.mul_lt_mul_of_pos_right (tlt_len a) h) (Nat.mul_le_mul_left _ (Nat.le_of_lt (tlt_len b))))
theorem r2_Mul (a b : Int) (ha : (td a.natAbs).length < 134217728) (hb : (td b.natAbs).length < 134217728) : CallOK Tryz.prog 106 [zZ a, zZ b] [] (zZ (a * b)) [] [] := by
  have k1 := r_Mul a.natAbs b.natAbs (by omega) (by omega)
  have k2 := r2_From' (signed_mul a b) (Nat.lt_of_le_of_lt tl_mul (by omega))
  refine callV (Z := [2, 3]) tabOK mixedOK Tryz.func106 rfl (by kernel_rfl) rfl rfl (by kernel_rfl) rfl ?_
  intro W0 w0 ρ0 hE
  conv => whnf
  (repeat ((first | refine step_i (by kernel_rfl) ?_ | refine g_c (by assumption) ?_ | refine g_o (op_loadA rfl (ev_ok rfl) (tgt rfl) rfl (Nat.succ_ne_zero _) rfl) ?_ | refine g_o (op_fieldA rfl (ev_ok rfl) (tgt rfl) rfl rfl (Nat.succ_ne_zero _) rfl) ?_); conv => whnf))
  exact Recast.refl _

theorem r2_Of (n : Int) (h0 : -9223372036854775808 ≤ n) (h1 : n < 9223372036854775808) : CallOK Tryz.prog 119 [.val (.int .i64 n)] [] (zZ n) [] [] := by
  have k1 := r_Of n.natAbs (by omega)
  have hl : (td n.natAbs).length < 1099511627776 := Nat.lt_of_le_of_lt (tlen_le (k := 5) (by omega)) (by decide)
  refine callV (Z := []) tabOK mixedOK Tryz.func119 rfl (by kernel_rfl) rfl rfl (by kernel_rfl) rfl ?_
  intro W0 w0 ρ0 hE
  conv => whnf
  by_cases hn : n < 0
  · have t1 : decide (n < 0) = true := decide_eq_true hn
    have e1 : IntKind.i64.wrap (n + 1) = n + 1 := wrap_i64 (by omega) (by omega)
    have e2 : IntKind.i64.wrap (0 - (n + 1)) = -(n + 1) := by rw [Int.zero_sub]; exact wrap_i64 (by omega) (by omega)
    have e3 : IntKind.u64.wrap (-(n + 1)) = -(n + 1) := wrap_u64 (by omega) (by omega)
    have e4 : IntKind.u64.wrap (-(n + 1) + 1) = (n.natAbs : Int) := by rw [wrap_u64 (by omega) (by omega)]; omega
    have k2 := r2_From' (neg := true) (n := n.natAbs) (z := n) (by show -(n.natAbs : Int) = n; omega) hl
    have e : zZ n = .agg [.val (.bool true), nN n.natAbs] := by rw [zZ, t1]
    rw [e] at *
    (repeat ((first | refine step_w1 rfl rfl ?_ | refine g_c (by assumption) ?_ | rw [t1] | rw [e1] | rw [e2] | rw [e3] | rw [e4]); conv => whnf))
    exact Recast.refl _
  · have t1 : decide (n < 0) = false := decide_eq_false hn
    have e1 : IntKind.u64.wrap n = (n.natAbs : Int) := by rw [wrap_u64 (by omega) (by omega)]; omega
    have k2 := r2_From' (neg := false) (n := n.natAbs) (z := n) (by show (n.natAbs : Int) = n; omega) hl
    have e : zZ n = .agg [.val (.bool false), nN n.natAbs] := by rw [zZ, t1]
    rw [e] at *
    (repeat ((first | refine step_w2 rfl rfl ?_ | refine g_c (by assumption) ?_ | rw [t1] | rw [e1]); conv => whnf))
    exact Recast.refl _

theorem r3_one : CallOK Tryz.prog 118 [] [] (nN 1) [] [] := by
  have k1 := r_Of 1 (by decide)
  refine callV (Z := []) tabOK mixedOK Tryz.func118 rfl (by kernel_rfl) rfl rfl (by kernel_rfl) rfl ?_
  intro W0 w0 ρ0 hE
  conv => whnf
  (repeat (first | (refine g_c (by assumption) ?_; conv => whnf))); (first | exact Recast.refl _ | exact Frz.recast (Recast.refl _) rfl | (refine Frz.one rfl rfl ?_; skip) | (refine Frz.tup ?_; skip))
theorem r3_Den (q : Rat) (h : (td q.den).length < 134217728) : CallOK Tryz.prog 82 [fF q] [] (nN q.den) [] [] := by
  have k0 := r3_one
  have k1 := r_Add (q.den - 1) 1 (Nat.lt_of_le_of_lt (td_len_mono (Nat.sub_le q.den 1)) (by omega)) (by decide)
  rw [den_pred] at k1
  refine callV (Z := [1]) tabOK mixedOK Tryz.func82 rfl (by kernel_rfl) rfl rfl (by kernel_rfl) rfl ?_
  intro W0 w0 ρ0 hE
  conv => whnf
  (repeat ((first | refine step_i (by kernel_rfl) ?_ | refine g_c (by assumption) ?_ | refine g_o (op_loadA rfl (ev_ok rfl) (tgt rfl) rfl (Nat.succ_ne_zero _) rfl) ?_ | refine g_o (op_fieldA rfl (ev_ok rfl) (tgt rfl) rfl rfl (Nat.succ_ne_zero _) rfl) ?_); conv => whnf)); (first | exact Recast.refl _ | exact Frz.recast (Recast.refl _) rfl | (refine Frz.one rfl rfl ?_; skip) | (refine Frz.tup ?_; skip))
theorem r3_den (q : Rat) (h : (td q.den).length < 134217728) : CallOK Tryz.prog 107 [fF q] [] (zZ q.den) [] [] := by
  have k0 := r3_Den q h
  have k1 := r2_From' (neg := false) (n := q.den) (z := (q.den : Int)) rfl (by omega)
  refine callV (Z := [1]) tabOK mixedOK Tryz.func107 rfl (by kernel_rfl) rfl rfl (by kernel_rfl) rfl ?_
  intro W0 w0 ρ0 hE
  conv => whnf
  (repeat (first | (refine g_c (by assumption) ?_; conv => whnf) | (refine g_o (op_loadA rfl (ev_ok rfl) (tgt rfl) rfl (Nat.succ_ne_zero _) rfl) ?_; conv => whnf)))
  exact Recast.refl _
theorem signed_num {n : Int} {d : Nat} (hd : d ≠ 0) : signed (decide (n < 0)) (n.natAbs / Nat.gcd n.natAbs d) = (mkRat n d).num := by
  rw [num_mkRat hd]
  have hdv : Nat.gcd n.natAbs d ∣ n.natAbs := Nat.gcd_dvd_left _ _
  unfold signed
  by_cases hn : n < 0
  · rw [decide_eq_true hn, if_pos rfl]
    have : n = -(n.natAbs : Int) := by omega
    rw [Int.natCast_ediv, ← Int.neg_ediv_of_dvd (Int.natCast_dvd_natCast.2 hdv), ← this]
  · rw [decide_eq_false hn]
    simp only [Bool.false_eq_true, if_false]
    have : n = (n.natAbs : Int) := by omega
    rw [Int.natCast_ediv, ← this]
theorem r3_From (n : Int) (d : Nat) (hd : d ≠ 0) (h1 : (td n.natAbs).length < 268435456) (h2 : (td d).length < 268435456) : CallOK Tryz.prog 104 [zZ n, nN d] [] (fF (mkRat n d)) [] [] := by
  have hg : Nat.gcd n.natAbs d ≠ 0 := fun h => hd (Nat.gcd_eq_zero_iff.1 h).2
  have hgl : (td (Nat.gcd n.natAbs d)).length < 268435456 := td_lt_len (Nat.le_of_dvd (by omega) (Nat.gcd_dvd_right _ _)) h2
  have hq : d / Nat.gcd n.natAbs d ≠ 0 := Nat.div_ne_zero_iff.2 ⟨hg, Nat.le_of_dvd (by omega) (Nat.gcd_dvd_right _ _)⟩
  have k1 := r_Gcd n.natAbs d h1 h2
  have k2 := r_Div n.natAbs (Nat.gcd n.natAbs d) (by omega) h1 hgl
  have k3 := r_Div d (Nat.gcd n.natAbs d) (by omega) h2 hgl
  have k4 := r2_From' (signed_num (n := n) hd) (td_lt_len (Nat.div_le_self _ _) (by omega))
  have k5 := r3_one
  have k6 : CallOK Tryz.prog 135 [nN (d / Nat.gcd n.natAbs d), nN 1] [] (nN ((mkRat n d).den - 1)) [] [] := by
    rw [den_mkRat hd]; exact r_Sub (d / Nat.gcd n.natAbs d) 1 (Nat.pos_of_ne_zero hq) (td_lt_len (Nat.div_le_self _ _) (by omega))
  refine callV (Z := [2]) tabOK mixedOK Tryz.func104 rfl (by kernel_rfl) rfl rfl (by kernel_rfl) rfl ?_
  intro W0 w0 ρ0 hE
  conv => whnf
  (repeat (first | (refine g_c (by assumption) ?_; conv => whnf) | (refine g_o (op_loadA rfl (ev_ok rfl) (tgt rfl) rfl (Nat.succ_ne_zero _) rfl) ?_; conv => whnf) | (refine g_o (op_fieldA rfl (ev_ok rfl) (tgt rfl) rfl rfl (Nat.succ_ne_zero _) rfl) ?_; conv => whnf)))
  exact Recast.refl _

theorem tl_fs {q : Rat} {M : Nat} (h : fs q ≤ M) : (td q.num.natAbs).length ≤ M ∧ (td q.den).length ≤ M := by
  have h1 := fsz_num q; have h2 := fsz_den q
  unfold fs at h
  exact ⟨tl_sz (by omega), tl_sz (by omega)⟩
theorem r3_Int (n : Int) (h0 : -9223372036854775808 ≤ n) (h1 : n < 9223372036854775808) : CallOK Tryz.prog 83 [.val (.int .i64 n)] [] (fF (n : Rat)) [] [] := by
  have k1 := r2_Of n h0 h1
  have e : fF (n : Rat) = .agg [zZ n, vecA 1 []] := by rw [fF]; rfl
  rw [e]
  refine callF (Z := []) tabOK mixedOK Tryz.func83 rfl (by kernel_rfl) (by first | rfl | (simp [keylessL, keyless, keylessL_map, *]; done)) (by first | rfl | (simp [keylessL, keyless, keylessL_map, *]; done)) (by kernel_rfl) rfl ?_
  intro w0 ρ0 hE
  conv => whnf
  (repeat (first | (refine g_c (by assumption) ?_; conv => whnf))); (first | exact Recast.refl _ | exact Frz.recast (Recast.refl _) rfl | (refine Frz.one rfl rfl ?_; (repeat (first | exact FrzC.keyless rfl | exact FrzL.nil | refine FrzL.cons ?_ ?_ | exact FrzC.nilS | refine FrzC.agg ?_))) | (refine Frz.tup ?_; skip))
theorem r3_Sign (q : Rat) (h : (td q.num.natAbs).length < 1099511627776) : CallOK Tryz.prog 84 [fF q] [] (.val (.int .i64 q.num.sign)) [] [] := by
  have k1 := r2_Sign q.num h
  refine callV (Z := [1]) tabOK mixedOK Tryz.func84 rfl (by kernel_rfl) rfl rfl (by kernel_rfl) rfl ?_
  intro W0 w0 ρ0 hE
  conv => whnf
  (repeat (first | (refine g_c (by assumption) ?_; conv => whnf) | (refine g_o (op_loadA rfl (ev_ok rfl) (tgt rfl) rfl (Nat.succ_ne_zero _) rfl) ?_; conv => whnf) | (refine g_o (op_fieldA rfl (ev_ok rfl) (tgt rfl) rfl rfl (Nat.succ_ne_zero _) rfl) ?_; conv => whnf))); (first | exact Recast.refl _ | exact Frz.recast (Recast.refl _) rfl | (refine Frz.one rfl rfl ?_; skip) | (refine Frz.tup ?_; skip))
theorem r3_Neg (q : Rat) (h : (td q.num.natAbs).length < 1099511627776) : CallOK Tryz.prog 85 [fF q] [] (fF (-q)) [] [] := by
  have k1 := r2_Neg q.num h
  have e : fF (-q) = .agg [zZ (-q.num), nN (q.den - 1)] := by rw [fF, Rat.neg_num, Rat.neg_den]
  rw [e]
  refine callV (Z := [1]) tabOK mixedOK Tryz.func85 rfl (by kernel_rfl) rfl rfl (by kernel_rfl) rfl ?_
  intro W0 w0 ρ0 hE
  conv => whnf
  (repeat ((first | refine step_i (by kernel_rfl) ?_ | refine g_c (by assumption) ?_ | refine g_o (op_loadA rfl (ev_ok rfl) (tgt rfl) rfl (Nat.succ_ne_zero _) rfl) ?_ | refine g_o (op_fieldA rfl (ev_ok rfl) (tgt rfl) rfl rfl (Nat.succ_ne_zero _) rfl) ?_); conv => whnf))
  exact Recast.refl _
theorem r3_Add (a b : Rat) (h : fs a + fs b ≤ 100000000) : CallOK Tryz.prog 74 [fF a, fF b] [] (fF (a + b)) [] [] := by
  obtain ⟨a1, a2⟩ := tl_fs (q := a) (Nat.le_refl _)
  obtain ⟨b1, b2⟩ := tl_fs (q := b) (Nat.le_refl _)
  have n1 := fsz_num a; have n2 := fsz_den a; have n3 := fsz_num b; have n4 := fsz_den b
  have m1 := tl_mul (a := a.num.natAbs) (b := b.den)
  have m2 := tl_mul (a := b.num.natAbs) (b := a.den)
  have m3 := tl_mul (a := a.den) (b := b.den)
  have k1 := r3_den b (by omega)
  have k2 := r3_den a (by omega)
  have k3 := r2_Mul a.num b.den (by omega) (by rw [Int.natAbs_natCast]; omega)
  have k4 := r2_Mul b.num a.den (by omega) (by rw [Int.natAbs_natCast]; omega)
  have k5 := r2_Add (a.num * b.den) (b.num * a.den) (by rw [Int.natAbs_mul, Int.natAbs_natCast]; omega) (by rw [Int.natAbs_mul, Int.natAbs_natCast]; omega)
  have k6 := r3_Den a (by omega)
  have k7 := r3_Den b (by omega)
  have k8 := r_Mul a.den b.den (by omega) (by omega)
  have m4 : (td (a.num * b.den + b.num * a.den).natAbs).length ≤ fs a + fs b + 1 := tl_sz (by
    have h1 := sz_mul a.num.natAbs b.den
    have h2 := sz_mul b.num.natAbs a.den
    unfold fs
    refine Nat.le_trans (sz_mono (Int.natAbs_add_le _ _)) (Nat.le_trans (sz_add (k := fsz a + fsz b) ?_ ?_) (by omega))
    · rw [Int.natAbs_mul, Int.natAbs_natCast]; omega
    · rw [Int.natAbs_mul, Int.natAbs_natCast]; omega)
  have k9 := r3_From (a.num * b.den + b.num * a.den) (a.den * b.den) (Nat.mul_ne_zero a.den_nz b.den_nz) (by omega) (by omega)
  rw [← Rat.add_def'] at k9
  clear m1 m2 m3 m4 n1 n2 n3 n4
  refine callV (Z := [2, 3]) tabOK mixedOK Tryz.func74 rfl (by kernel_rfl) rfl rfl (by kernel_rfl) rfl ?_
  intro W0 w0 ρ0 hE
  conv => whnf
  (repeat ((first | refine step_i (by kernel_rfl) ?_ | refine g_c (by assumption) ?_ | refine g_o (op_loadA rfl (ev_ok rfl) (tgt rfl) rfl (Nat.succ_ne_zero _) rfl) ?_ | refine g_o (op_fieldA rfl (ev_ok rfl) (tgt rfl) rfl rfl (Nat.succ_ne_zero _) rfl) ?_); conv => whnf))
  exact Recast.refl _
theorem r3_Sub (a b : Rat) (h : fs a + fs b ≤ 100000000) : CallOK Tryz.prog 75 [fF a, fF b] [] (fF (a - b)) [] [] := by
  obtain ⟨b1, b2⟩ := tl_fs (q := b) (Nat.le_refl _)
  have k1 := r3_Neg b (by omega)
  have k2 := r3_Add a (-b) (by rw [fs_neg]; exact h)
  rw [← Rat.sub_eq_add_neg] at k2
  refine callV (Z := [2, 3]) tabOK mixedOK Tryz.func75 rfl (by kernel_rfl) rfl rfl (by kernel_rfl) rfl ?_
  intro W0 w0 ρ0 hE
  conv => whnf
  (repeat (first | (refine step_i (by kernel_rfl) ?_; conv => whnf) | (refine g_c (by assumption) ?_; conv => whnf) | (refine g_o (op_loadA rfl (ev_ok rfl) (tgt rfl) rfl (Nat.succ_ne_zero _) rfl) ?_; conv => whnf)))
  exact Recast.refl _
theorem r3_Mul (a b : Rat) (h : fs a + fs b ≤ 100000000) : CallOK Tryz.prog 76 [fF a, fF b] [] (fF (a * b)) [] [] := by
  obtain ⟨a1, a2⟩ := tl_fs (q := a) (Nat.le_refl _)
  obtain ⟨b1, b2⟩ := tl_fs (q := b) (Nat.le_refl _)
  have m1 := tl_mul (a := a.num.natAbs) (b := b.num.natAbs)
  have m3 := tl_mul (a := a.den) (b := b.den)
  have k3 := r2_Mul a.num b.num (by omega) (by omega)
  have k6 := r3_Den a (by omega)
  have k7 := r3_Den b (by omega)
  have k8 := r_Mul a.den b.den (by omega) (by omega)
  have k9 := r3_From (a.num * b.num) (a.den * b.den) (Nat.mul_ne_zero a.den_nz b.den_nz) (by rw [Int.natAbs_mul]; omega) (by omega)
  rw [← Rat.mul_def'] at k9
  clear m1 m3
  refine callV (Z := [2, 3]) tabOK mixedOK Tryz.func76 rfl (by kernel_rfl) rfl rfl (by kernel_rfl) rfl ?_
  intro W0 w0 ρ0 hE
  conv => whnf
  (repeat ((first | refine step_i (by kernel_rfl) ?_ | refine g_c (by assumption) ?_ | refine g_o (op_loadA rfl (ev_ok rfl) (tgt rfl) rfl (Nat.succ_ne_zero _) rfl) ?_ | refine g_o (op_fieldA rfl (ev_ok rfl) (tgt rfl) rfl rfl (Nat.succ_ne_zero _) rfl) ?_); conv => whnf))
  exact Recast.refl _
theorem r3_Cmp (a b : Rat) (h : fs a + fs b ≤ 100000000) : CallOK Tryz.prog 86 [fF a, fF b] [] (.val (.int .i64 (a - b).num.sign)) [] [] := by
  have hs := fs_sub a b
  obtain ⟨b1, b2⟩ := tl_fs (q := a - b) (Nat.le_refl _)
  have k1 := r3_Sub a b h
  have k2 := r3_Sign (a - b) (by omega)
  refine callV (Z := [2, 3]) tabOK mixedOK Tryz.func86 rfl (by kernel_rfl) rfl rfl (by kernel_rfl) rfl ?_
  intro W0 w0 ρ0 hE
  conv => whnf
  (repeat (first | (refine g_c (by assumption) ?_; conv => whnf) | (refine g_o (op_loadA rfl (ev_ok rfl) (tgt rfl) rfl (Nat.succ_ne_zero _) rfl) ?_; conv => whnf))); (first | exact Recast.refl _ | exact Frz.recast (Recast.refl _) rfl | (refine Frz.one rfl rfl ?_; skip) | (refine Frz.tup ?_; skip))
theorem r3_Div (a b : Rat) (hb : b ≠ 0) (h : fs a + fs b ≤ 100000000) : CallOK Tryz.prog 102 [fF a, fF b] [] (fF (a / b)) [] [] := by
  have hn : b.num ≠ 0 := fun h => hb (Rat.num_eq_zero.1 h)
  obtain ⟨b1, b2⟩ := tl_fs (q := b) (Nat.le_refl _)
  have k1 := r3_Sign b (by omega)
  have t1 : (b.num.sign == 0) = false := beq_false_of_ne (fun h => hn (Int.sign_eq_zero_iff_zero.1 h))
  have k2 := r3_Den b (by omega)
  have k3 := r2_From (decide (b.num < 0)) b.den (by omega)
  have e1 : decide (b.num < 0) = decide (b.num.sign < 0) := decide_eq_decide.2 Int.sign_neg_iff.symm
  have k4 := r3_From (signed (decide (b.num < 0)) b.den) b.num.natAbs (by omega) (by rw [signed_abs]; omega) (by omega)
  rw [e1, mkRat_inv hn, ← e1] at k4
  have k5 := r3_Mul a b⁻¹ (by have := fs_inv b; omega)
  rw [← Rat.div_def] at k5
  refine callV (Z := [2, 3]) tabOK mixedOK Tryz.func102 rfl (by kernel_rfl) rfl rfl (by kernel_rfl) rfl ?_
  intro W0 w0 ρ0 hE
  conv => whnf
  (repeat ((first | refine step_w2 rfl rfl ?_ | refine step_i (by kernel_rfl) ?_ | refine g_c (by assumption) ?_ | refine g_o (op_loadA rfl (ev_ok rfl) (tgt rfl) rfl (Nat.succ_ne_zero _) rfl) ?_ | refine g_o (op_fieldA rfl (ev_ok rfl) (tgt rfl) rfl rfl (Nat.succ_ne_zero _) rfl) ?_ | rw [t1]); conv => whnf))
  exact Recast.refl _
theorem r3_Of (n d : Int) (hn0 : -9223372036854775808 ≤ n) (hn1 : n < 9223372036854775808) (hd0 : -9223372036854775808 ≤ d) (hd1 : d < 9223372036854775808) (hd : d ≠ 0) : CallOK Tryz.prog 69 [.val (.int .i64 n), .val (.int .i64 d)] [] (fF ((n : Rat) / (d : Rat))) [] [] := by
  have k1 := r3_Int n hn0 hn1
  have k2 := r3_Int d hd0 hd1
  have f1 := fs_int hn0 hn1
  have f2 := fs_int hd0 hd1
  have k3 := r3_Div (n : Rat) (d : Rat) (fun h => hd (by have := congrArg Rat.num h; simpa using this)) (by omega)
  refine callV (Z := []) tabOK mixedOK Tryz.func69 rfl (by kernel_rfl) rfl rfl (by kernel_rfl) rfl ?_
  intro W0 w0 ρ0 hE
  conv => whnf
  (repeat (first | (refine g_c (by assumption) ?_; conv => whnf)))
  exact Recast.refl _
theorem r_QRef (q : Int × Int) (h : qOK q) : CallOK Tryz.prog 34 [qA q] [] (fF (qV q)) [] [] := by
  have hd : (if q.2 < 1 then 1 else q.2) ≠ 0 := by have := h.2; split <;> omega
  have e2 : IntKind.i64.wrap (if (1 : Int) > q.2 then 1 else q.2) = (if q.2 < 1 then 1 else q.2) := wrap_i64 (by have := h.2; split <;> omega) (by have := h.2; split <;> omega)
  have k1 := r3_Of q.1 (if q.2 < 1 then 1 else q.2) h.1.1 h.1.2 (by have := h.2; split <;> omega) (by have := h.2; split <;> omega) hd
  refine callV (Z := [1]) tabOK mixedOK Tryz.func34 rfl (by kernel_rfl) rfl rfl (by kernel_rfl) rfl ?_
  intro W0 w0 ρ0 hE
  conv => whnf
  (repeat ((first | refine g_c (by assumption) ?_ | refine g_o (op_loadA rfl (ev_ok rfl) (tgt rfl) rfl (Nat.succ_ne_zero _) rfl) ?_ | refine g_o (op_fieldA rfl (ev_ok rfl) (tgt rfl) rfl rfl (Nat.succ_ne_zero _) rfl) ?_ | rw [e2]); conv => whnf))
  exact Recast.refl _
end Go.Proofs.YtgodfkgocbppgaaGreatDoor

namespace Go.Proofs.YtgodfkgocbppgaaGreatDoor
open Go.Sx
set_option linter.unusedSimpArgs false
set_option linter.unusedVariables false
section
open Go.Shelf Go.RowKit Go.Sort Go.Lib

set_option maxHeartbeats 6400000 in
set_option maxRecDepth 100000 in
/-- internal/strconv.FormatUint at base 10, from 100 on. -/
theorem fmt_big (u : Nat) (hu : 100 ≤ u) (hu64 : u < 18446744073709551616) (w : World) (htab : Lib.TabIs Tryz.prog w "internal/strconv.uint64pow10" .u64 Lib.pow10Tab) :
    Calls Tryz.prog 139 #[.int .u64 u, .int .i64 10] w fun e w' => e = .returned (.string ⟨(Lib.decDigits u).toArray⟩) ∧ ∃ k os, w' = grow (w.drewN k) os := by
  have mixed : Tryz.prog.follows .mixedOrders = true := by kernel_rfl
  have t3 := Tryz.underlying3; have a3 := Tryz.isAgg3; have z3 := Tryz.sizeOf3; have v3 := Tryz.zeroValue3
  have t9 := Tryz.underlying9; have a9 := Tryz.isAgg9; have z9 := Tryz.sizeOf9; have v9 := Tryz.zeroValue9
  have t4 := Tryz.underlying4; have a4 := Tryz.isAgg4; have z4 := Tryz.sizeOf4; have v4 := Tryz.zeroValue4
  have t53 := Tryz.underlying33; have a53 := Tryz.isAgg33; have z53 := Tryz.sizeOf33; have v53 := Tryz.zeroValue33
  have t5 := Tryz.underlying5; have a5 := Tryz.isAgg5; have z5 := Tryz.sizeOf5; have v5 := Tryz.zeroValue5
  have t37 := Tryz.underlying158; have a37 := Tryz.isAgg158; have z37 := Tryz.sizeOf158; have v37 := Tryz.zeroValue158
  have t171 := Tryz.underlying191; have a171 := Tryz.isAgg191; have z171 := Tryz.sizeOf191; have v171 := Tryz.zeroValue191
  have t0 := Tryz.underlying0; have a0 := Tryz.isAgg0; have z0 := Tryz.sizeOf0; have v0 := Tryz.zeroValue0
  have e284 : ∀ args w, (callFunc 155 args).run Tryz.prog w = .ok (.enter 155 args) w := enters_of Tryz.func155 (by kernel_rfl) rfl
  have e285 : ∀ args w, (callFunc 156 args).run Tryz.prog w = .ok (.enter 156 args) w := enters_of Tryz.func156 (by kernel_rfl) rfl
  have hu1 : 1 ≤ u := by omega
  have hnd20 : Lib.nDigits u ≤ 20 := by have := Lib.numDigits_eq u hu1 hu64; split at this <;> omega
  have hal : Tryz.prog.arrayLen 191 = 24 := by simp [Program.arrayLen, t171]
  -- 'a[:nd]', for the walk to take
  have hsl : ∀ W, (Instr.sliceAt 191 (.pointer (some ⟨w.heap.size, 0, none⟩)) none (some (.int .i64 (Lib.nDigits u : Int))) none).run Tryz.prog W = .ok (.slice (some ⟨w.heap.size, 0, none⟩) (Lib.nDigits u) 24) W := fun W => by
    rw [run_sliceAt_array_h W 191 ⟨w.heap.size, 0, none⟩ (by simp [Program.arrayLen, Program.elem, t171]) .i64 (Lib.nDigits u : Int) (by omega) (by rw [hal]; omega)]
    go_simp
  -- formatBase10's contract at the new block's row of zeros
  have hH0 := Lib.holds_zero0 w 191 (Lib.nDigits u) (by omega)
  have hfmt := Tryz.internal_strconv_formatBase10 w.heap.size 0 24 u (Array.replicate (Lib.nDigits u) 0) (w.alloc (.cells Lib.zeros24 191)) hH0 (by rw [Array.size_replicate]; exact Lib.lt_pow_nDigits u) hu64 (by rw [Array.size_replicate]; omega)
  rw [Array.size_replicate] at hfmt
  have HH0 := Lib.hid hH0
  have iu : ¬ (u : Int) < 100 := by omega
  clear hH0 hal
  go_enter Tryz.func139, Tryz.ntmps139
  go_wp2_with (first
    | (go_at_fn 155; refine (Tryz.internal_strconv_numDigits u hu1 hu64 _ (Lib.tabIs_alloc htab _)).mono ?_; rintro e w' ⟨rfl, rfl⟩))
  go_at_fn 156
  refine hfmt.mono ?_
  rintro e w' ⟨rfl, k, v', dk, rfl, hF⟩
  -- 'string(a[:nd])', for the walk to take: the row reads as the numeral
  have hcv : (convert 158 9 (.slice (some ⟨w.heap.size, 0, none⟩) (Lib.nDigits u) 24)).run Tryz.prog ((putRow (fun (b : UInt8) => Value.int .u8 (b.toNat : Int)) (w.alloc (.cells Lib.zeros24 191)) w.heap.size 0 dk).drewN k) = .ok (.string ⟨(Lib.decDigits u).toArray⟩) ((putRow (fun (b : UInt8) => Value.int .u8 (b.toNat : Int)) (w.alloc (.cells Lib.zeros24 191)) w.heap.size 0 dk).drewN k) := by
    have h := run_convert_bytes_back (P := Tryz.prog) ((putRow (fun (b : UInt8) => Value.int .u8 (b.toNat : Int)) (w.alloc (.cells Lib.zeros24 191)) w.heap.size 0 dk).drewN k) 158 9 5 ⟨w.heap.size, 0, none⟩ 24 (Lib.decDigits u) t37 t5 t9 (fun j hj => by
      rw [Lib.row_is_numeral hF j hj, Lib.add_plain, World.cell?_drewN]
      exact cell?_putRow (fun (b : UInt8) => Value.int .u8 (b.toNat : Int)) _ w.heap.size 0 _ dk HH0.out (by rw [hF.size, Array.size_replicate]) j (by rw [hF.size]; rw [Lib.decDigits_length] at hj; exact hj))
    rw [Lib.decDigits_length] at h
    exact h
  go_wp2
  go_ret
  obtain ⟨os, eo⟩ := Lib.fin_at w (.cells Lib.zeros24 191) dk k 0
  exact ⟨rfl, k, os, eo⟩
end
end Go.Proofs.YtgodfkgocbppgaaGreatDoor

namespace Go.Proofs.YtgodfkgocbppgaaGreatDoor
open Go.Sx
set_option linter.unusedSimpArgs false
set_option linter.unusedVariables false
set_option maxRecDepth 100000
set_option maxHeartbeats 4000000

def padF : Nat → Nat → List UInt8
  | 0, _ => []
  | k + 1, r => padF k (r / 10) ++ [UInt8.ofNat (48 + r % 10)]
theorem dec_big {n : Nat} (h : 10 ≤ n) : Lib.decDigits n = Lib.decDigits (n / 10) ++ [UInt8.ofNat (48 + n % 10)] := by rw [Lib.decDigits, dif_neg (by omega)]
theorem dec_lt {n : Nat} (h : n < 10) : Lib.decDigits n = [UInt8.ofNat (48 + n)] := by rw [Lib.decDigits, dif_pos h]
theorem dec_split : ∀ k q r, 0 < q → r < 10 ^ k → Lib.decDigits (q * 10 ^ k + r) = Lib.decDigits q ++ padF k r
  | 0, q, r, hq, hr => by
    obtain rfl : r = 0 := by simp at hr; exact hr
    simp [padF]
  | k + 1, q, r, hq, hr => by
    have hp : 0 < 10 ^ k := Nat.pow_pos (by decide)
    have e : q * 10 ^ (k + 1) = 10 * (q * 10 ^ k) := by rw [Nat.pow_succ, ← Nat.mul_assoc, Nat.mul_comm]
    have hqp : 0 < q * 10 ^ k := Nat.mul_pos hq hp
    rw [Nat.pow_succ] at hr
    rw [dec_big (by omega), show (q * 10 ^ (k + 1) + r) / 10 = q * 10 ^ k + r / 10 by omega, show (q * 10 ^ (k + 1) + r) % 10 = r % 10 by omega, dec_split k q (r / 10) hq (by omega), padF, List.append_assoc]
theorem pad_zero : ∀ k, padF k 0 = List.replicate k 48
  | 0 => rfl
  | k + 1 => by rw [padF, Nat.zero_div, pad_zero k, List.replicate_succ']; rfl
theorem pad_dec : ∀ k r, r < 10 ^ k → 0 < k → padF k r = List.replicate (k - (Lib.decDigits r).length) 48 ++ Lib.decDigits r ∧ (Lib.decDigits r).length ≤ k
  | 0, r, h, h0 => by omega
  | k + 1, r, h, _ => by
    by_cases h1 : r < 10
    · rw [padF, show r / 10 = 0 by omega, pad_zero, dec_lt h1, show r % 10 = r by omega]
      exact ⟨rfl, by simp⟩
    · have hk : 0 < k := by rcases Nat.eq_zero_or_pos k with g | g
                            · subst g; simp at h; omega
                            · exact g
      rw [Nat.pow_succ] at h
      obtain ⟨h2, h3⟩ := pad_dec k (r / 10) (by omega) hk
      have e := dec_big (n := r) (by omega)
      rw [padF, h2, e, List.length_append, List.append_assoc, List.length_singleton]
      exact ⟨by rw [show k + 1 - ((Lib.decDigits (r / 10)).length + 1) = k - (Lib.decDigits (r / 10)).length by omega], by omega⟩

theorem pow_tab {ρ : Rho} {w : World} (h : ∀ b o, ρ.imm b = some o → w.heap[b]? = some o) : Lib.TabIs Tryz.prog w "internal/strconv.uint64pow10" .u64 Lib.pow10Tab := by
  obtain ⟨o, h1, _, ty, fz, rfl⟩ := ρ.glob 1 .u64 Lib.pow10Tab (by decide +kernel)
  exact tab_is (g := 1) (by kernel_rfl) (h _ _ h1)
theorem call_valsT {f : FuncId} {vs : List Value} {v : Value} (hf : FnOK Tryz.prog f) (hv : v.oneCell' = true) (h : ∀ w : World, Lib.TabIs Tryz.prog w "internal/strconv.uint64pow10" .u64 Lib.pow10Tab → Calls Tryz.prog f vs.toArray w fun e w' => e = .returned v ∧ RowKit.Below w.heap.size w w') : CallOK Tryz.prog f (vs.map .val) [] (.val v) [] [] := by
  refine .inl ⟨hf, fun ρ w z hz hp => ?_⟩
  rw [zip_vals hz]
  refine (h w (pow_tab hp.imm)).mono ?_
  rintro e w' ⟨rfl, hb⟩
  exact ⟨v, ρ, rfl, .of_below hb (has_val hv)⟩
theorem t_iFmtB (n : Nat) (h1 : 100 ≤ n) (h2 : n < 18446744073709551616) : CallOK Tryz.prog 139 [.val (.int .u64 (n : Nat)), .val (.int .i64 10)] [] (.val (.string (tN n))) [] [] :=
  call_valsT (vs := [.int .u64 (n : Nat), .int .i64 10]) ⟨Tryz.f139, Tryz.func139, rfl, by kernel_rfl⟩ rfl fun w ht => by
    rw [tN_eq]
    refine (fmt_big n h1 h2 w ht).mono ?_
    rintro e w' ⟨rfl, k, os, rfl⟩
    exact ⟨rfl, Lib.below_grow w.heap.size w (Nat.le_refl _) k os⟩
theorem t_FormatG (n : Nat) (h : n < 18446744073709551616) : CallOK Tryz.prog 111 [.val (.int .u64 (n : Nat)), .val (.int .i64 10)] [] (.val (.string (tN n))) [] [] := by
  by_cases hs : n < 100
  · exact t_Format n hs
  · have k1 := t_iFmtB n (by omega) h
    refine callV (Z := []) tabOK mixedOK Tryz.func111 rfl (by kernel_rfl) rfl rfl (by kernel_rfl) rfl ?_
    intro W0 w0 ρ0 hE
    conv => whnf
    (repeat (first | (refine g_c (by assumption) ?_; conv => whnf))); (first | exact Recast.refl _ | exact Frz.recast (Recast.refl _) rfl | (refine Frz.one rfl rfl ?_; skip) | (refine Frz.tup ?_; skip))
theorem t_Itoa (n : Nat) (h : n < 9223372036854775808) : CallOK Tryz.prog 114 [.val (.int .i64 (n : Nat))] [] (.val (.string (tN n))) [] [] :=
  call_valsT (vs := [.int .i64 (n : Nat)]) ⟨Tryz.f114, Tryz.func114, rfl, by kernel_rfl⟩ rfl fun w ht => by
    rw [tN_eq]
    refine (Tryz.strconv_Itoa n (by omega) (by omega) w ht).mono ?_
    rintro e w' ⟨rfl, k, os, rfl⟩
    refine ⟨?_, Lib.below_grow w.heap.size w (Nat.le_refl _) k os⟩
    rw [Lib.itoa_nonneg]
theorem t_Repeat (c : Nat) (hc : c ≤ 100) : CallOK Tryz.prog 115 [.val (.string ⟨#[48]⟩), .val (.int .i64 (c : Nat))] [] (.val (.string ⟨(List.replicate c 48).toArray⟩)) [] [] :=
  call_vals (vs := [.string ⟨#[48]⟩, .int .i64 (c : Nat)]) ⟨Tryz.f115, Tryz.func115, rfl, by kernel_rfl⟩ rfl fun w => by
    have e : ∀ c, Lib.repeatL [48] c = List.replicate c 48 := fun c => by
      induction c with
      | zero => rfl
      | succ c ih => show [48] ++ Lib.repeatL [48] c = _; rw [ih, List.replicate_succ, List.singleton_append]
    refine (Tryz.strings_Repeat ⟨#[48]⟩ c w (by omega) (by show 1 * c ≤ _; omega)).mono ?_
    rintro e' w' ⟨rfl, hb⟩
    exact ⟨by rw [show (⟨#[48]⟩ : ByteArray).data.toList = [48] from rfl, e], hb⟩

/-- A block of strings. -/
abbrev sblk (ss : List ByteArray) : Blk := ⟨9, true, .seq 1 (ss.map sel)⟩
theorem str_ext {a b : List ByteArray} {n : Nat} (ha : a.length = n) (hb : b.length = n) (h : ∀ i, i < n → a.getD i .empty = b.getD i .empty) : a = b := by
  refine List.ext_getElem (ha.trans hb.symm) fun i h1 h2 => ?_
  have := h i (by omega)
  rwa [List.getD_eq_getElem?_getD, List.getD_eq_getElem?_getD, List.getElem?_eq_getElem h1, List.getElem?_eq_getElem h2] at this
theorem str_set {l : List ByteArray} {i j : Nat} {v : ByteArray} (hi : i < l.length) : (l.set i v).getD j .empty = if i = j then v else l.getD j .empty := by
  simp only [List.getD_eq_getElem?_getD, List.getElem?_set]
  by_cases h : i = j
  · subst h; simp [hi]
  · simp [h]
theorem str_rev {l : List ByteArray} {n k : Nat} (hl : l.length = n) (hk : k < n) : l.reverse.getD k .empty = l.getD (n - 1 - k) .empty := by
  simp only [List.getD_eq_getElem?_getD]
  rw [List.getElem?_reverse (by omega), hl]
theorem t_Reverse (ss : List ByteArray) (n : Nat) (hn : ss.length = n) (hl : n < 1099511627776) (K : Nat) : CallOK Tryz.prog 116 [.slc K 1 0 n] [(K, sblk ss)] (.tup []) [] [(K, sblk ss.reverse)] := by
  have e0 : IntKind.i64.wrap ((n : Int) - 1) = (n : Int) - 1 := wrap_i64 (by omega) (by omega)
  refine callK (Z := []) tabOK mixedOK Tryz.func116 rfl (by kernel_rfl) (args := [.slc 1001 1 0 n]) (fk := [(1001, sblk ss)]) (c := .tup []) (new := []) (upd := [(1001, sblk ss.reverse)]) (ShapeOK.of rfl rfl rfl rfl rfl rfl rfl rfl rfl rfl rfl) rfl (fun _ => K) NamesOK.upd ?_
  intro W0 w0 ρ0 hE
  conv => whnf
  (repeat (first | (rw [e0]; conv => whnf)))
  refine SW_loopN hE (fun k => k) [0, 2, 3] [1001] (fun q fr hp => ∃ (i : Nat) (ys : List ByteArray), q = n - i ∧ (2 * i ≤ n) ∧ ys.length = n ∧ (∀ k, k < n → ys.getD k .empty = if k < i ∨ n - i ≤ k then ss.getD (n - 1 - k) .empty else ss.getD k .empty) ∧
    fr = [(0, .slc 1001 1 0 n), (2, .val (.int .i64 (i : Nat))), (3, .val (.int .i64 ((n : Int) - 1 - i)))] ∧ hp = [(1001, sblk ys)]) n ?_ ?_ ?_
  · kernel_rfl
  · exact ⟨0, ss, rfl, by omega, hn, (fun k hk => by rw [if_neg (by omega)]), by rw [show (n : Int) - 1 - ((0 : Nat) : Int) = (n : Int) - 1 by omega]; rfl, rfl⟩
  rintro q _ _ ⟨i, ys, rfl, hi, hy, hv, rfl, rfl⟩
  conv => whnf
  by_cases hgo : i + i + 1 < n
  · obtain ⟨j, hj⟩ : ∃ j, j = n - 1 - i := ⟨_, rfl⟩
    have ej : (n : Int) - 1 - i = (j : Int) := by omega
    rw [ej]
    have t1 : decide ((i : Int) < (j : Int)) = true := decide_eq_true (by omega)
    have e1 := winc (i := i) (by omega)
    have e2 : IntKind.i64.wrap ((j : Int) - 1) = (n : Int) - 1 - ((i + 1 : Nat) : Int) := by rw [wrap_i64 (by omega) (by omega)]; omega
    have g1 : (ys.map sel).getD i .any = .val (.string (ys.getD i .empty)) := by rw [map_get (d := ByteArray.empty) (by omega)]; rfl
    have g2 : (ys.map sel).getD j .any = .val (.string (ys.getD j .empty)) := by rw [map_get (d := ByteArray.empty) (by omega)]; rfl
    have g3 : ((ys.map sel).set i (.val (.string (ys.getD j .empty)))).getD j .any = .val (.string (ys.getD j .empty)) := by rw [← g2, List.getD_eq_getElem?_getD, List.getElem?_set_ne (by omega), ← List.getD_eq_getElem?_getD]
    have hlm : (ys.map sel).length = n := by rw [List.length_map]; exact hy
    have hset : (((ys.set i (ys.getD j .empty)).set j (ys.getD i .empty)).map sel) = ((ys.map sel).set i (.val (.string (ys.getD j .empty)))).set j (.val (.string (ys.getD i .empty))) := by rw [List.map_set, List.map_set]; rfl
    have hnew : ∀ k, k < n → ((ys.set i (ys.getD j .empty)).set j (ys.getD i .empty)).getD k .empty = if k < i + 1 ∨ n - (i + 1) ≤ k then ss.getD (n - 1 - k) .empty else ss.getD k .empty := by
      intro k hk
      rw [str_set (by rw [List.length_set]; omega), str_set (by omega)]
      by_cases h1 : j = k
      · rw [if_pos h1, if_pos (by omega), hv i (by omega), if_neg (by omega), show n - 1 - k = i by omega]
      · rw [if_neg h1]
        by_cases h2 : i = k
        · rw [if_pos h2, if_pos (by omega), hv j (by omega), if_neg (by omega), show n - 1 - k = j by omega]
        · rw [if_neg h2, hv k hk]
          by_cases h3 : k < i ∨ n - i ≤ k
          · rw [if_pos h3, if_pos (by omega)]
          · rw [if_neg h3, if_neg (by omega)]
    (repeat ((first | refine step_w1 rfl rfl ?_ | refine step_i (by kernel_rfl) ?_ | refine And.intro (by first | decide | omega | (simp only [tiB5, tiB23, tiB3, tiB2, tiB9, tiB41, tiB72, tiB29, tiB30, tiB39, tiB33, tiB4, tiB68, tiB70, dlen, List.length_replicate, List.length_set, List.length_map, List.length_zipWith, List.length_take, List.length_append, List.length_cons, List.length_nil]; omega)) ?_ | rw [t1] | rw [show 0 + (i : Int).toNat = i from by omega] | rw [show 0 + (j : Int).toNat = j from by omega] | rw [g1] | rw [g2] | rw [g3] | rw [e1] | rw [e2]); conv => whnf))
    refine ⟨n - (i + 1), fun k => k, [0, 2, 3], [1001], by omega, by kernel_rfl, i + 1, _, rfl, by omega, ?_, hnew, rfl, ?_⟩
    · rw [List.length_set, List.length_set]; exact hy
    · rw [sblk, hset]; rfl
  · have t1 : decide ((i : Int) < (n : Int) - 1 - i) = false := decide_eq_false (by omega)
    have e : ys = ss.reverse := str_ext hy (by rw [List.length_reverse]; exact hn) fun k hk => by
      rw [hv k hk, str_rev hn hk]
      split
      · rfl
      · rw [show n - 1 - k = k by omega]
    rw [e]
    (repeat (first | (refine step_w2 rfl rfl ?_; conv => whnf) | (rw [t1]; conv => whnf)))
    exact ⟨Recast.refl _, (fun _ _ h => by cases h), fun k b hm => by simp only [List.mem_singleton, Prod.mk.injEq] at hm; obtain ⟨rfl, rfl⟩ := hm; rfl⟩

theorem call_strsM {P : Program} {f : FuncId} {ss : List ByteArray} {n : Nat} {sep : ByteArray} {v : Value} {ty : TypeId} (hn : ss.length = n) (hf : FnOK P f) (hv : v.oneCell' = true)
    (h0 : ss = [] → ∀ (a : Option Addr) (w : World), Calls P f #[.slice a 0 0, .string sep] w fun e w' => e = .returned v ∧ w' = w)
    (h : ∀ (bk o c : Nat) (w : World), (∀ (j : Nat) x, ss[j]? = some x → w.cell? ⟨bk, o + j, none⟩ = some (.string x)) → bk < w.heap.size → ss.length ≤ c → Calls P f #[.slice (some ⟨bk, o, none⟩) ss.length c, .string sep] w fun e w' => e = .returned v ∧ RowKit.Below w.heap.size w w') (K : Nat) :
    CallOK P f [.slc K 1 0 n, .val (.string sep)] [(K, ⟨ty, true, .seq 1 (ss.map sel)⟩)] (.val v) [] [] := by
  subst hn
  refine .inl ⟨hf, fun ρ w z hz hp => ?_⟩
  simp only [HasZ] at hz
  obtain ⟨x, _, rfl, hx, y, _, rfl, hy, rfl⟩ := hz
  simp only [HasC] at hy
  obtain ⟨rfl, _⟩ := hy
  have fin : ∀ (a : Value), (Calls P f #[a, .string sep] w fun e w' => e = .returned v ∧ RowKit.Below w.heap.size w w') → Calls P f (List.zipWith mkV [.slc K 1 0 ss.length, SV.val (.string sep)] [[a], [.string sep]]).toArray w fun e w' => ∃ v' ρ', e = .returned v' ∧ Post ρ w (.val v) [] [] v' ρ' w' := fun a hc => by
    have e : (List.zipWith mkV [.slc K 1 0 ss.length, SV.val (.string sep)] [[a], [.string sep]]).toArray = #[a, .string sep] := by simp [mkV, SV.isOne]
    rw [e]
    refine hc.mono ?_
    rintro e w' ⟨rfl, hb⟩
    exact ⟨v, ρ, rfl, .of_below hb (has_val hv)⟩
  obtain ⟨z, hz, hcase⟩ := blk_rows (hp.hfk K _ (List.mem_cons_self ..)) rfl rfl
  simp only [HasC] at hx
  rcases hx with ⟨b, t, cap, e1, e2, e3, rfl⟩ | ⟨hn, a, rfl⟩
  · rcases hcase with ⟨b', t', ex, h1, h2, h3, h4⟩ | ⟨h1, _⟩
    · rw [e1] at h1
      cases h1
      have hzf : ∀ (l : List ByteArray) (z : List (List Value)), HasZ (bareR ρ.imm ρ.glob) (l.map sel) z → z.flatten = l.map .string := by
        intro l
        induction l with
        | nil => intro z hz; simp only [List.map_nil, HasZ] at hz; subst hz; rfl
        | cons s l ih =>
          intro z hz
          simp only [List.map_cons, HasZ, sel, HasC] at hz
          obtain ⟨x, r, rfl, ⟨rfl, _⟩, h⟩ := hz
          simp [ih r h]
      refine fin _ ((h b 0 cap w (fun j x hj => ?_) ?_ e2))
      · rw [cell_of_row w b _ _ _ _ h2, List.getElem?_toArray, hzf ss z hz.2.1, Nat.zero_add]
        rw [List.getElem?_append_left (by rw [List.length_map]; exact (List.getElem?_eq_some_iff.1 hj).1), List.getElem?_map, hj]; rfl
      · rcases Nat.lt_or_ge b w.heap.size with h' | h'
        · exact h'
        · simp [Array.getElem?_eq_none h'] at h2
    · rw [e1] at h1; cases h1
  · refine fin _ ?_
    have hn : ss = [] := List.length_eq_zero_iff.1 hn
    subst hn
    exact (h0 rfl a w).mono fun _ _ ⟨he, hw⟩ => ⟨he, hw ▸ RowKit.Below.refl _ _⟩
theorem t_JoinM (ss : List ByteArray) (n : Nat) (hn : ss.length = n) (sep : ByteArray) (hN : ss.length ≤ 1099511627776) (hlen : (Lib.join (ss.map (·.data.toList)) sep.data.toList).length ≤ 140737488355328) (K : Nat) :
    CallOK Tryz.prog 88 [.slc K 1 0 n, .val (.string sep)] [(K, sblk ss)] (.val (.string ⟨(Lib.join (ss.map (·.data.toList)) sep.data.toList).toArray⟩)) [] [] := by
  refine call_strsM hn ⟨Tryz.f88, Tryz.func88, rfl, by kernel_rfl⟩ rfl ?_ ?_ K
  · rintro rfl a w
    exact Tryz.strings_Join_none a 0 sep w
  · intro bk o c w hc hb hcap
    exact Tryz.strings_Join bk o c ss sep w hc hb (by omega) hcap hlen
end Go.Proofs.YtgodfkgocbppgaaGreatDoor

namespace Go.Proofs.YtgodfkgocbppgaaGreatDoor
open Go.Sx
set_option linter.unusedSimpArgs false
set_option linter.unusedVariables false
set_option maxRecDepth 100000
set_option maxHeartbeats 4000000

theorem dec_len : ∀ k n, n < 2 ^ k → (Lib.decDigits n).length ≤ k + 1
  | 0, n, h => by
    obtain rfl : n = 0 := by simp at h; exact h
    rw [dec_lt (by decide)]; simp
  | k + 1, n, h => by
    by_cases h1 : n < 10
    · rw [dec_lt h1]; simp
    · rw [dec_big (by omega), List.length_append, List.length_singleton]
      have := dec_len k (n / 10) (by rw [Nat.pow_succ] at h; omega)
      omega
def cat (ss : List ByteArray) : List UInt8 := (ss.map (·.data.toList)).flatten
theorem join_empty (l : List (List UInt8)) : Lib.join l [] = l.flatten := by
  cases l with
  | nil => rfl
  | cons x r => rw [Lib.join_cons, Lib.joinTail]; simp
theorem cut_digs {v m : Nat} (h : v < 4294967296 ^ m) : cutN (digs v m) m = (wInts v).length ∧ (wInts v).length ≤ m := by
  have hlen := digs_len v m
  have hv := valI_digs v m
  rw [Nat.mod_eq_of_lt h] at hv
  have hc := valI_cut (digs v m) m
  have hle := cutN_le (digs v m) m
  have htop := cutN_top (digs v m) m
  have := wInts_of (cutN (digs v m) m) (digs v m) (digs_w32 v m) (by omega) htop
  rw [hc, hv, Int.toNat_natCast] at this
  have e : (wInts v).length = cutN (digs v m) m := by rw [this, List.length_take]; omega
  exact ⟨e.symm, by omega⟩
theorem sz_div9 {v : Nat} (h : 1000000000 ≤ v) : sz (v / 1000000000) + 29 ≤ sz v := by
  have h1 : v < 2 ^ sz v := sz_le.1 (Nat.le_refl _)
  have h2 : 29 ≤ sz v := by
    rcases Nat.lt_or_ge (sz v) 29 with g | g
    · have : 2 ^ sz v ≤ 2 ^ 29 := Nat.pow_le_pow_right (by decide) (by omega)
      omega
    · exact g
  have h3 : sz (v / 1000000000) ≤ sz v - 29 := sz_le.2 (by
    rw [Nat.div_lt_iff_lt_mul (by decide)]
    have e : 2 ^ sz v = 2 ^ (sz v - 29) * 2 ^ 29 := by rw [← Nat.pow_add]; congr 1; omega
    have : 2 ^ (sz v - 29) * 2 ^ 29 ≤ 2 ^ (sz v - 29) * 1000000000 := Nat.mul_le_mul_left _ (by decide)
    omega)
  omega
theorem tN_size9 {r : Nat} (h : r < 1000000000) : (tN r).size ≤ 9 := by
  rw [tN_eq]
  show (Lib.decDigits r).toArray.size ≤ 9
  have := (pad_dec 9 r h (by decide)).2
  simpa using this
/-- A part of a text, filled with zeros. -/
theorem pad_tN {r : Nat} (h : r < 1000000000) : ((⟨(List.replicate (9 - (tN r).size) 48).toArray⟩ : ByteArray) ++ tN r).data.toList = padF 9 r := by
  have hs : (tN r).size = (Lib.decDigits r).length := by rw [tN_eq]; show (Lib.decDigits r).toArray.size = _; simp
  rw [(pad_dec 9 r h (by decide)).1, hs, tN_eq, ByteArray.data_append]
  simp
theorem cat_snoc (ps : List ByteArray) (s : ByteArray) : cat (ps ++ [s]).reverse = s.data.toList ++ cat ps.reverse := by simp [cat]

theorem wl_of {n M : Nat} (h : sz n ≤ M) : (wInts n).length ≤ M := len_le_of (Nat.lt_of_lt_of_le (sz_le.1 h) (Nat.pow_le_pow_left (by decide) M))
theorem t_NatB (n : Nat) (h : ¬ n < 18446744073709551616) (hs : sz n ≤ 1073741824) : CallOK Tryz.prog 79 [.nat n] [] (.val (.string (tN n))) [] [] := by
  have hwl : (wInts n).length < 1099511627776 := Nat.lt_of_le_of_lt (wl_of hs) (by decide)
  have k1 := c_words n 3001 hwl
  have e2 : ((big n).toList == (ByteArray.mk #[]).toList) = false := by rw [big_eq]; exact decide_eq_false h
  have hwa := wArr_len n
  refine callF (Z := []) tabOK mixedOK Tryz.func79 rfl (by kernel_rfl) (by first | rfl | (simp [keylessL, keyless, keylessL_map, *]; done)) (by first | rfl | (simp [keylessL, keyless, keylessL_map, *]; done)) (by kernel_rfl) rfl ?_
  intro w0 ρ0 hE
  conv => whnf
  (repeat ((first | refine step_w2 rfl rfl ?_ | refine g_cn (by assumption) rfl ?_ | rw [e2] | rw [Nat.zero_add]); conv => whnf))
  refine SWx_adopt (t := 3) (k := 2002) (s := 1) (blk := sblk []) rfl rfl rfl ?_
  have hwn := wInts_val n
  refine SW_loopN hE (fun k => k) [3, 4] [2002, 3001] (fun q fr hp => ∃ (v : Nat) (L : List Int) (ps : List ByteArray), q = v ∧ (wInts v).length ≤ L.length ∧ L.length < 1099511627776 ∧ W32 L ∧ valI L (wInts v).length = (v : Int) ∧ ((v ≠ 0 ∧ Lib.decDigits n = Lib.decDigits v ++ cat ps.reverse ∧ ps.length * 29 + sz v ≤ sz n) ∨ (v = 0 ∧ Lib.decDigits n = cat ps.reverse ∧ ps.length * 29 ≤ sz n + 29)) ∧
    fr = [(3, .slc 2002 1 0 ps.length), (4, .slc 3001 1 0 (wInts v).length)] ∧ hp = [(2002, sblk ps), (3001, ⟨23, true, .ints .u32 L⟩)]) n ?_ ?_ ?_
  · kernel_rfl
  · have hwA : (wArr n) = wInts n := by rw [wArr, if_neg h]
    refine ⟨n, wArr n, [], rfl, hwa, by rw [hwA]; exact hwl, by rw [hwA]; exact wInts_w32 n, by rw [hwA]; exact hwn, .inl ⟨by omega, ?_, by simp⟩, rfl, rfl⟩
    simp [cat]
  rintro q _ _ ⟨v, L, ps, rfl, hL, hLl, hLw, hLv, hrel, rfl, rfl⟩
  conv => whnf
  have hpl : ps.length < 1099511627776 := by rcases hrel with ⟨_, _, g⟩ | ⟨_, _, g⟩ <;> omega
  by_cases h0 : 0 < q
  · obtain ⟨_, hdec, hlen⟩ := hrel.resolve_right (by omega)
    clear hrel
    have hm := wInts_top (n := q) (by omega)
    have t1 : decide (((wInts q).length : Int) > 0) = true := decide_eq_true (by omega)
    have hqm : q < 4294967296 ^ (wInts q).length := lt_of_len q
    have k2 := c_short L (wInts q).length hL (by omega) hLw 1000000000 (by decide) (by decide) 3001 3002 (by decide) true q hLv
    obtain ⟨hcut, hcle⟩ := cut_digs (v := q / 1000000000) (m := (wInts q).length) (Nat.lt_of_le_of_lt (Nat.div_le_self _ _) hqm)
    have hdl := digs_len (q / 1000000000) (wInts q).length
    have k3 := c_cut (digs (q / 1000000000) (wInts q).length) (wInts q).length (by omega) (by omega) 3002 true
    rw [hcut] at k3
    have hr : q % 1000000000 < 1000000000 := Nat.mod_lt _ (by decide)
    have k4 := t_Itoa (q % 1000000000) (by omega)
    have e1 : IntKind.i64.wrap ((q % 1000000000 : Nat) : Int) = ((q % 1000000000 : Nat) : Int) := wrap_i64 (by omega) (by omega)
    have hsz := tN_size9 hr
    have hdw : W32 (digs (q / 1000000000) (wInts q).length) := digs_w32 _ _
    have hdv : valI (digs (q / 1000000000) (wInts q).length) (wInts (q / 1000000000)).length = ((q / 1000000000 : Nat) : Int) := by
      have h1 := valI_cut (digs (q / 1000000000) (wInts q).length) (wInts q).length
      rw [hcut, valI_digs, Nat.mod_eq_of_lt (Nat.lt_of_le_of_lt (Nat.div_le_self _ _) hqm)] at h1
      exact h1
    have hqv : q / 1000000000 * 1000000000 + q % 1000000000 = q := by have := Nat.div_add_mod q 1000000000; omega
    by_cases hq : 1000000000 ≤ q
    · have hv0 : 0 < q / 1000000000 := Nat.div_pos hq (by decide)
      have hs9 := sz_div9 hq
      have hsplit := dec_split 9 (q / 1000000000) (q % 1000000000) hv0 hr
      rw [show 10 ^ 9 = 1000000000 from rfl, hqv, ← pad_tN hr] at hsplit
      have hm2 := wInts_top (n := q / 1000000000) (by omega)
      have t2 : decide (((wInts (q / 1000000000)).length : Int) > 0) = true := decide_eq_true (by omega)
      have e2 : IntKind.i64.wrap (9 - ((tN (q % 1000000000)).size : Int)) = ((9 - (tN (q % 1000000000)).size : Nat) : Int) := by rw [wrap_i64 (by omega) (by omega)]; omega
      have k5 := t_Repeat (9 - (tN (q % 1000000000)).size) (by omega)
      have hrs : (⟨(List.replicate (9 - (tN (q % 1000000000)).size) 48).toArray⟩ : ByteArray).size = 9 - (tN (q % 1000000000)).size := by show (List.replicate _ _).toArray.size = _; simp
      have hob : (⟨(List.replicate (9 - (tN (q % 1000000000)).size) 48).toArray⟩ : ByteArray).size + (tN (q % 1000000000)).size ≤ 9223372036854775807 := by omega
      have hd2 : Lib.decDigits n = Lib.decDigits (q / 1000000000) ++ cat (ps ++ [(⟨(List.replicate (9 - (tN (q % 1000000000)).size) 48).toArray⟩ : ByteArray) ++ tN (q % 1000000000)]).reverse := by
        rw [hdec, hsplit, cat_snoc, List.append_assoc]
      clear hdec hsplit
      generalize (⟨(List.replicate (9 - (tN (q % 1000000000)).size) 48).toArray⟩ : ByteArray) = z9 at *
      have hpm : (ps.map sel).length = ps.length := List.length_map ..
      (repeat ((first | refine step_w1 rfl rfl ?_ | refine And.intro (by first | decide | omega | (simp only [tiB5, tiB23, tiB3, tiB2, tiB9, tiB41, tiB72, tiB29, tiB30, tiB39, tiB33, tiB4, tiB68, tiB70, dlen, List.length_replicate, List.length_set, List.length_map, List.length_zipWith, List.length_take, List.length_append, List.length_cons, List.length_nil]; omega)) ?_ | refine g_c (by assumption) ?_ | refine g_c1 (by assumption) rfl ?_ | refine g_c1n (by assumption) rfl rfl ?_ | rw [t1] | rw [e1] | rw [t2] | rw [e2]); conv => whnf))
      refine ⟨q / 1000000000, renBy [(41, 2002), (3002, 3001)], [3, 4], [41, 3002], by omega, by kernel_rfl, q / 1000000000, _, ps ++ [z9 ++ tN (q % 1000000000)], rfl, by rw [hdl]; exact hcle, by omega, hdw, hdv, .inl ⟨by omega, hd2, by rw [List.length_append, List.length_singleton]; omega⟩, by rw [List.length_append]; rfl, ?_⟩
      have e9 : sblk (ps ++ [z9 ++ tN (q % 1000000000)]) = ⟨9, true, .seq 1 (List.take ps.length (ps.map sel) ++ List.take 1 (List.drop 0 [SV.val (.string (z9 ++ tN (q % 1000000000)))]))⟩ := by
        rw [sblk, List.take_of_length_le (by omega), List.map_append]; rfl
      rw [e9]; rfl
    · have hv0 : q / 1000000000 = 0 := Nat.div_eq_of_lt (by omega)
      have t2 : decide (((wInts (q / 1000000000)).length : Int) > 0) = false := by rw [hv0]; rfl
      have hmod : q % 1000000000 = q := Nat.mod_eq_of_lt (by omega)
      have hd2 : Lib.decDigits n = cat (ps ++ [tN (q % 1000000000)]).reverse := by
        rw [hdec, cat_snoc, hmod, tN_eq]
      clear hdec
      have hpm : (ps.map sel).length = ps.length := List.length_map ..
      (repeat ((first | refine step_w1 rfl rfl ?_ | refine step_w2 rfl rfl ?_ | refine And.intro (by first | decide | omega | (simp only [tiB5, tiB23, tiB3, tiB2, tiB9, tiB41, tiB72, tiB29, tiB30, tiB39, tiB33, tiB4, tiB68, tiB70, dlen, List.length_replicate, List.length_set, List.length_map, List.length_zipWith, List.length_take, List.length_append, List.length_cons, List.length_nil]; omega)) ?_ | refine g_c (by assumption) ?_ | refine g_c1 (by assumption) rfl ?_ | refine g_c1n (by assumption) rfl rfl ?_ | rw [t1] | rw [e1] | rw [t2]); conv => whnf))
      refine ⟨q / 1000000000, renBy [(41, 2002), (3002, 3001)], [3, 4], [41, 3002], by omega, by kernel_rfl, q / 1000000000, _, ps ++ [tN (q % 1000000000)], rfl, by rw [hdl]; exact hcle, by omega, hdw, hdv, .inr ⟨hv0, hd2, by rw [List.length_append, List.length_singleton]; omega⟩, by rw [List.length_append]; rfl, ?_⟩
      have e9 : sblk (ps ++ [tN (q % 1000000000)]) = ⟨9, true, .seq 1 (List.take ps.length (ps.map sel) ++ List.take 1 (List.drop 0 [SV.val (.string (tN (q % 1000000000)))]))⟩ := by
        rw [sblk, List.take_of_length_le (by omega), List.map_append]; rfl
      rw [e9]; rfl
  · obtain rfl : q = 0 := by omega
    obtain ⟨_, hdec, _⟩ := hrel.resolve_left (fun h => h.1 rfl)
    have t1 : decide (((wInts 0).length : Int) > 0) = false := rfl
    have k2 := t_Reverse ps ps.length rfl (by omega) 2002
    have hdl : (Lib.decDigits n).length ≤ 140737488355328 := by
      exact Nat.le_trans (dec_len (sz n) n (sz_le.1 (Nat.le_refl _))) (by omega)
    have k3 := t_JoinM ps.reverse ps.length (by rw [List.length_reverse]) ⟨#[]⟩ (by rw [List.length_reverse]; omega) (by
      rw [show (⟨#[]⟩ : ByteArray).data.toList = [] from rfl, join_empty]
      show (cat ps.reverse).length ≤ _
      rw [← hdec]; exact hdl) 2002
    have e : (⟨(Lib.join (ps.reverse.map (·.data.toList)) (⟨#[]⟩ : ByteArray).data.toList).toArray⟩ : ByteArray) = tN n := by
      rw [show (⟨#[]⟩ : ByteArray).data.toList = [] from rfl, join_empty, tN_eq, hdec]; rfl
    rw [e] at k3
    (repeat (first | (refine step_w2 rfl rfl ?_; conv => whnf) | (refine g_c1 (by assumption) rfl ?_; conv => whnf) | (refine g_c1u (by assumption) rfl rfl ?_; conv => whnf))); (first | exact Recast.refl _ | exact Frz.recast (Recast.refl _) rfl | (refine Frz.one rfl rfl ?_; skip) | (refine Frz.tup ?_; skip))

theorem tN_sizeG (n : Nat) : (tN n).size ≤ sz n + 1 := by
  rw [tN_eq]
  show (Lib.decDigits n).toArray.size ≤ _
  simpa using dec_len (sz n) n (sz_le.1 (Nat.le_refl _))
theorem t_NatG (n : Nat) (hs : sz n ≤ 1073741824) : CallOK Tryz.prog 79 [.nat n] [] (.val (.string (tN n))) [] [] := by
  by_cases h : n < 18446744073709551616
  · have k1 := t_FormatG n h
    have e1 : low n = (n : Int) := low_small h
    have e2 : ((big n).toList == (ByteArray.mk #[]).toList) = true := by rw [big_eq]; exact decide_eq_true h
    refine callV (Z := []) tabOK mixedOK Tryz.func79 rfl (by kernel_rfl) rfl rfl (by kernel_rfl) rfl ?_
    intro W0 w0 ρ0 hE
    conv => whnf
    (repeat ((first | refine step_w1 rfl rfl ?_ | refine g_c (by assumption) ?_ | rw [e2] | rw [e1]); conv => whnf)); (first | exact Recast.refl _ | exact Frz.recast (Recast.refl _) rfl | (refine Frz.one rfl rfl ?_; skip) | (refine Frz.tup ?_; skip))
  · exact t_NatB n h hs
theorem t_IntG (z : Int) (h : sz z.natAbs ≤ 1073741824) : CallOK Tryz.prog 78 [.int z] [] (.val (.string (tZ z))) [] [] := by
  have k1 := t_NatG z.natAbs h
  have hs := tN_sizeG z.natAbs
  have h1 : (ByteArray.mk #[45]).size = 1 := rfl
  have h2 : (ByteArray.mk #[45]).size + (tN z.natAbs).size ≤ 9223372036854775807 := by omega
  unfold tZ
  refine callV (Z := []) tabOK mixedOK Tryz.func78 rfl (by kernel_rfl) rfl rfl (by kernel_rfl) rfl ?_
  intro W0 w0 ρ0 hE
  conv => whnf
  by_cases hz : z < 0
  · have t1 : decide (z < 0) = true := decide_eq_true hz
    rw [if_pos hz]
    (repeat ((first | refine step_w1 rfl rfl ?_ | refine And.intro (by first | decide | omega | (simp only [tiB5, tiB23, tiB3, tiB2, tiB9, tiB41, tiB72, tiB29, tiB30, tiB39, tiB33, tiB4, tiB68, tiB70, dlen, List.length_replicate, List.length_set, List.length_map, List.length_zipWith, List.length_take, List.length_append, List.length_cons, List.length_nil]; omega)) ?_ | refine g_c (by assumption) ?_ | rw [t1]); conv => whnf)); (first | exact Recast.refl _ | exact Frz.recast (Recast.refl _) rfl | (refine Frz.one rfl rfl ?_; skip) | (refine Frz.tup ?_; skip))
  · have t1 : decide (z < 0) = false := decide_eq_false hz
    rw [if_neg hz]
    (repeat (first | (refine step_w2 rfl rfl ?_; conv => whnf) | (refine g_c (by assumption) ?_; conv => whnf) | (rw [t1]; conv => whnf))); (first | exact Recast.refl _ | exact Frz.recast (Recast.refl _) rfl | (refine Frz.one rfl rfl ?_; skip) | (refine Frz.tup ?_; skip))
theorem tZ_sizeG (z : Int) : (tZ z).size ≤ sz z.natAbs + 2 := by
  have hs := tN_sizeG z.natAbs
  unfold tZ
  split
  · rw [ByteArray.size_append]; have : ("-".toUTF8).size = 1 := rfl; omega
  · omega
theorem t_FracG (q : Rat) (h : fs q ≤ 1073741824) : CallOK Tryz.prog 44 [.frac q] [] (.val (.string (tQ q))) [] [] := by
  have n1 := fsz_num q
  have n2 := fsz_den q
  unfold fs at h
  have kw := c_Whole q
  have k1 := t_IntG q.num (by omega)
  have k2 := t_NatG q.den (by omega)
  have k3 := c_den natBig q (by omega)
  have hs := tZ_sizeG q.num
  have hs2 := tN_sizeG q.den
  have h1 : (ByteArray.mk #[47]).size = 1 := rfl
  have h2 : (tZ q.num).size + (ByteArray.mk #[47]).size ≤ 9223372036854775807 := by omega
  have h3 : (tZ q.num ++ (ByteArray.mk #[47])).size + (tN q.den).size ≤ 9223372036854775807 := by rw [ByteArray.size_append]; omega
  unfold tQ
  refine callV (Z := []) tabOK mixedOK Tryz.func44 rfl (by kernel_rfl) rfl rfl (by kernel_rfl) rfl ?_
  intro W0 w0 ρ0 hE
  conv => whnf
  by_cases hd : q.den = 1
  · rw [decide_eq_true hd] at kw
    rw [if_pos hd]
    (repeat (first | (refine step_w1 rfl rfl ?_; conv => whnf) | (refine g_c (by assumption) ?_; conv => whnf))); (first | exact Recast.refl _ | exact Frz.recast (Recast.refl _) rfl | (refine Frz.one rfl rfl ?_; skip) | (refine Frz.tup ?_; skip))
  · rw [decide_eq_false hd] at kw
    rw [if_neg hd]
    (repeat ((first | refine step_w2 rfl rfl ?_ | refine step_i (by kernel_rfl) ?_ | refine And.intro (by first | decide | omega | (simp only [tiB5, tiB23, tiB3, tiB2, tiB9, tiB41, tiB72, tiB29, tiB30, tiB39, tiB33, tiB4, tiB68, tiB70, dlen, List.length_replicate, List.length_set, List.length_map, List.length_zipWith, List.length_take, List.length_append, List.length_cons, List.length_nil]; omega)) ?_ | refine g_c (by assumption) ?_); conv => whnf)); (first | exact Recast.refl _ | exact Frz.recast (Recast.refl _) rfl | (refine Frz.one rfl rfl ?_; skip) | (refine Frz.tup ?_; skip))
theorem tQ_size (q : Rat) : (tQ q).size ≤ fs q + fs q + 4 := by
  have n1 := fsz_num q
  have n2 := fsz_den q
  have hs := tZ_sizeG q.num
  have hs2 := tN_sizeG q.den
  unfold fs
  unfold tQ
  split
  · omega
  · rw [ByteArray.size_append, ByteArray.size_append]; have : ("/".toUTF8).size = 1 := rfl; omega
/-- The text of some fractions, with blanks. -/
theorem join_size : ∀ (l : List (List UInt8)) (B : Nat), (∀ x ∈ l, x.length ≤ B) → (Lib.join l [32]).length ≤ l.length * (B + 1)
  | [], B, _ => by simp [Lib.join_nil]
  | [x], B, h => by rw [Lib.join_one]; have := h x (List.mem_cons_self ..); simp; omega
  | x :: y :: l, B, h => by
    have ih := join_size (y :: l) B (fun z hz => h z (List.mem_cons_of_mem _ hz))
    have hx := h x (List.mem_cons_self ..)
    have e : Lib.join (x :: y :: l) [32] = x ++ [32] ++ Lib.join (y :: l) [32] := by rw [Lib.join_cons, Lib.join_cons]; simp [Lib.joinTail]
    rw [e]
    simp only [List.length_append, List.length_cons, List.length_nil] at *
    rw [Nat.succ_mul (l.length + 1)]
    omega
theorem tV_join {a : List Rat} {B : Nat} (hl : a.length ≤ 2048) (h : ∀ i, i < a.length → fs (a.getD i 0) ≤ B) (hB : B ≤ 1000000000) : (Lib.join ((a.map tQ).map (·.data.toList)) [32]).length ≤ 140737488355328 := by
  refine Nat.le_trans (join_size _ (2 * B + 4) ?_) ?_
  · intro x hx
    obtain ⟨s, hs, rfl⟩ := List.mem_map.1 hx
    obtain ⟨q, hq, rfl⟩ := List.mem_map.1 hs
    obtain ⟨i, hi, rfl⟩ := mem_getD hq 0
    have h1 := tQ_size (a.getD i 0)
    have h2 := h i hi
    show (tQ (a.getD i 0)).data.toList.length ≤ _
    have : (tQ (a.getD i 0)).data.toList.length = (tQ (a.getD i 0)).size := Array.length_toList
    omega
  · rw [List.length_map, List.length_map]
    have : a.length * (2 * B + 4 + 1) ≤ 2048 * (2 * B + 4 + 1) := Nat.mul_le_mul_right _ hl
    omega
theorem t_VecG (a : List Rat) (B : Nat) (hl : a.length ≤ 2048) (h : ∀ i, i < a.length → fs (a.getD i 0) ≤ B) (hB : B ≤ 1000000000) : CallOK Tryz.prog 52 [fvec a] [] (.val (.string (tV a))) [] [] := by
  have hJ := tV_join hl h hB
  have hz : ((a.map tQ).map sel).length = a.length := by simp
  have hget : ∀ i, i < a.length → ((a.map tQ).map sel).getD i .any = .val (.string (tQ (a.getD i 0))) := fun i hi => by rw [map_get (d := ByteArray.empty) (by simpa using hi), map_get (d := 0) hi]; rfl
  have kj := t_Join (a.map tQ) (by simp; omega) hJ
  refine callF (Z := []) tabOK mixedOK Tryz.func52 rfl (by kernel_rfl) (by first | rfl | (simp [keylessL, keyless, keylessL_map, *]; done)) (by first | rfl | (simp [keylessL, keyless, keylessL_map, *]; done)) (by kernel_rfl) rfl ?_
  intro w0 ρ0 hE
  conv => whnf
  (repeat (first | (refine And.intro (by first | decide | omega | (simp only [tiB5, tiB23, tiB3, tiB2, tiB9, tiB41, tiB72, tiB29, tiB30, tiB39, tiB33, tiB4, tiB68, tiB70, dlen, List.length_replicate, List.length_set, List.length_map, List.length_zipWith, List.length_take, List.length_append, List.length_cons, List.length_nil]; omega)) ?_; conv => whnf) | (refine g_o (op_lenM rfl rfl rfl (ev_ok rfl) (tgt rfl) rfl) ?_; conv => whnf) | (rw [Int.toNat_natCast]; conv => whnf)))
  refine SW_loopS hE (fun k => k) [0, 2, 3, 9, 10, 11] [8] (fun m fr hp => ∃ i, m = a.length - i ∧ i ≤ a.length ∧ fr = [(0, fvec a), (2, .val (.string ⟨#[]⟩)), (3, .slc 8 1 0 a.length), (9, fvec a), (10, .val (.int .i64 (a.length : Nat))), (11, .val (.int .i64 (i : Nat)))] ∧
    hp = [(8, ⟨9, true, .seq 1 (((a.map tQ).map sel).take i ++ List.replicate (a.length - i) (.val (.string .empty)))⟩)]) a.length ?_ ?_ ?_
  · kernel_rfl
  · exact ⟨0, rfl, Nat.zero_le _, rfl, rfl⟩
  rintro m _ _ ⟨i, rfl, hi, rfl, rfl⟩
  have hlen := fill_len (d := SV.val (.string .empty)) hi hz
  by_cases hlt : i < a.length
  · have t1 := dlt hlt
    have t2 := winc (i := i) (by omega)
    have k1 := t_FracG (a.getD i 0) (Nat.le_trans (h i hlt) (by omega))
    refine SWx.of hE ?_
    conv => whnf
    have e3 := fill_get (d := SV.val (.string .empty)) (e := SV.any) hlt hz
    (repeat ((first | refine step_w1 rfl rfl ?_ | refine And.intro (by first | decide | omega | (simp only [tiB5, tiB23, tiB3, tiB2, tiB9, tiB41, tiB72, tiB29, tiB30, tiB39, tiB33, tiB4, tiB68, tiB70, dlen, List.length_replicate, List.length_set, List.length_map, List.length_zipWith, List.length_take, List.length_append, List.length_cons, List.length_nil]; omega)) ?_ | refine g_c (by assumption) ?_ | refine g_o (op_indexN (α := Rat) (d := 0) rfl (ev_ok rfl) (ev_ok rfl) (tgt rfl) rfl (tgt rfl) rfl (by omega)) ?_ | refine g_o (op_loadA rfl (ev_ok rfl) (tgt rfl) rfl (Nat.succ_ne_zero _) rfl) ?_ | rw [t1] | rw [e3] | rw [t2] | rw [Int.toNat_natCast] | rw [Nat.zero_add]); conv => whnf))
    refine ⟨a.length - (i + 1), fun k => k, [0, 2, 3, 9, 10, 11], [8], by omega, by kernel_rfl, i + 1, rfl, hlt, rfl, ?_⟩
    rw [← fill_set (e := .any) hlt hz, hget i hlt]
    rfl
  · have t1 := dge hlt
    have hI : i = a.length := by omega
    subst hI
    rw [fill_all hz]
    refine SWx_freezeM 3 8 (fun _ h => h) (fun _ => rfl) rfl rfl (by simp) ?_
    refine SWx.of hE ?_
    conv => whnf
    have h91 : (ByteArray.mk #[91]).size = 1 := rfl
    have h93 : (ByteArray.mk #[93]).size = 1 := rfl
    have hjs : (ByteArray.mk (Lib.join ((a.map tQ).map (·.data.toList)) [32]).toArray).size = (Lib.join ((a.map tQ).map (·.data.toList)) [32]).length := by show (Lib.join ((a.map tQ).map (·.data.toList)) [32]).toArray.size = _; simp
    have o1 : (ByteArray.mk #[91]).size + (ByteArray.mk (Lib.join ((a.map tQ).map (·.data.toList)) [32]).toArray).size ≤ 9223372036854775807 := by omega
    have o2 : (ByteArray.mk #[91] ++ ByteArray.mk (Lib.join ((a.map tQ).map (·.data.toList)) [32]).toArray).size + (ByteArray.mk #[93]).size ≤ 9223372036854775807 := by rw [ByteArray.size_append]; omega
    (repeat ((first | refine step_w2 rfl rfl ?_ | refine And.intro (by first | decide | omega | (simp only [tiB5, tiB23, tiB3, tiB2, tiB9, tiB41, tiB72, tiB29, tiB30, tiB39, tiB33, tiB4, tiB68, tiB70, dlen, List.length_replicate, List.length_set, List.length_map, List.length_zipWith, List.length_take, List.length_append, List.length_cons, List.length_nil]; omega)) ?_ | refine g_c (by assumption) ?_ | rw [t1]); conv => whnf)); (first | exact Recast.refl _ | exact Frz.recast (Recast.refl _) rfl | (refine Frz.one rfl rfl ?_; skip) | (refine Frz.tup ?_; skip))
end Go.Proofs.YtgodfkgocbppgaaGreatDoor

namespace Go.Proofs.YtgodfkgocbppgaaGreatDoor
open Go.Sx
set_option linter.unusedSimpArgs false
set_option linter.unusedVariables false
set_option maxRecDepth 100000
set_option maxHeartbeats 4000000

/-- string(byte): a digit. -/
theorem op_digit {P : Program} {o : Oper} {fr : List (Nat × SV)} {fk : List (Nat × Blk)} {src dst : TypeId} {x : Operand} {ti td : TI} {kd kd' : IntKind} {d : Nat} (ho : o.op = .convert src dst x) (hx : EvOK fr x (.val (.int kd (d : Nat)))) (hd : d < 128)
    (ht : TOK P src ti) (hk : ti.kind = .int kd') (htd : TOK P dst td) (hkd : td.kind = .str) : OpOK P o fr fk (.val (.string ⟨#[UInt8.ofNat d]⟩)) [] [] :=
  ok_pure fun ρ a w hp => by
    have hv := of_has_val (hx ρ a hp.hft)
    have hu := ht.kind; rw [hk] at hu
    have hud := htd.kind; rw [hkd] at hud
    refine ⟨_, ?_, has_val rfl⟩
    have e : Utf8.encode (d : Int) = ⟨#[UInt8.ofNat d]⟩ := by
      exact (show ∀ d, d < 128 → Utf8.encode ((d : Nat) : Int) = ⟨#[UInt8.ofNat d]⟩ by decide +kernel) d hd
    simp only [execOp, ho, hv, convert, Sem.run_bind, run_underlying hu, run_underlying hud, Result.andThen_ok, Conv.intToString, Sem.run_pure, e]

theorem pad_front : ∀ e n, padF (e + 1) (n % 10 ^ (e + 1)) = UInt8.ofNat (48 + n / 10 ^ e % 10) :: padF e (n % 10 ^ e)
  | 0, n => by simp [padF]
  | e + 1, n => by
    have h1 : n % 10 ^ (e + 2) / 10 = n / 10 % 10 ^ (e + 1) := by rw [Nat.pow_succ 10 (e + 1), Nat.mul_comm, Nat.mod_mul_right_div_self]
    have h2 : n % 10 ^ (e + 1) / 10 = n / 10 % 10 ^ e := by rw [Nat.pow_succ, Nat.mul_comm, Nat.mod_mul_right_div_self]
    have h3 : n % 10 ^ (e + 2) % 10 = n % 10 := Nat.mod_mod_of_dvd _ (Nat.dvd_trans (by exact ⟨1, rfl⟩) (Nat.dvd_trans (show 10 ∣ 10 ^ 1 from ⟨1, rfl⟩) (Nat.pow_dvd_pow 10 (by omega))))
    have h4 : n % 10 ^ (e + 1) % 10 = n % 10 := Nat.mod_mod_of_dvd _ (Nat.dvd_trans (show 10 ∣ 10 ^ 1 from ⟨1, rfl⟩) (Nat.pow_dvd_pow 10 (by omega)))
    rw [padF, h1, h3, pad_front e (n / 10), padF, h2, h4, Nat.div_div_eq_div_mul, ← Nat.pow_succ']
    rfl
/-- All digits, when the first is not zero. -/
theorem pad_full : ∀ e n, n < 10 ^ (e + 1) → (e = 0 ∨ 10 ^ e ≤ n) → padF (e + 1) n = Lib.decDigits n
  | 0, n, h, _ => by
    have h : n < 10 := by simpa using h
    rw [padF, dec_lt h, show n % 10 = n by omega]; rfl
  | e + 1, n, h, h' => by
    have h2 : 10 ^ (e + 1) ≤ n := h'.resolve_left (by omega)
    have h10 : 10 ≤ n := Nat.le_trans (Nat.le_trans (by decide) (Nat.pow_le_pow_right (n := 10) (by decide) (show 1 ≤ e + 1 by omega))) h2
    rw [Nat.pow_succ] at h
    rw [padF, dec_big h10, pad_full e (n / 10) (by omega) (by
      rw [Nat.pow_succ] at h2
      exact .inr (by omega))]
theorem bytes_cons (c : UInt8) (l : List UInt8) : (⟨#[c]⟩ : ByteArray) ++ ⟨l.toArray⟩ = ⟨(c :: l).toArray⟩ := by
  apply ByteArray.ext
  rw [ByteArray.data_append]
  apply Array.ext'
  simp

abbrev dS (l : List UInt8) : SV := .val (.string ⟨l.toArray⟩)
theorem padF_len : ∀ k r, (padF k r).length = k
  | 0, _ => rfl
  | k + 1, r => by rw [padF, List.length_append, padF_len k]; rfl
theorem r_Text (n : Nat) (hn : (td n).length < 268435456) : CallOK Tryz.prog 81 [nN n] [] (.val (.string (tN n))) [] [] := by
  rw [tN_eq]
  by_cases h0 : n = 0
  · subst h0
    have t1 : (((td 0).length : Int) == 0) = true := rfl
    have e : (⟨(Lib.decDigits 0).toArray⟩ : ByteArray) = ⟨#[48]⟩ := by rw [dec_lt (by decide)]; rfl
    rw [e]
    refine callV (Z := []) tabOK mixedOK Tryz.func81 rfl (by kernel_rfl) rfl rfl (by kernel_rfl) rfl ?_
    intro W0 w0 ρ0 hE
    conv => whnf
    (repeat (first | (refine step_w1 rfl rfl ?_; conv => whnf) | (refine g_o (op_lenM rfl rfl rfl (ev_ok rfl) (tgt rfl) rfl) ?_; conv => whnf))); (first | exact Recast.refl _ | exact Frz.recast (Recast.refl _) rfl | (refine Frz.one rfl rfl ?_; skip) | (refine Frz.tup ?_; skip))
  have hl0 := td_len_zero (n := n)
  have t1 : (((td n).length : Int) == 0) = false := beq_false_of_ne (by omega)
  have htop := td_ge_pow h0
  have hnlt := tlt_len n
  have p10 : ∀ i, (10000 : Nat) ^ i = 10 ^ (4 * i) := fun i => by rw [Nat.pow_mul]
  refine callV (Z := []) tabOK mixedOK Tryz.func81 rfl (by kernel_rfl) rfl rfl (by kernel_rfl) rfl ?_
  intro W0 w0 ρ0 hE
  conv => whnf
  (repeat (first | (refine step_w2 rfl rfl ?_; conv => whnf) | (refine g_o (op_lenM rfl rfl rfl (ev_ok rfl) (tgt rfl) rfl) ?_; conv => whnf) | (rw [t1]; conv => whnf)))
  refine SW_loopN hE (fun k => k) [0, 3, 4] [] (fun q fr hp => ∃ (i : Nat) (l : List UInt8), q = (td n).length - i ∧ i ≤ (td n).length ∧ l.length ≤ 4 * i ∧ (i < (td n).length → l = padF (4 * i) (n % 10 ^ (4 * i))) ∧ (i = (td n).length → l = Lib.decDigits n) ∧
    fr = [(0, nN n), (3, dS l), (4, .val (.int .i64 (i : Nat)))] ∧ hp = []) (td n).length ?_ ?_ ?_
  · kernel_rfl
  · exact ⟨0, [], rfl, Nat.zero_le _, by simp, (fun _ => rfl), (fun h => by omega), rfl, rfl⟩
  rintro q _ _ ⟨i, l, rfl, hi, hll, hl1, hl2, rfl, rfl⟩
  conv => whnf
  by_cases hlt : i < (td n).length
  · have t2 : decide ((i : Int) < ((td n).length : Int)) = true := decide_eq_true (by omega)
    have e1 := winc (i := i) (by omega)
    obtain rfl := hl1 hlt
    clear hl1 hl2 hll
    have hg := td_get n i
    have hd : n / 10000 ^ i % 10000 = n / 10 ^ (4 * i) % 10 ^ 4 := by rw [p10]
    have hlast : i + 1 = (td n).length → n / 10 ^ (4 * i) < 10 ^ 4 ∧ 0 < n / 10 ^ (4 * i) := fun h => by
      rw [← p10]
      constructor
      · rw [Nat.div_lt_iff_lt_mul (Nat.pow_pos (by decide)), show (10 : Nat) ^ 4 = 10000 ^ 1 from rfl, ← Nat.pow_add, Nat.add_comm, h]; exact hnlt
      · exact Nat.div_pos (by rw [← h, Nat.add_sub_cancel] at htop; exact htop) (Nat.pow_pos (by decide))
    (repeat ((first | refine step_w1 rfl rfl ?_ | refine g_o (op_lenM rfl rfl rfl (ev_ok rfl) (tgt rfl) rfl) ?_ | refine g_o (op_loadA rfl (ev_ok rfl) (tgt rfl) rfl (Nat.succ_ne_zero _) rfl) ?_ | refine g_o (op_indexN (α := Int) (d := 0) rfl (ev_ok rfl) (ev_ok rfl) (tgt rfl) rfl (tgt rfl) rfl (by omega)) ?_ | rw [t2] | rw [hg]); conv => whnf))
    refine SW_loopN hE (fun k => k) [0, 3, 4, 5, 6] [] (fun q fr hp => ∃ k : Nat, q = 4 - k ∧ k ≤ 4 ∧ (i + 1 = (td n).length → k = 0 ∨ 0 < n / 10 ^ (4 * i + (k - 1))) ∧
      fr = [(0, nN n), (3, dS (padF (4 * i + k) (n % 10 ^ (4 * i + k)))), (4, .val (.int .i64 (i : Nat))), (5, .val (.int .i64 ((n / 10 ^ (4 * i) % 10 ^ 4 / 10 ^ k : Nat) : Int))), (6, .val (.int .i64 (k : Nat)))] ∧ hp = []) 4 ?_ ?_ ?_
    · kernel_rfl
    · exact ⟨0, rfl, Nat.zero_le _, (fun _ => .inl rfl), by rw [Nat.add_zero, Nat.pow_zero, Nat.div_one, ← hd]; rfl, rfl⟩
    rintro q _ _ ⟨k, rfl, hk, hkl, rfl, rfl⟩
    have hlen := padF_len (4 * i + k) (n % 10 ^ (4 * i + k))
    have hdv : n / 10 ^ (4 * i) % 10 ^ 4 / 10 ^ k < 10000 := Nat.lt_of_le_of_lt (Nat.div_le_self _ _) (Nat.mod_lt _ (by decide))
    have hnext : n / 10 ^ (4 * i) % 10 ^ 4 / 10 ^ k / 10 = n / 10 ^ (4 * i) % 10 ^ 4 / 10 ^ (k + 1) := by rw [Nat.div_div_eq_div_mul, ← Nat.pow_succ]
    have hdig : k < 4 → n / 10 ^ (4 * i) % 10 ^ 4 / 10 ^ k % 10 = n / 10 ^ (4 * i + k) % 10 := fun h => by
      have e4 : (10 : Nat) ^ 4 = 10 ^ k * 10 ^ (4 - k) := by rw [← Nat.pow_add]; congr 1; omega
      rw [e4, Nat.mod_mul_right_div_self, Nat.div_div_eq_div_mul, ← Nat.pow_add]
      refine Nat.mod_mod_of_dvd _ ?_
      exact Nat.dvd_trans (show 10 ∣ 10 ^ 1 from ⟨1, rfl⟩) (Nat.pow_dvd_pow 10 (by omega))
    have hlz : i + 1 = (td n).length → n / 10 ^ (4 * i) % 10 ^ 4 / 10 ^ k = n / 10 ^ (4 * i + k) := fun h => by
      rw [Nat.mod_eq_of_lt (hlast h).1, Nat.div_div_eq_div_mul, ← Nat.pow_add]
    have hfront := pad_front (4 * i + k) n
    conv => whnf
    generalize hD : n / 10 ^ (4 * i) % 10 ^ 4 / 10 ^ k = D at *
    by_cases hk4 : k < 4
    · have t3 : decide ((k : Int) < 4) = true := decide_eq_true (by omega)
      have e2 := winc (i := k) (by omega)
      have hgoes : (i + 1 < (td n).length ∨ 0 < D) → True := fun _ => trivial
      have e3 : (D : Int).tmod 10 = ((D % 10 : Nat) : Int) := by rw [Int.tmod_eq_emod_of_nonneg (by omega)]; rfl
      have e4 : IntKind.i64.wrap (48 + ((D % 10 : Nat) : Int)) = ((48 + D % 10 : Nat) : Int) := by rw [wrap_i64 (by omega) (by omega)]; omega
      have e5 : IntKind.u8.wrap ((48 + D % 10 : Nat) : Int) = ((48 + D % 10 : Nat) : Int) := by rw [IntKind.wrap_u8]; omega
      have e6 : IntKind.i64.wrap ((D : Int).tdiv 10) = ((D / 10 : Nat) : Int) := by rw [Int.tdiv_eq_ediv_of_nonneg (by omega)]; exact wrap_i64 (by omega) (by omega)
      have e7 : (D : Int).tdiv 10 = ((D / 10 : Nat) : Int) := by rw [Int.tdiv_eq_ediv_of_nonneg (by omega)]; rfl
      have hob : (⟨#[UInt8.ofNat (48 + D % 10)]⟩ : ByteArray).size + (⟨(padF (4 * i + k) (n % 10 ^ (4 * i + k))).toArray⟩ : ByteArray).size ≤ 9223372036854775807 := by
        have h1 : (⟨(padF (4 * i + k) (n % 10 ^ (4 * i + k))).toArray⟩ : ByteArray).size = 4 * i + k := by show (padF _ _).toArray.size = _; rw [List.size_toArray, hlen]
        have h2 : (⟨#[UInt8.ofNat (48 + D % 10)]⟩ : ByteArray).size = 1 := rfl
        omega
      have hbc := bytes_cons (UInt8.ofNat (48 + D % 10)) (padF (4 * i + k) (n % 10 ^ (4 * i + k)))
      rw [hdig hk4] at hbc
      rw [← hfront] at hbc
      rw [← hdig hk4] at hbc
      by_cases hm : i + 1 < (td n).length
      · have t4 : decide (((i + 1 : Nat) : Int) < ((td n).length : Int)) = true := decide_eq_true (by omega)
        (repeat ((first | refine step_w1 rfl rfl ?_ | refine step_w2 rfl rfl ?_ | refine step_oM (by first | omega | decide | (simp only [tiB5, tiB23, tiB3, tiB2, tiB9, tiB41, tiB72, tiB29, tiB30, tiB39, tiB33, tiB4, tiB68, tiB70, dlen, List.length_replicate, List.length_set, List.length_map, List.length_zipWith, List.length_take, List.length_append, List.length_cons, List.length_nil]; omega)) ?_ | refine step_oN (by first | omega | decide | (simp only [tiB5, tiB23, tiB3, tiB2, tiB9, tiB41, tiB72, tiB29, tiB30, tiB39, tiB33, tiB4, tiB68, tiB70, dlen, List.length_replicate, List.length_set, List.length_map, List.length_zipWith, List.length_take, List.length_append, List.length_cons, List.length_nil]; omega)) ?_ | refine g_o (op_pickT rfl (ev_ok rfl) (ev_ok rfl)) ?_ | refine g_o (op_lenM rfl rfl rfl (ev_ok rfl) (tgt rfl) rfl) ?_ | refine ⟨_, [], [], op_digit rfl (ev_ok rfl) (by omega) (tabOK.get (t := 5) rfl) rfl (tabOK.get (t := 9) rfl) rfl, nil_fk, nil_new, ?_⟩ | rw [t3] | rw [e1] | rw [t4] | rw [e3] | rw [e4] | rw [e5] | rw [e6] | rw [hbc] | rw [e2]); conv => whnf))
        exact ⟨4 - (k + 1), fun k => k, [0, 3, 4, 5, 6], [], by omega, by kernel_rfl, k + 1, rfl, by omega, (fun h => by omega), by rw [← hnext]; rfl, rfl⟩
      · have t4 : decide (((i + 1 : Nat) : Int) < ((td n).length : Int)) = false := decide_eq_false (by omega)
        by_cases hd0 : 0 < D
        · have t5 : decide ((D : Int) > 0) = true := decide_eq_true (by omega)
          have hpos : 0 < n / 10 ^ (4 * i + (k + 1 - 1)) := by rw [Nat.add_sub_cancel, ← hlz (by omega)]; exact hd0
          (repeat ((first | refine step_w1 rfl rfl ?_ | refine step_oM (by first | omega | decide | (simp only [tiB5, tiB23, tiB3, tiB2, tiB9, tiB41, tiB72, tiB29, tiB30, tiB39, tiB33, tiB4, tiB68, tiB70, dlen, List.length_replicate, List.length_set, List.length_map, List.length_zipWith, List.length_take, List.length_append, List.length_cons, List.length_nil]; omega)) ?_ | refine step_oN (by first | omega | decide | (simp only [tiB5, tiB23, tiB3, tiB2, tiB9, tiB41, tiB72, tiB29, tiB30, tiB39, tiB33, tiB4, tiB68, tiB70, dlen, List.length_replicate, List.length_set, List.length_map, List.length_zipWith, List.length_take, List.length_append, List.length_cons, List.length_nil]; omega)) ?_ | refine g_o (op_pickT rfl (ev_ok rfl) (ev_ok rfl)) ?_ | refine g_o (op_pickF rfl (ev_ok rfl) (ev_ok rfl)) ?_ | refine g_o (op_lenM rfl rfl rfl (ev_ok rfl) (tgt rfl) rfl) ?_ | refine ⟨_, [], [], op_digit rfl (ev_ok rfl) (by omega) (tabOK.get (t := 5) rfl) rfl (tabOK.get (t := 9) rfl) rfl, nil_fk, nil_new, ?_⟩ | rw [t3] | rw [e1] | rw [t4] | rw [t5] | rw [e3] | rw [e4] | rw [e5] | rw [e6] | rw [hbc] | rw [e2]); conv => whnf))
          exact ⟨4 - (k + 1), fun k => k, [0, 3, 4, 5, 6], [], by omega, by kernel_rfl, k + 1, rfl, by omega, (fun _ => .inr hpos), by rw [← hnext]; rfl, rfl⟩
        · have t5 : decide ((D : Int) > 0) = false := decide_eq_false (by omega)
          have hz := hlz (by omega)
          have hfull : padF (4 * i + k) (n % 10 ^ (4 * i + k)) = Lib.decDigits n := by
            have hlt10 : n < 10 ^ (4 * i + k) := by
              rcases Nat.lt_or_ge n (10 ^ (4 * i + k)) with g | g
              · exact g
              · have := Nat.div_pos g (Nat.pow_pos (n := 4 * i + k) (by decide)); omega
            rcases hkl (by omega) with g | g
            · subst g
              have := (hlast (by omega)).2
              rw [Nat.add_zero] at hz; omega
            · obtain ⟨k, rfl⟩ : ∃ j, k = j + 1 := by
                rcases Nat.eq_zero_or_pos k with g2 | g2
                · subst g2; have := (hlast (by omega)).2; rw [Nat.add_zero] at hz; omega
                · exact ⟨k - 1, by omega⟩
              rw [Nat.mod_eq_of_lt hlt10]
              refine pad_full (4 * i + k) n hlt10 (.inr ?_)
              rcases Nat.lt_or_ge n (10 ^ (4 * i + k)) with g3 | g3
              · rw [Nat.add_sub_cancel, Nat.div_eq_of_lt g3] at g; omega
              · exact g3
          (repeat ((first | refine step_w1 rfl rfl ?_ | refine step_w2 rfl rfl ?_ | refine g_o (op_pickT rfl (ev_ok rfl) (ev_ok rfl)) ?_ | refine g_o (op_pickF rfl (ev_ok rfl) (ev_ok rfl)) ?_ | refine g_o (op_lenM rfl rfl rfl (ev_ok rfl) (tgt rfl) rfl) ?_ | rw [t3] | rw [e1] | rw [t4] | rw [t5]); conv => whnf))
          exact ⟨(td n).length - (i + 1), fun k => k, [0, 3, 4], [], by omega, by kernel_rfl, i + 1, _, rfl, by omega, by rw [padF_len]; omega, (fun h => by omega), (fun _ => hfull), rfl, rfl⟩
    · obtain rfl : k = 4 := by omega
      have t3 : decide (((4 : Nat) : Int) < 4) = false := rfl
      have hfull : i + 1 = (td n).length → padF (4 * i + 4) (n % 10 ^ (4 * i + 4)) = Lib.decDigits n := fun h => by
        have h1 := (hlast h).1
        rw [Nat.div_lt_iff_lt_mul (Nat.pow_pos (by decide)), ← Nat.pow_add, Nat.add_comm] at h1
        have g := (hkl h).resolve_left (by decide)
        rw [Nat.mod_eq_of_lt h1]
        refine pad_full (4 * i + 3) n h1 (.inr ?_)
        rcases Nat.lt_or_ge n (10 ^ (4 * i + 3)) with g3 | g3
        · rw [show 4 - 1 = 3 from rfl, Nat.div_eq_of_lt g3] at g; omega
        · exact g3
      (repeat ((first | refine step_w2 rfl rfl ?_ | refine g_o (op_pickF rfl (ev_ok rfl) (ev_ok rfl)) ?_ | rw [t3] | rw [e1]); conv => whnf))
      exact ⟨(td n).length - (i + 1), fun k => k, [0, 3, 4], [], by omega, by kernel_rfl, i + 1, _, rfl, by omega, by rw [padF_len]; omega, (fun h => rfl), hfull, rfl, rfl⟩
  · obtain rfl : i = (td n).length := by omega
    have t2 : decide (((td n).length : Int) < ((td n).length : Int)) = false := decide_eq_false (by omega)
    obtain rfl := hl2 rfl
    (repeat (first | (refine step_w2 rfl rfl ?_; conv => whnf) | (refine g_o (op_lenM rfl rfl rfl (ev_ok rfl) (tgt rfl) rfl) ?_; conv => whnf) | (rw [t2]; conv => whnf))); (first | exact Recast.refl _ | exact Frz.recast (Recast.refl _) rfl | (refine Frz.one rfl rfl ?_; skip) | (refine Frz.tup ?_; skip))
end Go.Proofs.YtgodfkgocbppgaaGreatDoor

namespace Go.Proofs.YtgodfkgocbppgaaGreatDoor
open Go.Sx
set_option linter.unusedSimpArgs false
set_option linter.unusedVariables false

section
variable (x y : Nat → Rat)
end

end Go.Proofs.YtgodfkgocbppgaaGreatDoor

namespace Go.Proofs.YtgodfkgocbppgaaGreatDoor
open Go.Sx
set_option linter.unusedSimpArgs false
set_option linter.unusedVariables false
set_option maxRecDepth 100000
set_option maxHeartbeats 4000000

/-- Vectors that are refused. -/
theorem v_eachE (a b : List Rat) (g : FuncId) (ha : a.length < 1099511627776) (hb : b.length < 1099511627776) (h : alikeF [a, b] ≠ 0) : CallOK Tryz.prog 70 [fvec a, fvec b, .clo g [] []] [] (.tup [fvec [], .val (.int .i64 (alikeF [a, b]))]) [] [] := by
  have k1 := v_alike [a, b] (by simp) (by simp; omega)
  have t1 : (alikeF [a, b] != 0) = true := bne_iff_ne.2 h
  refine callF (Z := [13]) tabOK mixedOK Tryz.func70 rfl (by kernel_rfl) (by first | rfl | (simp [keylessL, keyless, keylessL_map, *]; done)) (by first | rfl | (simp [keylessL, keyless, keylessL_map, *]; done)) (by kernel_rfl) rfl ?_
  intro w0 ρ0 hE
  conv => whnf
  (repeat (first | (refine step_w1 rfl rfl ?_; conv => whnf) | (refine g_c (by assumption) ?_; conv => whnf) | (rw [t1]; conv => whnf))); (first | exact Recast.refl _ | exact Frz.recast (Recast.refl _) rfl | (refine Frz.one rfl rfl ?_; skip) | (refine Frz.tup ?_; (repeat (first | exact FrzC.keyless rfl | exact FrzL.nil | refine FrzL.cons ?_ ?_ | exact FrzC.nilS))))
theorem v_AddE (a b : List Rat) (ha : a.length < 1099511627776) (hb : b.length < 1099511627776) (h : alikeF [a, b] ≠ 0) : CallOK Tryz.prog 35 [fvec a, fvec b] [] (.tup [fvec [], .val (.int .i64 (alikeF [a, b]))]) [] [] := by
  have k1 := v_eachE a b 31 ha hb h
  refine callV (Z := []) tabOK mixedOK Tryz.func35 rfl (by kernel_rfl) rfl rfl (by kernel_rfl) rfl ?_
  intro W0 w0 ρ0 hE
  conv => whnf
  (repeat (first | (refine g_c (by assumption) ?_; conv => whnf))); (first | exact Recast.refl _ | exact Frz.recast (Recast.refl _) rfl | (refine Frz.one rfl rfl ?_; skip) | (refine Frz.tup ?_; skip))

abbrev h12 : Rat := ((1 : Int) : Rat) / ((2 : Int) : Rat)
theorem l_works : CallOK Tryz.prog 12 [] [] (.val (.bool true)) [] [] := by
  have k1 := c_fOf natBig 1 2 (by decide +kernel) (by decide) (by decide) (by decide) (by decide) (by decide)
  have o1 := v_Of [1, -2] (by decide) (by decide)
  have o2 := v_Of [0, 3] (by decide) (by decide)
  have o3 := v_Of [1, 2, 3] (by decide) (by decide)
  have o4 := v_Of [4, 5, 6] (by decide) (by decide)
  have o5 := v_Of [2, 3] (by decide) (by decide)
  have o6 := v_Of [1, 0] (by decide) (by decide)
  have o7 := v_Of [0, 1] (by decide) (by decide)
  have o8 := v_Of [5, 6, 7] (by decide) (by decide)
  have o9 := v_Of [1] (by decide) (by decide)
  have o10 := v_Of [1, 2] (by decide) (by decide)
  have o11 := v_Of [2, -7] (by decide) (by decide)
  have k2 := v_Axpy h12 (ofInts [1, -2]) (ofInts [0, 3]) rfl (by decide) (by decide +kernel)
  have k3 := v_Dot (ofInts [1, 2, 3]) (ofInts [4, 5, 6]) rfl (by decide) (by unfold Fit; decide +kernel) (by decide +kernel)
  have k4 := v_Mix (ofInts [2, 3]) [ofInts [1, 0], ofInts [0, 1]] 2 10 rfl (by decide) (by decide) (by decide) (by decide) (by decide +kernel) (by decide +kernel) (by decide)
  have k5 := v_Part (ofInts [5, 6, 7]) [2, 0, 2] (by decide) (by decide) (by decide)
  have k6 := v_AddE (ofInts [1]) (ofInts [1, 2]) (by decide) (by decide) (by decide)
  have t1 := t_Vec (ofInts [1, -2]) (by decide) (by decide +kernel) (by decide +kernel)
  have t2 := t_Vec (vaxpy h12 (ofInts [1, -2]) (ofInts [0, 3])) (by decide) (by decide +kernel) (by decide +kernel)
  have t3 := t_Vec (mixN (ofInts [2, 3]) [ofInts [1, 0], ofInts [0, 1]] 2 [ofInts [1, 0], ofInts [0, 1]].length) (by decide) (by decide +kernel) (by decide +kernel)
  have t4 := t_Vec (vpart (ofInts [5, 6, 7]) [2, 0, 2]) (by decide) (by decide +kernel) (by decide +kernel)
  have t5 := (t_Vec [] (by decide) (by decide) (by decide)).nil1 (a := none)
  have k7 := c_fInt 32 (by decide) (by decide)
  have k8 := c_fInt 7 (by decide) (by decide)
  have k9 := v_UnitI 2 2 (by decide) (by decide)
  have k10 := v_ZeroE (-1) (by decide)
  have k11 := v_ZeroE 2049 (by decide)
  have k12 := v_Max (ofInts [2, -7]) (by decide) 100 (by decide) (by decide) (by decide +kernel)
  have k13 := (v_Max [] (by decide) 100 (by decide) (by decide) (by decide)).nil1 (a := none)
  have q1 : (!(tV (ofInts [1, -2])).toList == (ByteArray.mk #[91, 49, 32, 45, 50, 93]).toList) = false := by decide +kernel
  have q2 : (!(tV (vaxpy h12 (ofInts [1, -2]) (ofInts [0, 3]))).toList == (ByteArray.mk #[91, 49, 47, 50, 32, 50, 93]).toList) = false := by decide +kernel
  have q3 : (!(tV (mixN (ofInts [2, 3]) [ofInts [1, 0], ofInts [0, 1]] 2 [ofInts [1, 0], ofInts [0, 1]].length)).toList == (ByteArray.mk #[91, 50, 32, 51, 93]).toList) = false := by decide +kernel
  have q4 : (!(tV (vpart (ofInts [5, 6, 7]) [2, 0, 2])).toList == (ByteArray.mk #[91, 55, 32, 53, 32, 55, 93]).toList) = false := by decide +kernel
  have q5 : (!decide (vdot (ofInts [1, 2, 3]) (ofInts [4, 5, 6]) = ((32 : Int) : Rat))) = false := by decide +kernel
  have q6 : (alikeF [ofInts [1], ofInts [1, 2]] != 1) = false := by decide +kernel
  have q7 : (decide (vmax (ofInts [2, -7]) = ((7 : Int) : Rat))) = true := by decide +kernel
  have q8 : (decide (vmax [] = (0 : Rat))) = true := by decide +kernel
  have q9 : ((tV []).toList == (ByteArray.mk #[91, 93]).toList) = true := by decide +kernel
  refine callV (Z := [24, 29, 35, 37, 43, 45, 47, 49, 54, 56, 61, 63, 134]) tabOK mixedOK Tryz.func12 rfl (by kernel_rfl) rfl rfl (by kernel_rfl) rfl ?_
  intro W0 w0 ρ0 hE
  conv => whnf
  (repeat ((first | refine step_w1 rfl rfl ?_ | refine step_w2 rfl rfl ?_ | refine step_i (by kernel_rfl) ?_ | refine g_c (by assumption) ?_ | refine g_o (op_pickT rfl (ev_ok rfl) (ev_ok rfl)) ?_ | refine g_o (op_pickF rfl (ev_ok rfl) (ev_ok rfl)) ?_ | rw [beq_self_eq_true] | rw [bne_self_eq_false] | refine ⟨_, op_eqAgg tabOK goodOK rfl (ev_ok rfl) (ev_ok rfl) rfl rfl rfl rfl (q_same _ _) q_guard, ?_⟩ | refine ⟨_, op_neAgg tabOK goodOK rfl (ev_ok rfl) (ev_ok rfl) rfl rfl rfl rfl (q_same _ _) q_guard, ?_⟩ | rw [q1] | rw [q2] | rw [q3] | rw [q4] | rw [q5] | rw [q6] | rw [q7] | rw [q9]); conv => whnf)); (first | exact Recast.refl _ | exact Frz.recast (Recast.refl _) rfl | (refine Frz.one rfl rfl ?_; skip) | (refine Frz.tup ?_; skip))
end Go.Proofs.YtgodfkgocbppgaaGreatDoor

namespace Go.Proofs.YtgodfkgocbppgaaGreatDoor
open Go.Sx
set_option linter.unusedSimpArgs false
set_option linter.unusedVariables false
set_option maxRecDepth 100000
set_option maxHeartbeats 4000000

/-- All elements have at most B bits. -/
def Sm (B : Nat) (l : List Rat) : Prop := ∀ i, i < l.length → fs (l.getD i 0) ≤ B
theorem Sm_V {l : List (Int × Int)} (h : ∀ q ∈ l, qOK q) : Sm 130 (l.map qV) := by
  intro i hi
  rw [List.length_map] at hi
  rw [map_get (f := qV) (d := (0, 0)) hi]
  exact fs_qV (h _ (getD_mem hi))
theorem Sm_zip {op : Rat → Rat → Rat} {a b : List Rat} {A B : Nat} (hop : ∀ x y, fs (op x y) ≤ fs x + fs y) (ha : Sm A a) (hb : Sm B b) (hab : a.length = b.length) : Sm (A + B) (List.zipWith op a b) := by
  intro i hi
  rw [List.length_zipWith] at hi
  rw [zip_get (d1 := 0) (d2 := 0) (by omega) (by omega)]
  have h1 := hop (a.getD i 0) (b.getD i 0)
  have h2 := ha i (by omega)
  have h3 := hb i (by omega)
  omega
theorem Sm_scale {c : Rat} {a : List Rat} {A C : Nat} (hc : fs c ≤ C) (ha : Sm A a) : Sm (C + A) (vscale c a) := by
  intro i hi
  rw [List.length_zipWith] at hi
  rw [zip_get (d1 := 0) (d2 := 0) (by omega) (by omega)]
  have h1 := fs_mul c (a.getD i 0)
  have h2 := ha i (by omega)
  omega
theorem fsL_Sm : ∀ {l : List Rat} {B : Nat}, Sm B l → fsL l ≤ l.length * B
  | [], _, _ => by simp [fsL]
  | q :: l, B, h => by
    have h1 := h 0 (by simp)
    have h2 := fsL_Sm (l := l) (B := B) (fun i hi => h (i + 1) (by simpa using hi))
    have e : fsL (q :: l) = fs q + fsL l := by simp [fsL]
    rw [e, List.length_cons, Nat.succ_mul]
    have : fs q ≤ B := h1
    omega
theorem Fit_Sm {a b : List Rat} {A B : Nat} (ha : Sm A a) (hb : Sm B b) (hab : a.length = b.length) (h : A + B ≤ 1073741824) : Fit a b := by
  intro i hi
  have h1 := ha i hi
  have h2 := hb i (by omega)
  omega
theorem fs_vdot {a b : List Rat} {A B n : Nat} (ha : Sm A a) (hb : Sm B b) (h1 : a.length = n) (h2 : b.length = n) : fs (vdot a b) ≤ 2 + n * (A + B) := by
  have h := fsL_Sm (Sm_zip fs_mul ha hb (h1.trans h2.symm))
  rw [zip_len h1 h2] at h
  have h3 := fs_sum (vmul a b) 0
  rw [fs_zero] at h3
  unfold vdot
  exact Nat.le_trans h3 (Nat.add_le_add_left h 2)
/-- Bounds of plain data. -/
abbrev QWf (l : List (Int × Int)) : Prop := l.length ≤ maxLen ∧ ∀ x ∈ l, ((Lit.int .i64 x.1).wf = true) ∧ ((Lit.int .u32 x.2).wf = true)
theorem qOK_of {l : List (Int × Int)} (w : l.length ≤ maxLen ∧ ∀ x ∈ l, ((Lit.int .i64 x.1).wf = true) ∧ ((Lit.int .u32 x.2).wf = true)) : ∀ q ∈ l, qOK q := fun q hq => ⟨wf_i64 (w.2 q hq).1, wf_u32 (w.2 q hq).2⟩
theorem qOK_one {q : Int × Int} (w : ((Lit.int .i64 q.1).wf = true) ∧ ((Lit.int .u32 q.2).wf = true)) : qOK q := ⟨wf_i64 w.1, wf_u32 w.2⟩
theorem Sm_take {l : List (Int × Int)} (h : ∀ q ∈ l, qOK q) (n : Nat) : Sm 130 ((l.take n).map qV) := Sm_V (l := l.take n) (fun q hq => h q (List.mem_of_mem_take hq))
theorem len_take {l : List (Int × Int)} {n : Nat} (hn : n ≤ l.length) : ((l.take n).map qV).length = n := by rw [List.length_map, List.length_take]; omega
theorem c_Vt {l : List (Int × Int)} (h : ∀ q ∈ l, qOK q) {n : Nat} (hn : n ≤ 2048) : CallOK Tryz.prog 14 [mvec 2 qA (l.take n)] [] (fvec ((l.take n).map qV)) [] [] :=
  c_V (l.take n) (by rw [List.length_take]; omega) (fun q hq => h q (List.mem_of_mem_take hq))
section
variable {a b z : List Rat} {n i : Nat} {c : Rat}
theorem vec_ext (ha : a.length = n) (hb : b.length = n) (h : ∀ i, i < n → a.getD i 0 = b.getD i 0) : a = b := by
  refine List.ext_getElem (ha.trans hb.symm) fun i h1 h2 => ?_
  have := h i (by omega)
  rwa [List.getD_eq_getElem?_getD, List.getD_eq_getElem?_getD, List.getElem?_eq_getElem h1, List.getElem?_eq_getElem h2] at this
theorem get_add (ha : a.length = n) (hb : b.length = n) (hi : i < n) : (vadd a b).getD i 0 = a.getD i 0 + b.getD i 0 := zip_get (by omega) (by omega)
theorem get_scale (ha : a.length = n) (hi : i < n) : (vscale c a).getD i 0 = c * a.getD i 0 := zip_get (d2 := 0) (by omega) (by omega)
end

theorem l_cut (a b : List (Int × Int)) (ha : a.length < 1099511627776) (hb : b.length < 1099511627776) : CallOK Tryz.prog 13 [mvec 2 qA a, mvec 2 qA b] [] (.tup [mvec 2 qA (a.take (min a.length b.length)), mvec 2 qA (b.take (min a.length b.length))]) [] [] := by
  have e1 : (if (b.length : Int) < (a.length : Int) then (b.length : Int) else (a.length : Int)) = ((min a.length b.length : Nat) : Int) := by split <;> omega
  refine callV (Z := []) tabOK mixedOK Tryz.func13 rfl (by kernel_rfl) rfl rfl (by kernel_rfl) rfl ?_
  intro W0 w0 ρ0 hE
  conv => whnf
  (repeat ((first | refine step_i (by kernel_rfl) ?_ | refine g_o (op_lenM rfl rfl rfl (ev_ok rfl) (tgt rfl) rfl) ?_ | refine g_o (op_sliceM rfl (ev_ok rfl) (bound_spec rfl) (bound_spec rfl) (.inl rfl) (tgt rfl) rfl (tgt rfl) rfl (by omega)) ?_ | rw [e1] | rw [Int.toNat_natCast]); conv => whnf)); (first | exact Recast.refl _ | exact Frz.recast (Recast.refl _) rfl | (refine Frz.one rfl rfl ?_; skip) | (refine Frz.tup ?_; skip))
end Go.Proofs.YtgodfkgocbppgaaGreatDoor

namespace Go.Proofs.YtgodfkgocbppgaaGreatDoor
open Go.Sx
set_option linter.unusedSimpArgs false
set_option linter.unusedVariables false
set_option maxRecDepth 100000
set_option maxHeartbeats 4000000

theorem r2_Text (z : Int) (hz : sz z.natAbs ≤ 100000000) : CallOK Tryz.prog 80 [zZ z] [] (.val (.string (tZ z))) [] [] := by
  have k1 := r_Text z.natAbs (Nat.lt_of_le_of_lt (tl_sz hz) (by decide))
  have hs := tN_sizeG z.natAbs
  have h1 : (ByteArray.mk #[45]).size = 1 := rfl
  have h2 : (ByteArray.mk #[45]).size + (tN z.natAbs).size ≤ 9223372036854775807 := by omega
  unfold tZ
  refine callV (Z := [1]) tabOK mixedOK Tryz.func80 rfl (by kernel_rfl) rfl rfl (by kernel_rfl) rfl ?_
  intro W0 w0 ρ0 hE
  conv => whnf
  by_cases hn : z < 0
  · have t1 : decide (z < 0) = true := decide_eq_true hn
    rw [if_pos hn]
    (repeat ((first | refine step_w1 rfl rfl ?_ | refine step_oM (by first | omega | decide | (simp only [tiB5, tiB23, tiB3, tiB2, tiB9, tiB41, tiB72, tiB29, tiB30, tiB39, tiB33, tiB4, tiB68, tiB70, dlen, List.length_replicate, List.length_set, List.length_map, List.length_zipWith, List.length_take, List.length_append, List.length_cons, List.length_nil]; omega)) ?_ | refine g_c (by assumption) ?_ | refine g_o (op_loadA rfl (ev_ok rfl) (tgt rfl) rfl (Nat.succ_ne_zero _) rfl) ?_ | refine g_o (op_fieldA rfl (ev_ok rfl) (tgt rfl) rfl rfl (Nat.succ_ne_zero _) rfl) ?_ | rw [t1]); conv => whnf)); (first | exact Recast.refl _ | exact Frz.recast (Recast.refl _) rfl | (refine Frz.one rfl rfl ?_; skip) | (refine Frz.tup ?_; skip))
  · have t1 : decide (z < 0) = false := decide_eq_false hn
    rw [if_neg hn]
    (repeat ((first | refine step_w2 rfl rfl ?_ | refine g_c (by assumption) ?_ | refine g_o (op_loadA rfl (ev_ok rfl) (tgt rfl) rfl (Nat.succ_ne_zero _) rfl) ?_ | refine g_o (op_fieldA rfl (ev_ok rfl) (tgt rfl) rfl rfl (Nat.succ_ne_zero _) rfl) ?_ | rw [t1]); conv => whnf)); (first | exact Recast.refl _ | exact Frz.recast (Recast.refl _) rfl | (refine Frz.one rfl rfl ?_; skip) | (refine Frz.tup ?_; skip))
theorem r3_Text (q : Rat) (h : fs q ≤ 100000000) : CallOK Tryz.prog 45 [fF q] [] (.val (.string (tQ q))) [] [] := by
  have n1 := fsz_num q
  have n2 := fsz_den q
  unfold fs at h
  have k1 := r2_Text q.num (by omega)
  have hdl : (td q.den).length ≤ 100000000 := tl_sz (by omega)
  have k2 := r3_Den q (by omega)
  have k3 := r_Text q.den (by omega)
  have hs := tZ_sizeG q.num
  have hs2 := tN_sizeG q.den
  have h1 : (ByteArray.mk #[47]).size = 1 := rfl
  have h2 : (tZ q.num).size + (ByteArray.mk #[47]).size ≤ 9223372036854775807 := by omega
  have h3 : (tZ q.num ++ (ByteArray.mk #[47])).size + (tN q.den).size ≤ 9223372036854775807 := by rw [ByteArray.size_append]; omega
  have hz := td_len_zero (n := q.den - 1)
  have hp := q.den_pos
  unfold tQ
  refine callV (Z := [1]) tabOK mixedOK Tryz.func45 rfl (by kernel_rfl) rfl rfl (by kernel_rfl) rfl ?_
  intro W0 w0 ρ0 hE
  conv => whnf
  by_cases hd : q.den = 1
  · have t1 : (((td (q.den - 1)).length : Int) == 0) = true := beq_iff_eq.2 (by omega)
    rw [if_pos hd]
    (repeat ((first | refine step_w1 rfl rfl ?_ | refine g_c (by assumption) ?_ | refine g_o (op_lenM rfl rfl rfl (ev_ok rfl) (tgt rfl) rfl) ?_ | refine g_o (op_loadA rfl (ev_ok rfl) (tgt rfl) rfl (Nat.succ_ne_zero _) rfl) ?_ | refine g_o (op_fieldA rfl (ev_ok rfl) (tgt rfl) rfl rfl (Nat.succ_ne_zero _) rfl) ?_ | rw [t1]); conv => whnf)); (first | exact Recast.refl _ | exact Frz.recast (Recast.refl _) rfl | (refine Frz.one rfl rfl ?_; skip) | (refine Frz.tup ?_; skip))
  · have t1 : (((td (q.den - 1)).length : Int) == 0) = false := beq_false_of_ne (by omega)
    rw [if_neg hd]
    (repeat ((first | refine step_w2 rfl rfl ?_ | refine step_i (by kernel_rfl) ?_ | refine step_oM (by first | omega | decide | (simp only [tiB5, tiB23, tiB3, tiB2, tiB9, tiB41, tiB72, tiB29, tiB30, tiB39, tiB33, tiB4, tiB68, tiB70, dlen, List.length_replicate, List.length_set, List.length_map, List.length_zipWith, List.length_take, List.length_append, List.length_cons, List.length_nil]; omega)) ?_ | refine g_c (by assumption) ?_ | refine g_o (op_lenM rfl rfl rfl (ev_ok rfl) (tgt rfl) rfl) ?_ | refine g_o (op_loadA rfl (ev_ok rfl) (tgt rfl) rfl (Nat.succ_ne_zero _) rfl) ?_ | refine g_o (op_fieldA rfl (ev_ok rfl) (tgt rfl) rfl rfl (Nat.succ_ne_zero _) rfl) ?_ | rw [t1]); conv => whnf)); (first | exact Recast.refl _ | exact Frz.recast (Recast.refl _) rfl | (refine Frz.one rfl rfl ?_; skip) | (refine Frz.tup ?_; skip))

abbrev fFs (a : List Rat) : SV := mvec 3 fF a
abbrev fFblk (a : List Rat) : Blk := ⟨72, true, .seq 3 (a.map fF)⟩
theorem take_map_snoc {z : List Rat} {i : Nat} (hi : i < z.length) : fFblk (z.take (i + 1)) = ⟨72, true, .seq 3 (List.take i ((z.take i).map fF) ++ List.take 1 (List.drop 0 [fF (z.getD i 0)]))⟩ := by
  have hl : ((z.take i).map fF).length = i := by rw [List.length_map, List.length_take]; omega
  rw [fFblk, take_snoc z i hi, List.map_append, List.take_of_length_le (l := (z.take i).map fF) (by omega)]; rfl

theorem r12_Add (a b : List Rat) (hab : a.length = b.length) (hl : a.length ≤ 2048) (h : ∀ i, i < a.length → fs (a.getD i 0) + fs (b.getD i 0) ≤ 100000000) : CallOK Tryz.prog 40 [fFs a, fFs b] [] (fFs (vadd a b)) [] [] := by
  have hz : (vadd a b).length = a.length := zip_len rfl hab.symm
  refine callF (Z := []) tabOK mixedOK Tryz.func40 rfl (by kernel_rfl) (by first | rfl | (simp [keylessL, keyless, keylessL_map, *]; done)) (by first | rfl | (simp [keylessL, keyless, keylessL_map, *]; done)) (by kernel_rfl) rfl ?_
  intro w0 ρ0 hE
  conv => whnf
  skip
  refine SWx_adopt (t := 5) (k := 2001) (s := 3) (blk := fFblk []) rfl rfl rfl ?_
  refine SW_loopS hE (fun k => k) [0, 1, 5, 6] [2001] (fun m fr hp => ∃ i : Nat, m = a.length - i ∧ i ≤ a.length ∧ fr = [(0, fFs a), (1, fFs b), (5, .slc 2001 3 0 i), (6, .val (.int .i64 (i : Nat)))] ∧ hp = [(2001, fFblk ((vadd a b).take i))]) a.length ?_ ?_ ?_
  · kernel_rfl
  · exact ⟨0, rfl, Nat.zero_le _, rfl, rfl⟩
  rintro m _ _ ⟨i, rfl, hi, rfl, rfl⟩
  have hlt0 : ((((vadd a b).take i)).map fF).length = i := by rw [List.length_map, List.length_take]; omega
  by_cases hlt : i < a.length
  · have t1 := dlt hlt
    have t2 := winc (i := i) (by omega)
    have k1 := r3_Add (a.getD i 0) (b.getD i 0) (h i hlt)
    rw [← zip_get (f := (· + ·)) (d3 := 0) hlt (by omega)] at k1
    have hib : i < b.length := by omega
    refine SWx.of hE ?_
    conv => whnf
    (repeat ((first | refine step_w1 rfl rfl ?_ | refine step_i (by kernel_rfl) ?_ | refine step_oA (by first | omega | decide | (simp only [tiB5, tiB23, tiB3, tiB2, tiB9, tiB41, tiB72, tiB29, tiB30, tiB39, tiB33, tiB4, tiB68, tiB70, dlen, List.length_replicate, List.length_set, List.length_map, List.length_zipWith, List.length_take, List.length_append, List.length_cons, List.length_nil]; omega)) ?_ | refine g_c (by assumption) ?_ | refine g_o (op_lenM rfl rfl rfl (ev_ok rfl) (tgt rfl) rfl) ?_ | refine g_o (op_indexN (α := Rat) (d := 0) rfl (ev_ok rfl) (ev_ok rfl) (tgt rfl) rfl (tgt rfl) rfl (by omega)) ?_ | refine g_o (op_loadA rfl (ev_ok rfl) (tgt rfl) rfl (Nat.succ_ne_zero _) rfl) ?_ | rw [t1] | rw [t2]); conv => whnf))
    refine ⟨a.length - (i + 1), renBy [(24, 2001)], [0, 1, 5, 6], [24], by omega, by kernel_rfl, i + 1, rfl, hlt, rfl, ?_⟩
    rw [take_map_snoc (by rw [hz]; exact hlt)]
    rfl
  · have t1 := dge hlt
    have hI : i = a.length := by omega
    subst hI
    have hall : (vadd a b).take a.length = vadd a b := List.take_of_length_le (by omega)
    rw [hall]
    refine SWx_freezeM 5 2001 (fun _ h => h) (fun _ => rfl) rfl rfl hz.symm ?_
    refine SWx.of hE ?_
    conv => whnf
    (repeat (first | (refine step_w2 rfl rfl ?_; conv => whnf) | (refine g_o (op_lenM rfl rfl rfl (ev_ok rfl) (tgt rfl) rfl) ?_; conv => whnf) | (rw [t1]; conv => whnf))); (first | exact Recast.refl _ | exact Frz.recast (Recast.refl _) rfl | (refine Frz.one rfl rfl ?_; skip) | (refine Frz.tup ?_; skip))
theorem r12_Sub (a b : List Rat) (hab : a.length = b.length) (hl : a.length ≤ 2048) (h : ∀ i, i < a.length → fs (a.getD i 0) + fs (b.getD i 0) ≤ 100000000) : CallOK Tryz.prog 41 [fFs a, fFs b] [] (fFs (vsub a b)) [] [] := by
  have hz : (vsub a b).length = a.length := zip_len rfl hab.symm
  refine callF (Z := []) tabOK mixedOK Tryz.func41 rfl (by kernel_rfl) (by first | rfl | (simp [keylessL, keyless, keylessL_map, *]; done)) (by first | rfl | (simp [keylessL, keyless, keylessL_map, *]; done)) (by kernel_rfl) rfl ?_
  intro w0 ρ0 hE
  conv => whnf
  skip
  refine SWx_adopt (t := 5) (k := 2001) (s := 3) (blk := fFblk []) rfl rfl rfl ?_
  refine SW_loopS hE (fun k => k) [0, 1, 5, 6] [2001] (fun m fr hp => ∃ i : Nat, m = a.length - i ∧ i ≤ a.length ∧ fr = [(0, fFs a), (1, fFs b), (5, .slc 2001 3 0 i), (6, .val (.int .i64 (i : Nat)))] ∧ hp = [(2001, fFblk ((vsub a b).take i))]) a.length ?_ ?_ ?_
  · kernel_rfl
  · exact ⟨0, rfl, Nat.zero_le _, rfl, rfl⟩
  rintro m _ _ ⟨i, rfl, hi, rfl, rfl⟩
  have hlt0 : ((((vsub a b).take i)).map fF).length = i := by rw [List.length_map, List.length_take]; omega
  by_cases hlt : i < a.length
  · have t1 := dlt hlt
    have t2 := winc (i := i) (by omega)
    have k1 := r3_Sub (a.getD i 0) (b.getD i 0) (h i hlt)
    rw [← zip_get (f := (· - ·)) (d3 := 0) hlt (by omega)] at k1
    have hib : i < b.length := by omega
    refine SWx.of hE ?_
    conv => whnf
    (repeat ((first | refine step_w1 rfl rfl ?_ | refine step_i (by kernel_rfl) ?_ | refine step_oA (by first | omega | decide | (simp only [tiB5, tiB23, tiB3, tiB2, tiB9, tiB41, tiB72, tiB29, tiB30, tiB39, tiB33, tiB4, tiB68, tiB70, dlen, List.length_replicate, List.length_set, List.length_map, List.length_zipWith, List.length_take, List.length_append, List.length_cons, List.length_nil]; omega)) ?_ | refine g_c (by assumption) ?_ | refine g_o (op_lenM rfl rfl rfl (ev_ok rfl) (tgt rfl) rfl) ?_ | refine g_o (op_indexN (α := Rat) (d := 0) rfl (ev_ok rfl) (ev_ok rfl) (tgt rfl) rfl (tgt rfl) rfl (by omega)) ?_ | refine g_o (op_loadA rfl (ev_ok rfl) (tgt rfl) rfl (Nat.succ_ne_zero _) rfl) ?_ | rw [t1] | rw [t2]); conv => whnf))
    refine ⟨a.length - (i + 1), renBy [(24, 2001)], [0, 1, 5, 6], [24], by omega, by kernel_rfl, i + 1, rfl, hlt, rfl, ?_⟩
    rw [take_map_snoc (by rw [hz]; exact hlt)]
    rfl
  · have t1 := dge hlt
    have hI : i = a.length := by omega
    subst hI
    have hall : (vsub a b).take a.length = vsub a b := List.take_of_length_le (by omega)
    rw [hall]
    refine SWx_freezeM 5 2001 (fun _ h => h) (fun _ => rfl) rfl rfl hz.symm ?_
    refine SWx.of hE ?_
    conv => whnf
    (repeat (first | (refine step_w2 rfl rfl ?_; conv => whnf) | (refine g_o (op_lenM rfl rfl rfl (ev_ok rfl) (tgt rfl) rfl) ?_; conv => whnf) | (rw [t1]; conv => whnf))); (first | exact Recast.refl _ | exact Frz.recast (Recast.refl _) rfl | (refine Frz.one rfl rfl ?_; skip) | (refine Frz.tup ?_; skip))
end Go.Proofs.YtgodfkgocbppgaaGreatDoor
