/- VecsErrors returns true for every input and leaves its arguments as they were: the row, and the card that ties its tables to the program's text. -/
import Derived.Shelf.Strings.Builder1
import Derived.Shelf.Strings.Builder2
import Derived.Shelf.Strings.OnBuilder
import Derived.Shelf.Strings.BuilderF
import Derived.Shelf.Strings.Builder2Cap
import Derived.Shelf.Strconv.Itoa0
import Derived.Shelf.Strconv.Itoa1
import Derived.Shelf.LaysM
import Derived.Shelf.Strconv.Itoa2
import Derived.Shelf.Strconv.Itoa3
import Derived.Shelf.Strings.Prefix
import Derived.Shelf.Bits.Mul64
import Derived.Shelf.Strings.Repeat
import Derived.Ground.Names2Prog
import Derived.Shelf.Slices.ReverseS
import Derived.Test.YtgodfkgocbppgaaGreatDoorProg
import Derived.Test.YtgodfkgocbppgaaGreatDoorCards
import Derived.Test.YtgodfkgocbppgaaGreatDoorTie
import Derived.WalkKit
import Derived.ProofKit
import Derived.OpenShut
import Derived.Deep.DeepHandedRow
import Derived.Lib.LaidTab
import Derived.Test.YtgodfkgocbppgaaGreatDoorQLVecsErrors3
namespace Go.Proofs.YtgodfkgocbppgaaGreatDoor
open Go.Sx
set_option linter.unusedSimpArgs false
set_option linter.unusedVariables false
set_option maxRecDepth 100000
set_option maxHeartbeats 4000000

/-- The sizes of two vectors' elements, taken together. -/
def Fit (a b : List Rat) : Prop := ∀ i, i < a.length → fs (a.getD i 0) + fs (b.getD i 0) ≤ 1073741824

abbrev vadd (a b : List Rat) : List Rat := List.zipWith (· + ·) a b
abbrev vsub (a b : List Rat) : List Rat := List.zipWith (· - ·) a b
abbrev vmul (a b : List Rat) : List Rat := List.zipWith (· * ·) a b
abbrev vaxpy (c : Rat) (a b : List Rat) : List Rat := List.zipWith (fun x y => c * x + y) a b

theorem v_Add (a b : List Rat) (hab : a.length = b.length) (hl : a.length ≤ 2048) (h : Fit a b) : CallOK Tryz.prog 35 [fvec a, fvec b] [] (.tup [fvec (vadd a b), .val (.int .i64 0)]) [] [] := by
  have k1 := v_each0 (· + ·) 31 a b hab hl (fun i hi => f_Add _ _ (h i hi))
  refine callV (Z := []) tabOK mixedOK Tryz.func35 rfl (by kernel_rfl) rfl rfl (by kernel_rfl) rfl ?_
  intro W0 w0 ρ0 hE
  conv => whnf
  (repeat (first | (refine g_c (by assumption) ?_; conv => whnf))); (first | exact Recast.refl _ | exact Frz.recast (Recast.refl _) rfl | (refine Frz.one rfl rfl ?_; skip) | (refine Frz.tup ?_; skip))
theorem v_Sub (a b : List Rat) (hab : a.length = b.length) (hl : a.length ≤ 2048) (h : Fit a b) : CallOK Tryz.prog 36 [fvec a, fvec b] [] (.tup [fvec (vsub a b), .val (.int .i64 0)]) [] [] := by
  have k1 := v_each0 (· - ·) 71 a b hab hl (fun i hi => f_Sub _ _ (h i hi))
  refine callV (Z := []) tabOK mixedOK Tryz.func36 rfl (by kernel_rfl) rfl rfl (by kernel_rfl) rfl ?_
  intro W0 w0 ρ0 hE
  conv => whnf
  (repeat (first | (refine g_c (by assumption) ?_; conv => whnf))); (first | exact Recast.refl _ | exact Frz.recast (Recast.refl _) rfl | (refine Frz.one rfl rfl ?_; skip) | (refine Frz.tup ?_; skip))
theorem v_Axpy1 (c x y : Rat) (h : fs c + fs x + fs y ≤ 1073741824) : CallOK Tryz.prog 73 ([] ++ ([.frac x, .frac y] ++ [ptrA [.frac c]])) [] (.frac (c * x + y)) [] [] := by
  have k1 := f_Mul c x (by omega)
  have k2 := f_Add (c * x) y (by have := fs_mul c x; omega)
  refine callV (Z := []) tabOK mixedOK Tryz.func73 rfl (by kernel_rfl) rfl rfl (by kernel_rfl) rfl ?_
  intro W0 w0 ρ0 hE
  conv => whnf
  (repeat (first | (refine step_i (by kernel_rfl) ?_; conv => whnf) | (refine g_c (by assumption) ?_; conv => whnf) | (refine g_o (op_loadA rfl (ev_ok rfl) (tgt rfl) rfl (Nat.succ_ne_zero _) rfl) ?_; conv => whnf))); (first | exact Recast.refl _ | exact Frz.recast (Recast.refl _) rfl | (refine Frz.one rfl rfl ?_; skip) | (refine Frz.tup ?_; skip))
theorem v_Axpy (c : Rat) (a b : List Rat) (hab : a.length = b.length) (hl : a.length ≤ 2048) (h : ∀ i, i < a.length → fs c + fs (a.getD i 0) + fs (b.getD i 0) ≤ 1073741824) : CallOK Tryz.prog 38 [.frac c, fvec a, fvec b] [] (.tup [fvec (vaxpy c a b), .val (.int .i64 0)]) [] [] := by
  have k1 := v_each1 (fun x y => c * x + y) 73 (ptrP [.frac c]) a b hab hl (fun i hi => v_Axpy1 _ _ _ (h i hi))
  refine callV (Z := [3]) tabOK mixedOK Tryz.func38 rfl (by kernel_rfl) rfl rfl (by kernel_rfl) rfl ?_
  intro W0 w0 ρ0 hE
  conv => whnf
  (repeat (first | (refine g_c (by assumption) ?_; conv => whnf) | (refine g_o (op_makeFunc rfl rfl rfl) ?_; conv => whnf))); (first | exact Recast.refl _ | exact Frz.recast (Recast.refl _) rfl | (refine Frz.one rfl rfl ?_; skip) | (refine Frz.tup ?_; skip))

/-- The dot product. -/
def vdot (a b : List Rat) : Rat := (vmul a b).foldl (· + ·) 0
theorem v_Dot (a b : List Rat) (hab : a.length = b.length) (hl : a.length ≤ 2048) (h : Fit a b) (hs : fsL (vmul a b) + 2 ≤ 1073741824) : CallOK Tryz.prog 43 [fvec a, fvec b] [] (.tup [.frac (vdot a b), .val (.int .i64 0)]) [] [] := by
  have k1 := v_each0 (· * ·) 18 a b hab hl (fun i hi => f_Mul _ _ (h i hi))
  have k2 := f_Sum (vmul a b) (by simp; omega) hs
  refine callV (Z := []) tabOK mixedOK Tryz.func43 rfl (by kernel_rfl) rfl rfl (by kernel_rfl) rfl ?_
  intro W0 w0 ρ0 hE
  conv => whnf
  (repeat (first | (refine g_c (by assumption) ?_; conv => whnf))); (first | exact Recast.refl _ | exact Frz.recast (Recast.refl _) rfl | (refine Frz.one rfl rfl ?_; skip) | (refine Frz.tup ?_; skip))

theorem v_Zero (n : Nat) (hn : n ≤ 2048) : CallOK Tryz.prog 27 [.val (.int .i64 (n : Nat))] [] (.tup [fvec (List.replicate n 0), .val (.int .i64 0)]) [] [] := by
  have k1 := v_fits n
  rw [fitsF, if_neg (by omega), if_neg (by omega)] at k1
  refine callF (Z := []) tabOK mixedOK Tryz.func27 rfl (by kernel_rfl) (by first | rfl | (simp [keylessL, keyless, keylessL_map, *]; done)) (by first | rfl | (simp [keylessL, keyless, keylessL_map, *]; done)) (by kernel_rfl) rfl ?_
  intro w0 ρ0 hE
  conv => whnf
  (repeat ((first | refine step_w2 rfl rfl ?_ | refine And.intro (by first | decide | omega | (simp only [tiB5, tiB23, tiB3, tiB2, tiB9, tiB41, tiB72, tiB29, tiB30, tiB39, tiB33, tiB4, tiB68, tiB70, dlen, List.length_replicate, List.length_set, List.length_map, List.length_zipWith, List.length_take, List.length_append, List.length_cons, List.length_nil]; omega)) ?_ | refine g_c (by assumption) ?_ | rw [Int.toNat_natCast]); conv => whnf)); (first | exact Recast.refl _ | exact Frz.recast (Recast.refl _) rfl | (refine Frz.one rfl rfl ?_; skip) | (refine Frz.tup ?_; (repeat (first | exact FrzC.keyless rfl | exact FrzL.nil | refine FrzL.cons ?_ ?_ | (refine FrzC.fracs rfl ?_; (first | rfl | omega | (simp <;> fail) | (simp <;> omega)))))))

theorem v_ZeroE (n : Int) (hn : fitsF n ≠ 0) : CallOK Tryz.prog 27 [.val (.int .i64 n)] [] (.tup [fvec [], .val (.int .i64 (fitsF n))]) [] [] := by
  have k1 := v_fits n
  have t1 : (fitsF n != 0) = true := bne_iff_ne.2 hn
  refine callF (Z := []) tabOK mixedOK Tryz.func27 rfl (by kernel_rfl) (by first | rfl | (simp [keylessL, keyless, keylessL_map, *]; done)) (by first | rfl | (simp [keylessL, keyless, keylessL_map, *]; done)) (by kernel_rfl) rfl ?_
  intro w0 ρ0 hE
  conv => whnf
  (repeat (first | (refine step_w1 rfl rfl ?_; conv => whnf) | (refine g_c (by assumption) ?_; conv => whnf) | (rw [t1]; conv => whnf))); (first | exact Recast.refl _ | exact Frz.recast (Recast.refl _) rfl | (refine Frz.one rfl rfl ?_; skip) | (refine Frz.tup ?_; (repeat (first | exact FrzC.keyless rfl | exact FrzL.nil | refine FrzL.cons ?_ ?_ | exact FrzC.nilS))))

theorem v_ZeroM (n : Nat) (hn : n ≤ 2048) (K : Nat) : CallOK Tryz.prog 27 [.val (.int .i64 (n : Nat))] [] (.tup [.slc K 5 0 n, .val (.int .i64 0)]) [(K, ⟨41, true, .fracs (List.replicate n 0)⟩)] [] := by
  have k1 := v_fits n
  rw [fitsF, if_neg (by omega), if_neg (by omega)] at k1
  refine callK (Z := []) tabOK mixedOK Tryz.func27 rfl (by kernel_rfl) (args := [.val (.int .i64 (n : Nat))]) (fk := []) (c := .tup [.slc 11 5 0 n, .val (.int .i64 0)]) (new := [(11, ⟨41, true, .fracs (List.replicate n 0)⟩)]) (upd := []) (ShapeOK.of rfl rfl rfl rfl rfl rfl rfl rfl rfl rfl rfl) rfl (fun _ => K) NamesOK.one ?_
  intro W0 w0 ρ0 hE
  conv => whnf
  (repeat ((first | refine step_w2 rfl rfl ?_ | refine And.intro (by first | decide | omega | (simp only [tiB5, tiB23, tiB3, tiB2, tiB9, tiB41, tiB72, tiB29, tiB30, tiB39, tiB33, tiB4, tiB68, tiB70, dlen, List.length_replicate, List.length_set, List.length_map, List.length_zipWith, List.length_take, List.length_append, List.length_cons, List.length_nil]; omega)) ?_ | refine g_c (by assumption) ?_ | rw [Int.toNat_natCast]); conv => whnf))
  exact ⟨Recast.refl _, (fun k b hm => by simp only [List.mem_singleton, Prod.mk.injEq] at hm; obtain ⟨rfl, rfl⟩ := hm; rfl), (fun _ _ h => by cases h)⟩

theorem v_Unit (n i : Nat) (hn : n ≤ 2048) (hi : i < n) : CallOK Tryz.prog 21 [.val (.int .i64 (n : Nat)), .val (.int .i64 (i : Nat))] [] (.tup [fvec ((List.replicate n 0).set i 1), .val (.int .i64 0)]) [] [] := by
  have k1 := v_ZeroM n hn 1001
  have k2 := c_fInt 1 (by decide) (by decide)
  have t1 : decide ((i : Int) < 0) = false := decide_eq_false (by omega)
  have t2 : decide ((i : Int) ≥ (n : Int)) = false := decide_eq_false (by omega)
  refine callF (Z := []) tabOK mixedOK Tryz.func21 rfl (by kernel_rfl) (by first | rfl | (simp [keylessL, keyless, keylessL_map, *]; done)) (by first | rfl | (simp [keylessL, keyless, keylessL_map, *]; done)) (by kernel_rfl) rfl ?_
  intro w0 ρ0 hE
  conv => whnf
  (repeat ((first | refine step_w1 rfl rfl ?_ | refine step_w2 rfl rfl ?_ | refine And.intro (by first | decide | omega | (simp only [tiB5, tiB23, tiB3, tiB2, tiB9, tiB41, tiB72, tiB29, tiB30, tiB39, tiB33, tiB4, tiB68, tiB70, dlen, List.length_replicate, List.length_set, List.length_map, List.length_zipWith, List.length_take, List.length_append, List.length_cons, List.length_nil]; omega)) ?_ | refine g_c (by assumption) ?_ | refine g_cn (by assumption) rfl ?_ | refine g_o (op_pickF rfl (ev_ok rfl) (ev_ok rfl)) ?_ | rw [bne_self_eq_false] | rw [t1] | rw [t2] | rw [Int.toNat_natCast] | rw [Nat.zero_add]); conv => whnf)); (first | exact Recast.refl _ | exact Frz.recast (Recast.refl _) rfl | (refine Frz.one rfl rfl ?_; skip) | (refine Frz.tup ?_; (repeat (first | exact FrzC.keyless rfl | exact FrzL.nil | refine FrzL.cons ?_ ?_ | (refine FrzC.fracs rfl ?_; (first | rfl | omega | (simp <;> fail) | (simp <;> omega)))))))

theorem v_UnitE (n i : Int) (hn : fitsF n ≠ 0) : CallOK Tryz.prog 21 [.val (.int .i64 n), .val (.int .i64 i)] [] (.tup [fvec [], .val (.int .i64 (fitsF n))]) [] [] := by
  have k1 := v_ZeroE n hn
  have t1 : (fitsF n != 0) = true := bne_iff_ne.2 hn
  refine callF (Z := []) tabOK mixedOK Tryz.func21 rfl (by kernel_rfl) (by first | rfl | (simp [keylessL, keyless, keylessL_map, *]; done)) (by first | rfl | (simp [keylessL, keyless, keylessL_map, *]; done)) (by kernel_rfl) rfl ?_
  intro w0 ρ0 hE
  conv => whnf
  (repeat (first | (refine step_w1 rfl rfl ?_; conv => whnf) | (refine g_c (by assumption) ?_; conv => whnf) | (rw [t1]; conv => whnf))); (first | exact Recast.refl _ | exact Frz.recast (Recast.refl _) rfl | (refine Frz.one rfl rfl ?_; skip) | (refine Frz.tup ?_; (repeat (first | exact FrzC.keyless rfl | exact FrzL.nil | refine FrzL.cons ?_ ?_ | exact FrzC.nilS))))
theorem v_UnitI (n : Nat) (i : Int) (hn : n ≤ 2048) (hi : i < 0 ∨ (n : Int) ≤ i) : CallOK Tryz.prog 21 [.val (.int .i64 (n : Nat)), .val (.int .i64 i)] [] (.tup [fvec [], .val (.int .i64 1)]) [] [] := by
  have k1 := v_Zero n hn
  refine callF (Z := []) tabOK mixedOK Tryz.func21 rfl (by kernel_rfl) (by first | rfl | (simp [keylessL, keyless, keylessL_map, *]; done)) (by first | rfl | (simp [keylessL, keyless, keylessL_map, *]; done)) (by kernel_rfl) rfl ?_
  intro w0 ρ0 hE
  conv => whnf
  by_cases h1 : i < 0
  · have t1 : decide (i < 0) = true := decide_eq_true h1
    (repeat ((first | refine step_w1 rfl rfl ?_ | refine step_w2 rfl rfl ?_ | refine g_c (by assumption) ?_ | refine g_o (op_pickT rfl (ev_ok rfl) (ev_ok rfl)) ?_ | rw [bne_self_eq_false] | rw [t1]); conv => whnf)); (first | exact Recast.refl _ | exact Frz.recast (Recast.refl _) rfl | (refine Frz.one rfl rfl ?_; skip) | (refine Frz.tup ?_; (repeat (first | exact FrzC.keyless rfl | exact FrzL.nil | refine FrzL.cons ?_ ?_ | exact FrzC.nilS))))
  · have t1 : decide (i < 0) = false := decide_eq_false h1
    have t2 : decide (i ≥ (n : Int)) = true := decide_eq_true (by omega)
    (repeat ((first | refine step_w1 rfl rfl ?_ | refine step_w2 rfl rfl ?_ | refine g_c (by assumption) ?_ | refine g_o (op_pickF rfl (ev_ok rfl) (ev_ok rfl)) ?_ | rw [bne_self_eq_false] | rw [t1] | rw [t2]); conv => whnf)); (first | exact Recast.refl _ | exact Frz.recast (Recast.refl _) rfl | (refine Frz.one rfl rfl ?_; skip) | (refine Frz.tup ?_; (repeat (first | exact FrzC.keyless rfl | exact FrzL.nil | refine FrzL.cons ?_ ?_ | exact FrzC.nilS))))

/-- The maximum norm. -/
def vmaxF : List Rat → Rat → Rat
  | [], m => m
  | x :: l, m => vmaxF l (if 0 < (rabs x - m).num.sign then rabs x else m)
def vmax (l : List Rat) : Rat := vmaxF l 0

theorem v_Max (l : List Rat) (hl : l.length < 1099511627776) (B : Nat) (hB : 2 ≤ B) (hB2 : B + B ≤ 1073741824) (h : ∀ i, i < l.length → fs (l.getD i 0) ≤ B) : CallOK Tryz.prog 28 [fvec l] [] (.frac (vmax l)) [] [] := by
  refine callV (Z := []) tabOK mixedOK Tryz.func28 rfl (by kernel_rfl) rfl rfl (by kernel_rfl) rfl ?_
  intro W0 w0 ρ0 hE
  conv => whnf
  (repeat (first | (refine g_o (op_lenM rfl rfl rfl (ev_ok rfl) (tgt rfl) rfl) ?_; conv => whnf)))
  refine SW_loopN hE (fun k => k) [0, 2, 5, 6, 7] [2] (fun m fr hp => ∃ i q, m = l.length - i ∧ i ≤ l.length ∧ vmaxF (l.drop i) q = vmax l ∧ fs q ≤ B ∧ fr = [(0, fvec l), (2, .ptr 2 0 0 0), (5, fvec l), (6, .val (.int .i64 (l.length : Nat))), (7, .val (.int .i64 (i : Nat)))] ∧
    hp = [(2, ⟨41, true, .one [.frac q]⟩)]) l.length ?_ ?_ ?_
  · kernel_rfl
  · exact ⟨0, 0, rfl, Nat.zero_le _, rfl, by rw [fs_zero]; exact hB, rfl, rfl⟩
  rintro m _ _ ⟨i, q, rfl, hi, hv, hq, rfl, rfl⟩
  conv => whnf
  by_cases hlt : i < l.length
  · have t1 := dlt hlt
    have t2 := winc (i := i) (by omega)
    have hx := h i hlt
    have hd : l.drop i = l.getD i 0 :: l.drop (i + 1) := by rw [List.drop_eq_getElem_cons hlt, List.getD_eq_getElem?_getD, List.getElem?_eq_getElem hlt]; rfl
    rw [hd, vmaxF] at hv
    have k1 := f_Abs (l.getD i 0)
    have hb : fs (rabs (l.getD i 0)) ≤ B := by rw [fs_abs]; exact hx
    generalize rabs (l.getD i 0) = x at *
    have k2 := f_Cmp x q (by omega)
    by_cases hc : 0 < (x - q).num.sign
    · have t3 : decide ((x - q).num.sign > 0) = true := decide_eq_true hc
      rw [if_pos hc] at hv
      (repeat ((first | refine step_w1 rfl rfl ?_ | refine g_c (by assumption) ?_ | refine g_o (op_indexN (α := Rat) (d := 0) rfl (ev_ok rfl) (ev_ok rfl) (tgt rfl) rfl (tgt rfl) rfl (by omega)) ?_ | refine g_o (op_loadA rfl (ev_ok rfl) (tgt rfl) rfl (Nat.succ_ne_zero _) rfl) ?_ | rw [t1] | rw [t3] | rw [t2]); conv => whnf))
      exact ⟨l.length - (i + 1), fun k => k, [0, 2, 5, 6, 7], [2], by omega, by kernel_rfl, i + 1, x, rfl, hlt, hv, hb, rfl, rfl⟩
    · have t3 : decide ((x - q).num.sign > 0) = false := decide_eq_false hc
      rw [if_neg hc] at hv
      (repeat ((first | refine step_w1 rfl rfl ?_ | refine step_w2 rfl rfl ?_ | refine g_c (by assumption) ?_ | refine g_o (op_indexN (α := Rat) (d := 0) rfl (ev_ok rfl) (ev_ok rfl) (tgt rfl) rfl (tgt rfl) rfl (by omega)) ?_ | refine g_o (op_loadA rfl (ev_ok rfl) (tgt rfl) rfl (Nat.succ_ne_zero _) rfl) ?_ | rw [t1] | rw [t3] | rw [t2]); conv => whnf))
      exact ⟨l.length - (i + 1), fun k => k, [0, 2, 5, 6, 7], [2], by omega, by kernel_rfl, i + 1, q, rfl, hlt, hv, hq, rfl, rfl⟩
  · have t1 := dge hlt
    have hI : i = l.length := by omega
    rw [hI, List.drop_length, vmaxF] at hv
    rw [hv]
    (repeat (first | (refine step_w2 rfl rfl ?_; conv => whnf) | (rw [t1]; conv => whnf))); (first | exact Recast.refl _ | exact Frz.recast (Recast.refl _) rfl | (refine Frz.one rfl rfl ?_; skip) | (refine Frz.tup ?_; skip))

theorem q_guard : Tryz.prog.eqGuardType Tryz.prog.depth 41 = false := by kernel_rfl
theorem q_same (a b : Rat) : eqTy tab good 10 41 (fracCells a) (fracCells b) = some (decide (a = b)) := by
  have e : eqTy tab good 10 41 (fracCells a) (fracCells b) = some (((((low a.num.natAbs == low b.num.natAbs) && (((big a.num.natAbs).toList == (big b.num.natAbs).toList) && true)) && true) && ((decide (a.num < 0) == decide (b.num < 0)) && true)) &&
    (((low (a.den - 1) == low (b.den - 1)) && (((big (a.den - 1)).toList == (big (b.den - 1)).toList) && true)) && true)) := rfl
  rw [e]
  simp only [Bool.and_true]
  rw [nat_eq_iff, nat_eq_iff]
  congr 1
  rw [Bool.eq_iff_iff]
  simp only [Bool.and_eq_true, decide_eq_true_eq, beq_iff_eq, decide_eq_decide]
  have h1 := a.den_pos
  have h2 := b.den_pos
  constructor
  · rintro ⟨⟨h3, h4⟩, h5⟩
    exact Rat.ext (by omega) (by omega)
  · rintro rfl
    exact ⟨⟨rfl, Iff.rfl⟩, rfl⟩

end Go.Proofs.YtgodfkgocbppgaaGreatDoor

namespace Go.Proofs.YtgodfkgocbppgaaGreatDoor
open Go.Sx
set_option linter.unusedSimpArgs false
set_option linter.unusedVariables false
set_option maxRecDepth 100000
set_option maxHeartbeats 4000000

def ofInts (l : List Int) : List Rat := l.map fun (n : Int) => ((n : Int) : Rat)
theorem map_get {α β : Type} {f : α → β} {l : List α} {i : Nat} {d : α} {e : β} (h : i < l.length) : (l.map f).getD i e = f (l.getD i d) := by
  simp [List.getD_eq_getElem?_getD, List.getElem?_eq_getElem h]

theorem v_Of (l : List Int) (hl : l.length < 1099511627776) (h : ∀ i, i < l.length → -9223372036854775808 ≤ l.getD i 0 ∧ l.getD i 0 < 9223372036854775808) : CallOK Tryz.prog 51 [ivec .i64 l] [] (fvec (ofInts l)) [] [] := by
  refine callF (Z := []) tabOK mixedOK Tryz.func51 rfl (by kernel_rfl) (by first | rfl | (simp [keylessL, keyless, keylessL_map, *]; done)) (by first | rfl | (simp [keylessL, keyless, keylessL_map, *]; done)) (by kernel_rfl) rfl ?_
  intro w0 ρ0 hE
  conv => whnf
  (repeat (first | (refine And.intro (by first | decide | omega | (simp only [tiB5, tiB23, tiB3, tiB2, tiB9, tiB41, tiB72, tiB29, tiB30, tiB39, tiB33, tiB4, tiB68, tiB70, dlen, List.length_replicate, List.length_set, List.length_map, List.length_zipWith, List.length_take, List.length_append, List.length_cons, List.length_nil]; omega)) ?_; conv => whnf) | (refine g_o (op_lenM rfl rfl rfl (ev_ok rfl) (tgt rfl) rfl) ?_; conv => whnf) | (rw [Int.toNat_natCast]; conv => whnf)))
  have hz : (ofInts l).length = l.length := by simp [ofInts]
  refine SW_loopN hE (fun k => k) [0, 2, 3, 9, 10] [7] (fun m fr hp => ∃ i, m = l.length - i ∧ i ≤ l.length ∧ fr = [(0, ivec .i64 l), (2, .val (.slice none 0 0)), (3, .slc 7 5 0 l.length), (9, .val (.int .i64 (l.length : Nat))), (10, .val (.int .i64 (i : Nat)))] ∧
    hp = [(7, ⟨41, true, .fracs ((ofInts l).take i ++ List.replicate (l.length - i) 0)⟩)]) l.length ?_ ?_ ?_
  · kernel_rfl
  · exact ⟨0, rfl, Nat.zero_le _, rfl, rfl⟩
  rintro m _ _ ⟨i, rfl, hi, rfl, rfl⟩
  conv => whnf
  have hlen := fill_len (d := (0 : Rat)) hi hz
  by_cases hlt : i < l.length
  · have t1 := dlt hlt
    have t2 := winc (i := i) (by omega)
    obtain ⟨b1, b2⟩ := h i hlt
    have k1 := c_fInt (l.getD i 0) b1 b2
    rw [← map_get (f := fun (n : Int) => ((n : Int) : Rat)) (e := 0) hlt] at k1
    (repeat ((first | refine step_w1 rfl rfl ?_ | refine And.intro (by first | decide | omega | (simp only [tiB5, tiB23, tiB3, tiB2, tiB9, tiB41, tiB72, tiB29, tiB30, tiB39, tiB33, tiB4, tiB68, tiB70, dlen, List.length_replicate, List.length_set, List.length_map, List.length_zipWith, List.length_take, List.length_append, List.length_cons, List.length_nil]; omega)) ?_ | refine g_c (by assumption) ?_ | refine g_o (op_loadA rfl (ev_ok rfl) (tgt rfl) rfl (Nat.succ_ne_zero _) rfl) ?_ | refine g_o (op_indexN (α := Int) (d := 0) rfl (ev_ok rfl) (ev_ok rfl) (tgt rfl) rfl (tgt rfl) rfl (by omega)) ?_ | rw [t1] | rw [t2] | rw [Int.toNat_natCast] | rw [Nat.zero_add]); conv => whnf))
    refine ⟨l.length - (i + 1), fun k => k, [0, 2, 3, 9, 10], [7], by omega, by kernel_rfl, i + 1, rfl, hlt, rfl, ?_⟩
    rw [← fill_set (e := 0) hlt hz]
    rfl
  · have t1 := dge hlt
    have hI : i = l.length := by omega
    subst hI
    rw [fill_all hz]
    (repeat (first | (refine step_w2 rfl rfl ?_; conv => whnf) | (rw [t1]; conv => whnf))); (first | exact Recast.refl _ | exact Frz.recast (Recast.refl _) rfl | (refine Frz.one rfl rfl ?_; (repeat (first | (refine FrzC.fracs rfl ?_; (first | rfl | omega | (simp <;> fail) | (simp <;> omega)))))) | (refine Frz.tup ?_; skip))

/-- The elements at some places. -/
def vpart (a : List Rat) (p : List Int) : List Rat := p.map fun i => a.getD i.toNat 0
theorem v_Part (a : List Rat) (p : List Int) (ha : a.length ≤ 2048) (hp : p.length ≤ 2048) (h : ∀ i, i < p.length → 0 ≤ p.getD i 0 ∧ p.getD i 0 < a.length) : CallOK Tryz.prog 29 [fvec a, ivec .i64 p] [] (.tup [fvec (vpart a p), .val (.int .i64 0)]) [] [] := by
  have t0 : decide ((if (p.length : Int) > (a.length : Int) then (p.length : Int) else (a.length : Int)) > 2048) = false := decide_eq_false (by split <;> omega)
  refine callF (Z := []) tabOK mixedOK Tryz.func29 rfl (by kernel_rfl) (by first | rfl | (simp [keylessL, keyless, keylessL_map, *]; done)) (by first | rfl | (simp [keylessL, keyless, keylessL_map, *]; done)) (by kernel_rfl) rfl ?_
  intro w0 ρ0 hE
  conv => whnf
  (repeat ((first | refine step_w2 rfl rfl ?_ | refine And.intro (by first | decide | omega | (simp only [tiB5, tiB23, tiB3, tiB2, tiB9, tiB41, tiB72, tiB29, tiB30, tiB39, tiB33, tiB4, tiB68, tiB70, dlen, List.length_replicate, List.length_set, List.length_map, List.length_zipWith, List.length_take, List.length_append, List.length_cons, List.length_nil]; omega)) ?_ | refine g_o (op_lenM rfl rfl rfl (ev_ok rfl) (tgt rfl) rfl) ?_ | rw [t0] | rw [Int.toNat_natCast]); conv => whnf))
  have hz : (vpart a p).length = p.length := by simp [vpart]
  refine SW_loopN hE (fun k => k) [0, 1, 4, 5, 6, 18, 19, 20] [17] (fun m fr hp => ∃ i, m = p.length - i ∧ i ≤ p.length ∧ fr = [(0, fvec a), (1, ivec .i64 p), (4, .val (.slice none 0 0)), (5, .val (.int .i64 0)), (6, .slc 17 5 0 p.length), (18, ivec .i64 p), (19, .val (.int .i64 (p.length : Nat))), (20, .val (.int .i64 (i : Nat)))] ∧
    hp = [(17, ⟨41, true, .fracs ((vpart a p).take i ++ List.replicate (p.length - i) 0)⟩)]) p.length ?_ ?_ ?_
  · kernel_rfl
  · exact ⟨0, rfl, Nat.zero_le _, rfl, rfl⟩
  rintro m _ _ ⟨i, rfl, hi, rfl, rfl⟩
  conv => whnf
  have hlen := fill_len (d := (0 : Rat)) hi hz
  by_cases hlt : i < p.length
  · have t1 := dlt hlt
    have t2 := winc (i := i) (by omega)
    obtain ⟨b1, b2⟩ := h i hlt
    have e1 : a.getD (p.getD i 0).toNat 0 = (vpart a p).getD i 0 := (map_get (f := fun (i : Int) => a.getD i.toNat 0) hlt).symm
    have t3 : decide (p.getD i 0 < 0) = false := decide_eq_false (by omega)
    have t4 : decide (p.getD i 0 ≥ (a.length : Int)) = false := decide_eq_false (by omega)
    (repeat ((first | refine step_w1 rfl rfl ?_ | refine step_w2 rfl rfl ?_ | refine And.intro (by first | decide | omega | (simp only [tiB5, tiB23, tiB3, tiB2, tiB9, tiB41, tiB72, tiB29, tiB30, tiB39, tiB33, tiB4, tiB68, tiB70, dlen, List.length_replicate, List.length_set, List.length_map, List.length_zipWith, List.length_take, List.length_append, List.length_cons, List.length_nil]; omega)) ?_ | refine g_o (op_pickF rfl (ev_ok rfl) (ev_ok rfl)) ?_ | refine g_o (op_lenM rfl rfl rfl (ev_ok rfl) (tgt rfl) rfl) ?_ | refine g_o (op_loadA rfl (ev_ok rfl) (tgt rfl) rfl (Nat.succ_ne_zero _) rfl) ?_ | refine g_o (op_indexN (α := Int) (d := 0) rfl (ev_ok rfl) (ev_ok rfl) (tgt rfl) rfl (tgt rfl) rfl (by omega)) ?_ | refine g_o (op_indexM (α := Rat) (d := 0) rfl (ev_ok rfl) (ev_ok rfl) (tgt rfl) rfl (tgt rfl) rfl (by omega)) ?_ | rw [t1] | rw [t3] | rw [t4] | rw [e1] | rw [t2] | rw [Int.toNat_natCast] | rw [Nat.zero_add]); conv => whnf))
    refine ⟨p.length - (i + 1), fun k => k, [0, 1, 4, 5, 6, 18, 19, 20], [17], by omega, by kernel_rfl, i + 1, rfl, hlt, rfl, ?_⟩
    rw [← fill_set (e := 0) hlt hz]
    rfl
  · have t1 := dge hlt
    have hI : i = p.length := by omega
    subst hI
    rw [fill_all hz]
    (repeat (first | (refine step_w2 rfl rfl ?_; conv => whnf) | (rw [t1]; conv => whnf))); (first | exact Recast.refl _ | exact Frz.recast (Recast.refl _) rfl | (refine Frz.one rfl rfl ?_; skip) | (refine Frz.tup ?_; (repeat (first | exact FrzC.keyless rfl | exact FrzL.nil | refine FrzL.cons ?_ ?_ | (refine FrzC.fracs rfl ?_; (first | rfl | omega | (simp <;> fail) | (simp <;> omega)))))))

theorem alike_zero {ls : List (List Rat)} {n : Nat} (hl : ∀ v ∈ ls, v.length = n) (hn2 : n ≤ 2048) : alikeF ls = 0 := by
  rw [alikeF, if_neg, if_pos]
  · refine List.all_eq_true.2 fun v hv => ?_
    rw [hl v hv]
    cases ls with
    | nil => cases hv
    | cons x l => rw [List.headD_cons, hl x (List.mem_cons_self ..)]; exact beq_self_eq_true _
  · rw [Bool.not_eq_true, List.any_eq_false]
    intro v hv
    rw [hl v hv]
    simp; omega

/-- The sum of the first vectors. -/
def sumN (ls : List (List Rat)) (n : Nat) : Nat → List Rat
  | 0 => List.replicate n 0
  | i + 1 => vadd (sumN ls n i) (ls.getD i [])
theorem sumN_len {ls : List (List Rat)} {n : Nat} (hl : ∀ v ∈ ls, v.length = n) : ∀ i, i ≤ ls.length → (sumN ls n i).length = n
  | 0, _ => by simp [sumN]
  | i + 1, h => by
    have h1 := sumN_len hl i (by omega)
    have h2 := hl _ (getD_mem (d := []) (show i < ls.length by omega))
    rw [sumN]; exact zip_len h1 h2
theorem sumN_fs {ls : List (List Rat)} {n B : Nat} (hl : ∀ v ∈ ls, v.length = n) (hb : ∀ v ∈ ls, ∀ k, k < n → fs (v.getD k 0) ≤ B) : ∀ i, i ≤ ls.length → ∀ k, k < n → fs ((sumN ls n i).getD k 0) ≤ 2 + i * B
  | 0, _, k, hk => by
    have : (List.replicate n (0 : Rat)).getD k 0 = 0 := by simp [List.getD_eq_getElem?_getD, hk]
    rw [sumN, this, fs_zero]; omega
  | i + 1, h, k, hk => by
    have h1 := sumN_fs hl hb i (by omega) k hk
    have hm := getD_mem (d := []) (show i < ls.length by omega)
    have h2 := hb _ hm k hk
    have h3 := sumN_len hl i (by omega)
    rw [sumN, zip_get (d1 := 0) (d2 := 0) (by omega) (by rw [hl _ hm]; exact hk)]
    have := fs_add ((sumN ls n i).getD k 0) ((ls.getD i []).getD k 0)
    rw [Nat.succ_mul]; omega

theorem v_Sum (ls : List (List Rat)) (n B : Nat) (hn : ls.length < 1048576) (h0 : ls ≠ []) (hl : ∀ v ∈ ls, v.length = n) (hn2 : n ≤ 2048) (hb : ∀ v ∈ ls, ∀ k, k < n → fs (v.getD k 0) ≤ B) (hB : 2 + ls.length * B + B ≤ 1073741824) :
    CallOK Tryz.prog 49 [mvec 1 fvec ls] [] (.tup [fvec (sumN ls n ls.length), .val (.int .i64 0)]) [] [] := by
  have ka := v_alike ls (by omega) (fun v hv => by rw [hl v hv]; omega)
  rw [alike_zero hl hn2] at ka
  have hpos : 0 < ls.length := List.length_pos_iff.2 h0
  have t0 : ((ls.length : Int) == 0) = false := beq_false_of_ne (by omega)
  have hlen0 := hl _ (getD_mem (d := []) hpos)
  have t9 : (((ls.getD 0 []).length : Nat) : Int) = (n : Int) := by rw [hlen0]
  refine callF (Z := []) tabOK mixedOK Tryz.func49 rfl (by kernel_rfl) (by first | rfl | (simp [keylessL, keyless, keylessL_map, *]; done)) (by first | rfl | (simp [keylessL, keyless, keylessL_map, *]; done)) (by kernel_rfl) rfl ?_
  intro w0 ρ0 hE
  conv => whnf
  (repeat ((first | refine step_w1 rfl rfl ?_ | refine step_w2 rfl rfl ?_ | refine And.intro (by first | decide | omega | (simp only [tiB5, tiB23, tiB3, tiB2, tiB9, tiB41, tiB72, tiB29, tiB30, tiB39, tiB33, tiB4, tiB68, tiB70, dlen, List.length_replicate, List.length_set, List.length_map, List.length_zipWith, List.length_take, List.length_append, List.length_cons, List.length_nil]; omega)) ?_ | refine g_c (by assumption) ?_ | refine g_o (op_pickF rfl (ev_ok rfl) (ev_ok rfl)) ?_ | rw [bne_self_eq_false] | refine g_o (op_lenM rfl rfl rfl (ev_ok rfl) (tgt rfl) rfl) ?_ | refine g_o (op_loadA rfl (ev_ok rfl) (tgt rfl) rfl (Nat.succ_ne_zero _) rfl) ?_ | refine g_o (op_indexN (α := List Rat) (d := []) rfl (ev_ok rfl) (ev_ok rfl) (tgt rfl) rfl (tgt rfl) rfl (by omega)) ?_ | rw [t0] | rw [t9] | rw [Int.toNat_natCast]); conv => whnf))
  refine SWx_freezeF 2 21 (fun _ h => h) rfl rfl (by simp) ?_
  refine SW_loopN hE (fun k => k) [0, 2, 3, 4, 22, 23, 24] [] (fun m fr hp => ∃ i, m = ls.length - i ∧ i ≤ ls.length ∧ fr = [(0, mvec 1 fvec ls), (2, fvec (sumN ls n i)), (3, .val (.int .i64 0)), (4, .val (.int .i64 0)), (22, mvec 1 fvec ls), (23, .val (.int .i64 (ls.length : Nat))), (24, .val (.int .i64 (i : Nat)))] ∧ hp = []) ls.length ?_ ?_ ?_
  · kernel_rfl
  · exact ⟨0, rfl, Nat.zero_le _, rfl, rfl⟩
  rintro m _ _ ⟨i, rfl, hi, rfl, rfl⟩
  conv => whnf
  by_cases hlt : i < ls.length
  · have t1 := dlt hlt
    have t2 := winc (i := i) (by omega)
    have hm := getD_mem (d := []) hlt
    have h3 := sumN_len hl i hi
    have hi2 : i * B ≤ ls.length * B := Nat.mul_le_mul_right _ hi
    have k1 := v_Add (sumN ls n i) (ls.getD i []) (by rw [h3, hl _ hm]) (by omega) (fun k hk => by
      have h1 := sumN_fs hl hb i hi k (by omega)
      have h2 := hb _ hm k (by omega)
      omega)
    (repeat ((first | refine step_w1 rfl rfl ?_ | refine g_c (by assumption) ?_ | refine g_o (op_loadA rfl (ev_ok rfl) (tgt rfl) rfl (Nat.succ_ne_zero _) rfl) ?_ | refine g_o (op_indexN (α := List Rat) (d := []) rfl (ev_ok rfl) (ev_ok rfl) (tgt rfl) rfl (tgt rfl) rfl (by omega)) ?_ | rw [t1] | rw [t2]); conv => whnf))
    exact ⟨ls.length - (i + 1), fun k => k, [0, 2, 3, 4, 22, 23, 24], [], by omega, by kernel_rfl, i + 1, rfl, hlt, rfl, rfl⟩
  · have t1 := dge hlt
    have hI : i = ls.length := by omega
    subst hI
    (repeat (first | (refine step_w2 rfl rfl ?_; conv => whnf) | (rw [t1]; conv => whnf))); (first | exact Recast.refl _ | exact Frz.recast (Recast.refl _) rfl | (refine Frz.one rfl rfl ?_; skip) | (refine Frz.tup ?_; skip))

/-- The first part of a linear combination. -/
def mixN (c : List Rat) (ls : List (List Rat)) (n : Nat) : Nat → List Rat
  | 0 => List.replicate n 0
  | i + 1 => vaxpy (c.getD i 0) (ls.getD i []) (mixN c ls n i)
theorem mixN_len {c : List Rat} {ls : List (List Rat)} {n : Nat} (hl : ∀ v ∈ ls, v.length = n) : ∀ i, i ≤ ls.length → (mixN c ls n i).length = n
  | 0, _ => by simp [mixN]
  | i + 1, h => by
    have h1 := mixN_len (c := c) hl i (by omega)
    have h2 := hl _ (getD_mem (d := []) (show i < ls.length by omega))
    rw [mixN]; exact zip_len h2 h1
theorem mixN_fs {c : List Rat} {ls : List (List Rat)} {n B : Nat} (hc : c.length = ls.length) (hl : ∀ v ∈ ls, v.length = n) (hb : ∀ v ∈ ls, ∀ k, k < n → fs (v.getD k 0) ≤ B) (hcb : ∀ q ∈ c, fs q ≤ B) : ∀ i, i ≤ ls.length → ∀ k, k < n → fs ((mixN c ls n i).getD k 0) ≤ 2 + i * (B + B)
  | 0, _, k, hk => by
    have : (List.replicate n (0 : Rat)).getD k 0 = 0 := by simp [List.getD_eq_getElem?_getD, hk]
    rw [mixN, this, fs_zero]; omega
  | i + 1, h, k, hk => by
    have h1 := mixN_fs hc hl hb hcb i (by omega) k hk
    have hm := getD_mem (d := []) (show i < ls.length by omega)
    have hmc := hcb _ (getD_mem (d := 0) (show i < c.length by omega))
    have h2 := hb _ hm k hk
    have h3 := mixN_len (c := c) hl i (by omega)
    rw [mixN, zip_get (d1 := 0) (d2 := 0) (by rw [hl _ hm]; exact hk) (by omega)]
    have h4 := fs_add (c.getD i 0 * (ls.getD i []).getD k 0) ((mixN c ls n i).getD k 0)
    have h5 := fs_mul (c.getD i 0) ((ls.getD i []).getD k 0)
    rw [Nat.succ_mul]; omega

theorem v_Mix (c : List Rat) (ls : List (List Rat)) (n B : Nat) (hc : c.length = ls.length) (hn : ls.length < 1048576) (h0 : ls ≠ []) (hl : ∀ v ∈ ls, v.length = n) (hn2 : n ≤ 2048) (hb : ∀ v ∈ ls, ∀ k, k < n → fs (v.getD k 0) ≤ B) (hcb : ∀ q ∈ c, fs q ≤ B)
    (hB : 2 + ls.length * (B + B) + (B + B) ≤ 1073741824) : CallOK Tryz.prog 23 [fvec c, mvec 1 fvec ls] [] (.tup [fvec (mixN c ls n ls.length), .val (.int .i64 0)]) [] [] := by
  have ka := v_alike ls (by omega) (fun v hv => by rw [hl v hv]; omega)
  rw [alike_zero hl hn2] at ka
  have hpos : 0 < ls.length := List.length_pos_iff.2 h0
  have t0 : ((ls.length : Int) == 0) = false := beq_false_of_ne (by omega)
  have t1 : ((c.length : Int) != (ls.length : Int)) = false := by rw [hc]; exact bne_self_eq_false _
  have hlen0 := hl _ (getD_mem (d := []) hpos)
  have t9 : (((ls.getD 0 []).length : Nat) : Int) = (n : Int) := by rw [hlen0]
  refine callF (Z := []) tabOK mixedOK Tryz.func23 rfl (by kernel_rfl) (by first | rfl | (simp [keylessL, keyless, keylessL_map, *]; done)) (by first | rfl | (simp [keylessL, keyless, keylessL_map, *]; done)) (by kernel_rfl) rfl ?_
  intro w0 ρ0 hE
  conv => whnf
  (repeat ((first | refine step_w1 rfl rfl ?_ | refine step_w2 rfl rfl ?_ | refine And.intro (by first | decide | omega | (simp only [tiB5, tiB23, tiB3, tiB2, tiB9, tiB41, tiB72, tiB29, tiB30, tiB39, tiB33, tiB4, tiB68, tiB70, dlen, List.length_replicate, List.length_set, List.length_map, List.length_zipWith, List.length_take, List.length_append, List.length_cons, List.length_nil]; omega)) ?_ | refine g_c (by assumption) ?_ | refine g_o (op_pickF rfl (ev_ok rfl) (ev_ok rfl)) ?_ | rw [bne_self_eq_false] | refine g_o (op_lenM rfl rfl rfl (ev_ok rfl) (tgt rfl) rfl) ?_ | refine g_o (op_loadA rfl (ev_ok rfl) (tgt rfl) rfl (Nat.succ_ne_zero _) rfl) ?_ | refine g_o (op_indexN (α := List Rat) (d := []) rfl (ev_ok rfl) (ev_ok rfl) (tgt rfl) rfl (tgt rfl) rfl (by omega)) ?_ | rw [t0] | rw [t1] | rw [t9] | rw [Int.toNat_natCast]); conv => whnf))
  refine SWx_freezeF 7 34 (fun _ h => h) rfl rfl (by simp) ?_
  refine SW_loopN hE (fun k => k) [0, 1, 4, 5, 7, 36, 37] [] (fun m fr hp => ∃ i, m = ls.length - i ∧ i ≤ ls.length ∧ fr = [(0, fvec c), (1, mvec 1 fvec ls), (4, .val (.slice none 0 0)), (5, .val (.int .i64 0)), (7, fvec (mixN c ls n i)), (36, .val (.int .i64 (ls.length : Nat))), (37, .val (.int .i64 (i : Nat)))] ∧ hp = []) ls.length ?_ ?_ ?_
  · kernel_rfl
  · exact ⟨0, rfl, Nat.zero_le _, rfl, rfl⟩
  rintro m _ _ ⟨i, rfl, hi, rfl, rfl⟩
  conv => whnf
  by_cases hlt : i < ls.length
  · have t1 := dlt hlt
    have t2 := winc (i := i) (by omega)
    have hm := getD_mem (d := []) hlt
    have hmc := hcb _ (getD_mem (d := 0) (show i < c.length by omega))
    have h3 := mixN_len (c := c) hl i hi
    have hi2 : i * (B + B) ≤ ls.length * (B + B) := Nat.mul_le_mul_right _ hi
    have k1 := v_Axpy (c.getD i 0) (ls.getD i []) (mixN c ls n i) (by rw [h3, hl _ hm]) (by rw [hl _ hm]; omega) (fun k hk => by
      rw [hl _ hm] at hk
      have h1 := mixN_fs hc hl hb hcb i hi k (by omega)
      have h2 := hb _ hm k (by omega)
      omega)
    (repeat ((first | refine step_w1 rfl rfl ?_ | refine step_i (by kernel_rfl) ?_ | refine g_c (by assumption) ?_ | refine g_o (op_indexN (α := Rat) (d := 0) rfl (ev_ok rfl) (ev_ok rfl) (tgt rfl) rfl (tgt rfl) rfl (by omega)) ?_ | refine g_o (op_loadA rfl (ev_ok rfl) (tgt rfl) rfl (Nat.succ_ne_zero _) rfl) ?_ | refine g_o (op_indexN (α := List Rat) (d := []) rfl (ev_ok rfl) (ev_ok rfl) (tgt rfl) rfl (tgt rfl) rfl (by omega)) ?_ | rw [t1] | rw [t2]); conv => whnf))
    exact ⟨ls.length - (i + 1), fun k => k, [0, 1, 4, 5, 7, 36, 37], [], by omega, by kernel_rfl, i + 1, rfl, hlt, rfl, rfl⟩
  · have t1 := dge hlt
    have hI : i = ls.length := by omega
    subst hI
    (repeat (first | (refine step_w2 rfl rfl ?_; conv => whnf) | (rw [t1]; conv => whnf))); (first | exact Recast.refl _ | exact Frz.recast (Recast.refl _) rfl | (refine Frz.one rfl rfl ?_; skip) | (refine Frz.tup ?_; skip))
end Go.Proofs.YtgodfkgocbppgaaGreatDoor

namespace Go.Proofs
open Go.Shelf
def Tryz.lays156_ren : Go.Shelf.Ren := ⟨fun | 156 => 88 | 165 => 122 | 166 => 123 | 169 => 124 | 240 => 146 | 241 => 147 | 276 => 161 | 277 => 162 | n => n, fun | 31 => 123 | 9 => 9 | 3 => 3 | 4 => 4 | 0 => 0 | 20 => 20 | 72 => 160 | 76 => 164 | 70 => 157 | 37 => 158 | 75 => 163 | 127 => 185 | 164 => 198 | 5 => 5 | 80 => 166 | n => n, fun | n => n⟩
theorem Tryz.lays156 : Go.Proofs.Lays.n156 Tryz.prog Tryz.lays156_ren := {
  mixed := by kernel_rfl
  f156 := Tryz.func88.trans (congrArg some (by kernel_rfl))
  f165 := Tryz.func122.trans (congrArg some (by kernel_rfl))
  f166 := Tryz.func123.trans (congrArg some (by kernel_rfl))
  f169 := Tryz.func124.trans (congrArg some (by kernel_rfl))
  f240 := Tryz.func146.trans (congrArg some (by kernel_rfl))
  f241 := Tryz.func147.trans (congrArg some (by kernel_rfl))
  f276 := Tryz.func161.trans (congrArg some (by kernel_rfl))
  f277 := Tryz.func162.trans (congrArg some (by kernel_rfl))
  t0 := Tryz.underlying0
  a0 := Tryz.isAgg0
  z0 := Tryz.sizeOf0
  v0 := Tryz.zeroValue0
  t3 := Tryz.underlying3
  a3 := Tryz.isAgg3
  z3 := Tryz.sizeOf3
  v3 := Tryz.zeroValue3
  t4 := Tryz.underlying4
  a4 := Tryz.isAgg4
  z4 := Tryz.sizeOf4
  v4 := Tryz.zeroValue4
  t9 := Tryz.underlying9
  a9 := Tryz.isAgg9
  z9 := Tryz.sizeOf9
  v9 := Tryz.zeroValue9
  t20 := Tryz.underlying20
  a20 := Tryz.isAgg20
  z20 := Tryz.sizeOf20
  v20 := Tryz.zeroValue20
  t31 := Tryz.underlying123
  a31 := Tryz.isAgg123
  z31 := Tryz.sizeOf123
  v31 := Tryz.zeroValue123
  t37 := Tryz.underlying158
  a37 := Tryz.isAgg158
  z37 := Tryz.sizeOf158
  v37 := Tryz.zeroValue158
  t70 := Tryz.underlying157
  a70 := Tryz.isAgg157
  z70 := Tryz.sizeOf157
  v70 := Tryz.zeroValue157
  t72 := Tryz.underlying160
  a72 := Tryz.isAgg160
  z72 := Tryz.sizeOf160
  v72 := Tryz.zeroValue160
  t75 := Tryz.underlying163
  a75 := Tryz.isAgg163
  z75 := Tryz.sizeOf163
  v75 := Tryz.zeroValue163
  t76 := Tryz.underlying164
  a76 := Tryz.isAgg164
  z76 := Tryz.sizeOf164
  v76 := Tryz.zeroValue164
  t127 := Tryz.underlying185
  a127 := Tryz.isAgg185
  z127 := Tryz.sizeOf185
  v127 := Tryz.zeroValue185
  t164 := Tryz.underlying198
  a164 := Tryz.isAgg198
  z164 := Tryz.sizeOf198
  v164 := Tryz.zeroValue198 }
theorem Tryz.Builder_Extra_156 : Builder.Extra Tryz.prog Tryz.lays156_ren := {
  sizeBuilder := by kernel_rfl
  liesBuilder := by kernel_rfl
  t5 := Tryz.underlying5
  a5 := Tryz.isAgg5
  z5 := Tryz.sizeOf5
  v5 := Tryz.zeroValue5
  infoByte := by kernel_rfl
  cellsByte := by kernel_rfl
  sizeByte := by kernel_rfl
  neB5 := by decide }
open Go.RowKit in
/-- No element: the empty string; the world is as it was. (Whatever the slice's address and capacity: a nil slice too.) (LAID: no walk: one application.) -/
theorem Tryz.strings_Join_none (a : Option Addr) (c : Nat) (sep : ByteArray) (w : World) :
    Calls Tryz.prog 88 #[.slice a 0 c, .string sep] w fun e w' => e = .returned (.string ⟨#[]⟩) ∧ w' = w := Any.strings_Join_none Tryz.lays156 Tryz.Builder_Extra_156 a c sep w
open Go.RowKit in
/-- strings.Join: "Join concatenates the elements of its first argument to create a single string. The separator string sep is placed between elements in the resulting string.": HOWEVER MANY ELEMENTS. Below the heap's end the world is as it was. (LAID: no walk: one application.) -/
theorem Tryz.strings_Join (bk o c : Nat) (xs : List ByteArray) (sep : ByteArray) (w : World) (hcells : ∀ (j : Nat) x, xs[j]? = some x → w.cell? ⟨bk, o + j, none⟩ = some (.string x)) (hbk : bk < w.heap.size) (hN : xs.length ≤ 140737488355328) (hcap : xs.length ≤ c) (hlen : (Lib.join (xs.map (·.data.toList)) sep.data.toList).length ≤ 140737488355328) :
    Calls Tryz.prog 88 #[.slice (some ⟨bk, o, none⟩) xs.length c, .string sep] w fun e w' => e = .returned (.string ⟨(Lib.join (xs.map (·.data.toList)) sep.data.toList).toArray⟩) ∧ Below w.heap.size w w' := Any.strings_Join Tryz.lays156 Tryz.Builder_Extra_156 bk o c xs sep w hcells hbk hN hcap hlen
def Tryz.lays283_ren : Go.Shelf.Ren := ⟨fun | 283 => 154 | n => n, fun | 3 => 3 | 9 => 9 | 4 => 4 | n => n, fun | n => n⟩
theorem Tryz.lays283 : Go.Proofs.Lays.n283 Tryz.prog Tryz.lays283_ren := {
  mixed := by kernel_rfl
  f283 := Tryz.func154.trans (congrArg some (by kernel_rfl))
  t3 := Tryz.underlying3
  a3 := Tryz.isAgg3
  z3 := Tryz.sizeOf3
  v3 := Tryz.zeroValue3
  t4 := Tryz.underlying4
  a4 := Tryz.isAgg4
  z4 := Tryz.sizeOf4
  v4 := Tryz.zeroValue4
  t9 := Tryz.underlying9
  a9 := Tryz.isAgg9
  z9 := Tryz.sizeOf9
  v9 := Tryz.zeroValue9 }
open Go.Lib in
/-- internal/strconv.small: "small returns the string for an i with 0 <= i < nSmalls.": i's decimal numeral. The world is as it was. (LAID: no walk: one application.) -/
theorem Tryz.internal_strconv_small (i : Nat) (h : i < 100) (w : World) :
    Calls Tryz.prog 154 #[.int .i64 i] w fun e w' => e = .returned (.string ⟨(Lib.decDigits i).toArray⟩) ∧ w' = w := Any.internal_strconv_small Tryz.lays283 i h w
end Go.Proofs

namespace Go.Proofs.YtgodfkgocbppgaaGreatDoor
open Go.Sx
set_option linter.unusedSimpArgs false
set_option linter.unusedVariables false
set_option maxRecDepth 100000
set_option maxHeartbeats 4000000

/-- The decimal text of a number. -/
def decF : Nat → Nat → List UInt8
  | 0, _ => []
  | f + 1, n => if n < 10 then [UInt8.ofNat (48 + n)] else decF f (n / 10) ++ [UInt8.ofNat (48 + n % 10)]
theorem decF_eq : ∀ f n, n < f → decF f n = Lib.decDigits n
  | 0, n, h => by omega
  | f + 1, n, h => by
    rw [decF, Lib.decDigits]
    by_cases h1 : n < 10
    · rw [if_pos h1, dif_pos h1]
    · rw [if_neg h1, dif_neg h1, decF_eq f (n / 10) (by omega)]
def tN (n : Nat) : ByteArray := ⟨(decF (n + 1) n).toArray⟩
theorem tN_eq (n : Nat) : tN n = ⟨(Lib.decDigits n).toArray⟩ := by rw [tN, decF_eq _ _ (Nat.lt_succ_self n)]
def tZ (z : Int) : ByteArray := if z < 0 then "-".toUTF8 ++ tN z.natAbs else tN z.natAbs
def tQ (q : Rat) : ByteArray := if q.den = 1 then tZ q.num else tZ q.num ++ "/".toUTF8 ++ tN q.den

theorem t_small (i : Nat) (h : i < 100) : CallOK Tryz.prog 154 [.val (.int .i64 (i : Nat))] [] (.val (.string (tN i))) [] [] :=
  call_vals' (vs := [.int .i64 (i : Nat)]) ⟨Tryz.f154, Tryz.func154, rfl, by kernel_rfl⟩ rfl (fun w => by rw [tN_eq]; exact Tryz.internal_strconv_small i h w)

theorem t_iFormat (n : Nat) (h : n < 100) : CallOK Tryz.prog 139 [.val (.int .u64 (n : Nat)), .val (.int .i64 10)] [] (.val (.string (tN n))) [] [] := by
  have k1 := t_small n h
  have t1 : decide ((n : Int) < 100) = true := decide_eq_true (by omega)
  have t2 : IntKind.i64.wrap (n : Int) = n := wrap_i64 (by omega) (by omega)
  refine callV (Z := []) tabOK mixedOK Tryz.func139 rfl (by kernel_rfl) rfl rfl (by kernel_rfl) rfl ?_
  intro W0 w0 ρ0 hE
  conv => whnf
  (repeat ((first | refine step_w1 rfl rfl ?_ | refine g_c (by assumption) ?_ | rw [beq_self_eq_true] | rw [t1] | rw [t2]); conv => whnf)); (first | exact Recast.refl _ | exact Frz.recast (Recast.refl _) rfl | (refine Frz.one rfl rfl ?_; skip) | (refine Frz.tup ?_; skip))
theorem t_Format (n : Nat) (h : n < 100) : CallOK Tryz.prog 111 [.val (.int .u64 (n : Nat)), .val (.int .i64 10)] [] (.val (.string (tN n))) [] [] := by
  have k1 := t_iFormat n h
  refine callV (Z := []) tabOK mixedOK Tryz.func111 rfl (by kernel_rfl) rfl rfl (by kernel_rfl) rfl ?_
  intro W0 w0 ρ0 hE
  conv => whnf
  (repeat (first | (refine g_c (by assumption) ?_; conv => whnf))); (first | exact Recast.refl _ | exact Frz.recast (Recast.refl _) rfl | (refine Frz.one rfl rfl ?_; skip) | (refine Frz.tup ?_; skip))
theorem t_Nat (n : Nat) (h : n < 100) : CallOK Tryz.prog 79 [.nat n] [] (.val (.string (tN n))) [] [] := by
  have k1 := t_Format n h
  have e1 : low n = (n : Int) := low_small (by omega)
  have e2 : ((big n).toList == (ByteArray.mk #[]).toList) = true := by rw [big_eq]; exact decide_eq_true (by omega)
  refine callV (Z := []) tabOK mixedOK Tryz.func79 rfl (by kernel_rfl) rfl rfl (by kernel_rfl) rfl ?_
  intro W0 w0 ρ0 hE
  conv => whnf
  (repeat ((first | refine step_w1 rfl rfl ?_ | refine g_c (by assumption) ?_ | rw [e2] | rw [e1]); conv => whnf)); (first | exact Recast.refl _ | exact Frz.recast (Recast.refl _) rfl | (refine Frz.one rfl rfl ?_; skip) | (refine Frz.tup ?_; skip))

theorem tN_size : ∀ n, n < 100 → (tN n).size ≤ 2 := by
  intro n h
  rw [tN_eq]
  show (Lib.decDigits n).toArray.size ≤ 2
  by_cases h1 : n < 10
  · rw [Lib.decDigits_one h1]; simp
  · rw [Lib.decDigits_two h1 h]; simp
theorem t_Int (z : Int) (h : z.natAbs < 100) : CallOK Tryz.prog 78 [.int z] [] (.val (.string (tZ z))) [] [] := by
  have k1 := t_Nat z.natAbs h
  have hs := tN_size _ h
  have h1 : (ByteArray.mk #[45]).size = 1 := rfl
  have h2 : (ByteArray.mk #[45]).size + (tN z.natAbs).size ≤ 9223372036854775807 := by omega
  unfold tZ
  refine callV (Z := []) tabOK mixedOK Tryz.func78 rfl (by kernel_rfl) rfl rfl (by kernel_rfl) rfl ?_
  intro W0 w0 ρ0 hE
  conv => whnf
  by_cases hz : z < 0
  · have t1 : decide (z < 0) = true := decide_eq_true hz
    rw [if_pos hz]
    (repeat ((first | refine step_w1 rfl rfl ?_ | refine And.intro (by first | decide | omega | (simp only [tiB5, tiB23, tiB3, tiB2, tiB9, tiB41, tiB72, tiB29, tiB30, tiB39, tiB33, tiB4, tiB68, tiB70, dlen, List.length_replicate, List.length_set, List.length_map, List.length_zipWith, List.length_take, List.length_append, List.length_cons, List.length_nil]; omega)) ?_ | refine g_c (by assumption) ?_ | rw [t1]); conv => whnf)); (first | exact Recast.refl _ | exact Frz.recast (Recast.refl _) rfl | (refine Frz.one rfl rfl ?_; skip) | (refine Frz.tup ?_; skip))
  · have t1 : decide (z < 0) = false := decide_eq_false hz
    rw [if_neg hz]
    (repeat (first | (refine step_w2 rfl rfl ?_; conv => whnf) | (refine g_c (by assumption) ?_; conv => whnf) | (rw [t1]; conv => whnf))); (first | exact Recast.refl _ | exact Frz.recast (Recast.refl _) rfl | (refine Frz.one rfl rfl ?_; skip) | (refine Frz.tup ?_; skip))
theorem tZ_size {z : Int} (h : z.natAbs < 100) : (tZ z).size ≤ 3 := by
  have hs := tN_size _ h
  unfold tZ
  split
  · rw [ByteArray.size_append]; have : ("-".toUTF8).size = 1 := rfl; omega
  · omega
theorem t_Frac (q : Rat) (h : q.num.natAbs < 100) (h' : q.den < 100) : CallOK Tryz.prog 44 [.frac q] [] (.val (.string (tQ q))) [] [] := by
  have kw := c_Whole q
  have k1 := t_Int q.num h
  have k2 := t_Nat q.den h'
  have k3 := c_den natBig q (Nat.le_trans (sz_le.2 (show q.den < 2 ^ 64 by omega)) (by decide))
  have hs := tZ_size h
  have hs2 := tN_size _ h'
  have h1 : (ByteArray.mk #[47]).size = 1 := rfl
  have h2 : (tZ q.num).size + (ByteArray.mk #[47]).size ≤ 9223372036854775807 := by omega
  have h3 : (tZ q.num ++ (ByteArray.mk #[47])).size + (tN q.den).size ≤ 9223372036854775807 := by rw [ByteArray.size_append]; omega
  unfold tQ
  refine callV (Z := []) tabOK mixedOK Tryz.func44 rfl (by kernel_rfl) rfl rfl (by kernel_rfl) rfl ?_
  intro W0 w0 ρ0 hE
  conv => whnf
  by_cases hd : q.den = 1
  · rw [decide_eq_true hd] at kw
    rw [if_pos hd]
    (repeat (first | (refine step_w1 rfl rfl ?_; conv => whnf) | (refine g_c (by assumption) ?_; conv => whnf))); (first | exact Recast.refl _ | exact Frz.recast (Recast.refl _) rfl | (refine Frz.one rfl rfl ?_; skip) | (refine Frz.tup ?_; skip))
  · rw [decide_eq_false hd] at kw
    rw [if_neg hd]
    (repeat ((first | refine step_w2 rfl rfl ?_ | refine step_i (by kernel_rfl) ?_ | refine And.intro (by first | decide | omega | (simp only [tiB5, tiB23, tiB3, tiB2, tiB9, tiB41, tiB72, tiB29, tiB30, tiB39, tiB33, tiB4, tiB68, tiB70, dlen, List.length_replicate, List.length_set, List.length_map, List.length_zipWith, List.length_take, List.length_append, List.length_cons, List.length_nil]; omega)) ?_ | refine g_c (by assumption) ?_); conv => whnf)); (first | exact Recast.refl _ | exact Frz.recast (Recast.refl _) rfl | (refine Frz.one rfl rfl ?_; skip) | (refine Frz.tup ?_; skip))

/-- The text of a vector. -/
def tV (a : List Rat) : ByteArray := "[".toUTF8 ++ ⟨(Lib.join ((a.map tQ).map (·.data.toList)) [32]).toArray⟩ ++ "]".toUTF8

theorem t_Join (ss : List ByteArray) (hN : ss.length ≤ 1099511627776) (hlen : (Lib.join (ss.map (·.data.toList)) [32]).length ≤ 140737488355328) :
    CallOK Tryz.prog 88 [mvec 1 sel ss, .val (.string ⟨#[32]⟩)] [] (.val (.string ⟨(Lib.join (ss.map (·.data.toList)) [32]).toArray⟩)) [] [] := by
  refine call_strs ⟨Tryz.f88, Tryz.func88, rfl, by kernel_rfl⟩ rfl ?_ ?_
  · rintro rfl a w
    exact Tryz.strings_Join_none a 0 ⟨#[32]⟩ w
  · intro bk o c w hc hb hcap
    exact Tryz.strings_Join bk o c ss ⟨#[32]⟩ w hc hb (by omega) hcap hlen

theorem t_Vec (a : List Rat) (hl : a.length ≤ 2048) (h : ∀ i, i < a.length → (a.getD i 0).num.natAbs < 100 ∧ (a.getD i 0).den < 100) (hJ : (Lib.join ((a.map tQ).map (·.data.toList)) [32]).length ≤ 140737488355328) : CallOK Tryz.prog 52 [fvec a] [] (.val (.string (tV a))) [] [] := by
  have hz : ((a.map tQ).map sel).length = a.length := by simp
  have hget : ∀ i, i < a.length → ((a.map tQ).map sel).getD i .any = .val (.string (tQ (a.getD i 0))) := fun i hi => by rw [map_get (d := ByteArray.empty) (by simpa using hi), map_get (d := 0) hi]; rfl
  have kj := t_Join (a.map tQ) (by simp; omega) hJ
  refine callF (Z := []) tabOK mixedOK Tryz.func52 rfl (by kernel_rfl) (by first | rfl | (simp [keylessL, keyless, keylessL_map, *]; done)) (by first | rfl | (simp [keylessL, keyless, keylessL_map, *]; done)) (by kernel_rfl) rfl ?_
  intro w0 ρ0 hE
  conv => whnf
  (repeat (first | (refine And.intro (by first | decide | omega | (simp only [tiB5, tiB23, tiB3, tiB2, tiB9, tiB41, tiB72, tiB29, tiB30, tiB39, tiB33, tiB4, tiB68, tiB70, dlen, List.length_replicate, List.length_set, List.length_map, List.length_zipWith, List.length_take, List.length_append, List.length_cons, List.length_nil]; omega)) ?_; conv => whnf) | (refine g_o (op_lenM rfl rfl rfl (ev_ok rfl) (tgt rfl) rfl) ?_; conv => whnf) | (rw [Int.toNat_natCast]; conv => whnf)))
  refine SW_loopS hE (fun k => k) [0, 2, 3, 9, 10, 11] [8] (fun m fr hp => ∃ i, m = a.length - i ∧ i ≤ a.length ∧ fr = [(0, fvec a), (2, .val (.string ⟨#[]⟩)), (3, .slc 8 1 0 a.length), (9, fvec a), (10, .val (.int .i64 (a.length : Nat))), (11, .val (.int .i64 (i : Nat)))] ∧
    hp = [(8, ⟨9, true, .seq 1 (((a.map tQ).map sel).take i ++ List.replicate (a.length - i) (.val (.string .empty)))⟩)]) a.length ?_ ?_ ?_
  · kernel_rfl
  · exact ⟨0, rfl, Nat.zero_le _, rfl, rfl⟩
  rintro m _ _ ⟨i, rfl, hi, rfl, rfl⟩
  have hlen := fill_len (d := SV.val (.string .empty)) hi hz
  by_cases hlt : i < a.length
  · have t1 := dlt hlt
    have t2 := winc (i := i) (by omega)
    obtain ⟨b1, b2⟩ := h i hlt
    have k1 := t_Frac (a.getD i 0) b1 b2
    refine SWx.of hE ?_
    conv => whnf
    have e3 := fill_get (d := SV.val (.string .empty)) (e := SV.any) hlt hz
    (repeat ((first | refine step_w1 rfl rfl ?_ | refine And.intro (by first | decide | omega | (simp only [tiB5, tiB23, tiB3, tiB2, tiB9, tiB41, tiB72, tiB29, tiB30, tiB39, tiB33, tiB4, tiB68, tiB70, dlen, List.length_replicate, List.length_set, List.length_map, List.length_zipWith, List.length_take, List.length_append, List.length_cons, List.length_nil]; omega)) ?_ | refine g_c (by assumption) ?_ | refine g_o (op_indexN (α := Rat) (d := 0) rfl (ev_ok rfl) (ev_ok rfl) (tgt rfl) rfl (tgt rfl) rfl (by omega)) ?_ | refine g_o (op_loadA rfl (ev_ok rfl) (tgt rfl) rfl (Nat.succ_ne_zero _) rfl) ?_ | rw [t1] | rw [e3] | rw [t2] | rw [Int.toNat_natCast] | rw [Nat.zero_add]); conv => whnf))
    refine ⟨a.length - (i + 1), fun k => k, [0, 2, 3, 9, 10, 11], [8], by omega, by kernel_rfl, i + 1, rfl, hlt, rfl, ?_⟩
    rw [← fill_set (e := .any) hlt hz, hget i hlt]
    rfl
  · have t1 := dge hlt
    have hI : i = a.length := by omega
    subst hI
    rw [fill_all hz]
    refine SWx_freezeM 3 8 (fun _ h => h) (fun _ => rfl) rfl rfl (by simp) ?_
    refine SWx.of hE ?_
    conv => whnf
    have h91 : (ByteArray.mk #[91]).size = 1 := rfl
    have h93 : (ByteArray.mk #[93]).size = 1 := rfl
    have hjs : (ByteArray.mk (Lib.join ((a.map tQ).map (·.data.toList)) [32]).toArray).size = (Lib.join ((a.map tQ).map (·.data.toList)) [32]).length := by show (Lib.join ((a.map tQ).map (·.data.toList)) [32]).toArray.size = _; simp
    have o1 : (ByteArray.mk #[91]).size + (ByteArray.mk (Lib.join ((a.map tQ).map (·.data.toList)) [32]).toArray).size ≤ 9223372036854775807 := by omega
    have o2 : (ByteArray.mk #[91] ++ ByteArray.mk (Lib.join ((a.map tQ).map (·.data.toList)) [32]).toArray).size + (ByteArray.mk #[93]).size ≤ 9223372036854775807 := by rw [ByteArray.size_append]; omega
    (repeat ((first | refine step_w2 rfl rfl ?_ | refine And.intro (by first | decide | omega | (simp only [tiB5, tiB23, tiB3, tiB2, tiB9, tiB41, tiB72, tiB29, tiB30, tiB39, tiB33, tiB4, tiB68, tiB70, dlen, List.length_replicate, List.length_set, List.length_map, List.length_zipWith, List.length_take, List.length_append, List.length_cons, List.length_nil]; omega)) ?_ | refine g_c (by assumption) ?_ | rw [t1]); conv => whnf)); (first | exact Recast.refl _ | exact Frz.recast (Recast.refl _) rfl | (refine Frz.one rfl rfl ?_; skip) | (refine Frz.tup ?_; skip))
end Go.Proofs.YtgodfkgocbppgaaGreatDoor

namespace Go.Proofs.YtgodfkgocbppgaaGreatDoor
open Go.Sx
set_option linter.unusedSimpArgs false
set_option linter.unusedVariables false
set_option maxRecDepth 100000
set_option maxHeartbeats 4000000

/-- A fraction as plain data, its value. -/
abbrev qA : Int × Int → SV := ag2 (iel .i64) (iel .u32)
def qV (q : Int × Int) : Rat := (q.1 : Rat) / ((if q.2 < 1 then 1 else q.2 : Int) : Rat)
/-- Its bounds. -/
def qOK (q : Int × Int) : Prop := (-9223372036854775808 ≤ q.1 ∧ q.1 < 9223372036854775808) ∧ (0 ≤ q.2 ∧ q.2 < 4294967296)

theorem fs_qV {q : Int × Int} (h : qOK q) : fs (qV q) ≤ 130 := by
  have h1 := fs_div (q.1 : Rat) ((if q.2 < 1 then 1 else q.2 : Int) : Rat)
  have h2 := fs_int h.1.1 h.1.2
  have h3 : fs ((if q.2 < 1 then 1 else q.2 : Int) : Rat) ≤ 65 := fs_int (by have := h.2; split <;> omega) (by have := h.2; split <;> omega)
  unfold qV
  omega

theorem c_QOf (q : Int × Int) (h : qOK q) : CallOK Tryz.prog 16 [qA q] [] (.frac (qV q)) [] [] := by
  have hd : (if q.2 < 1 then 1 else q.2) ≠ 0 := by have := h.2; split <;> omega
  have e1 : (if (1 : Int) > q.2 then 1 else q.2) = (if q.2 < 1 then 1 else q.2) := rfl
  have e2 : IntKind.i64.wrap (if (1 : Int) > q.2 then 1 else q.2) = (if q.2 < 1 then 1 else q.2) := wrap_i64 (by have := h.2; split <;> omega) (by have := h.2; split <;> omega)
  have g2 := fs_int h.1.1 h.1.2
  have g3 : fs ((if q.2 < 1 then 1 else q.2 : Int) : Rat) ≤ 65 := fs_int (by have := h.2; split <;> omega) (by have := h.2; split <;> omega)
  have k1 := c_fOf natBig q.1 (if q.2 < 1 then 1 else q.2) (by unfold fs at g2 g3; omega) h.1.1 h.1.2 (by have := h.2; split <;> omega) (by have := h.2; split <;> omega) hd
  refine callV (Z := []) tabOK mixedOK Tryz.func16 rfl (by kernel_rfl) rfl rfl (by kernel_rfl) rfl ?_
  intro W0 w0 ρ0 hE
  conv => whnf
  (repeat (first | (refine g_c (by assumption) ?_; conv => whnf) | (rw [e2]; conv => whnf))); (first | exact Recast.refl _ | exact Frz.recast (Recast.refl _) rfl | (refine Frz.one rfl rfl ?_; skip) | (refine Frz.tup ?_; skip))

theorem app_snoc {α : Type} {l : List α} {i : Nat} {d : α} (h : i < l.length) : (l.take i).take i ++ (([l.getD i d] : List α).drop 0).take 1 = l.take (i + 1) := by
  have e : l.take (i + 1) = l.take i ++ [l.getD i d] := by rw [List.take_add_one, List.getD_eq_getElem?_getD, List.getElem?_eq_getElem h]; rfl
  rw [List.take_take, Nat.min_self, e]; rfl

theorem c_V (l : List (Int × Int)) (hl : l.length < 1048576) (h : ∀ q ∈ l, qOK q) : CallOK Tryz.prog 14 [mvec 2 qA l] [] (fvec (l.map qV)) [] [] := by
  have hz : (l.map qV).length = l.length := by simp
  refine callF (Z := []) tabOK mixedOK Tryz.func14 rfl (by kernel_rfl) (by first | rfl | (simp [keylessL, keyless, keylessL_map, *]; done)) (by first | rfl | (simp [keylessL, keyless, keylessL_map, *]; done)) (by kernel_rfl) rfl ?_
  intro w0 ρ0 hE
  conv => whnf
  skip
  refine SWx_adopt (t := 3) (k := 2001) (s := 5) (blk := ⟨41, true, .fracs []⟩) rfl rfl rfl ?_
  refine SW_loopN hE (fun k => k) [0, 2, 3, 4] [2001] (fun m fr hp => ∃ i, m = l.length - i ∧ i ≤ l.length ∧ fr = [(0, mvec 2 qA l), (2, .val (.slice none 0 0)), (3, .slc 2001 5 0 i), (4, .val (.int .i64 (i : Nat)))] ∧ hp = [(2001, ⟨41, true, .fracs ((l.map qV).take i)⟩)]) l.length ?_ ?_ ?_
  · kernel_rfl
  · exact ⟨0, rfl, Nat.zero_le _, rfl, rfl⟩
  rintro m _ _ ⟨i, rfl, hi, rfl, rfl⟩
  have hlen : ((l.map qV).take i).length = i := by simp; omega
  conv => whnf
  by_cases hlt : i < l.length
  · have t1 := dlt hlt
    have t2 := winc (i := i) (by omega)
    have k1 := c_QOf (l.getD i (0, 0)) (h _ (getD_mem hlt))
    rw [← map_get (f := qV) (e := 0) hlt] at k1
    (repeat ((first | refine step_w1 rfl rfl ?_ | refine And.intro (by first | decide | omega | (simp only [tiB5, tiB23, tiB3, tiB2, tiB9, tiB41, tiB72, tiB29, tiB30, tiB39, tiB33, tiB4, tiB68, tiB70, dlen, List.length_replicate, List.length_set, List.length_map, List.length_zipWith, List.length_take, List.length_append, List.length_cons, List.length_nil]; omega)) ?_ | refine g_c (by assumption) ?_ | refine g_o (op_lenM rfl rfl rfl (ev_ok rfl) (tgt rfl) rfl) ?_ | refine g_o (op_loadA rfl (ev_ok rfl) (tgt rfl) rfl (Nat.succ_ne_zero _) rfl) ?_ | refine g_o (op_indexN (α := Int × Int) (d := (0, 0)) rfl (ev_ok rfl) (ev_ok rfl) (tgt rfl) rfl (tgt rfl) rfl (by omega)) ?_ | rw [t1] | rw [t2]); conv => whnf))
    refine ⟨l.length - (i + 1), renBy [(18, 2001)], [0, 2, 3, 4], [18], by omega, by kernel_rfl, i + 1, rfl, hlt, rfl, ?_⟩
    rw [← app_snoc (d := 0) (show i < (l.map qV).length by rw [hz]; exact hlt)]
    rfl
  · have t1 := dge hlt
    have hI : i = l.length := by omega
    subst hI
    rw [List.take_of_length_le (by simp)]
    (repeat (first | (refine step_w2 rfl rfl ?_; conv => whnf) | (refine g_o (op_lenM rfl rfl rfl (ev_ok rfl) (tgt rfl) rfl) ?_; conv => whnf) | (rw [t1]; conv => whnf))); (first | exact Recast.refl _ | exact Frz.recast (Recast.refl _) rfl | (refine Frz.one rfl rfl ?_; (repeat (first | (refine FrzC.fracs rfl ?_; (first | rfl | omega | (simp <;> fail) | (simp <;> omega)))))) | (refine Frz.tup ?_; skip))
end Go.Proofs.YtgodfkgocbppgaaGreatDoor

namespace Go.Proofs.YtgodfkgocbppgaaGreatDoor
open Go.Sx
set_option linter.unusedSimpArgs false
set_option linter.unusedVariables false

section
variable (x y : Nat → Rat)
end

end Go.Proofs.YtgodfkgocbppgaaGreatDoor

namespace Go.Proofs.YtgodfkgocbppgaaGreatDoor
open Go.Sx
set_option linter.unusedSimpArgs false
set_option linter.unusedVariables false
set_option maxRecDepth 100000
set_option maxHeartbeats 4000000

/-- Vectors that are refused. -/
theorem v_eachE (a b : List Rat) (g : FuncId) (ha : a.length < 1099511627776) (hb : b.length < 1099511627776) (h : alikeF [a, b] ≠ 0) : CallOK Tryz.prog 70 [fvec a, fvec b, .clo g [] []] [] (.tup [fvec [], .val (.int .i64 (alikeF [a, b]))]) [] [] := by
  have k1 := v_alike [a, b] (by simp) (by simp; omega)
  have t1 : (alikeF [a, b] != 0) = true := bne_iff_ne.2 h
  refine callF (Z := [13]) tabOK mixedOK Tryz.func70 rfl (by kernel_rfl) (by first | rfl | (simp [keylessL, keyless, keylessL_map, *]; done)) (by first | rfl | (simp [keylessL, keyless, keylessL_map, *]; done)) (by kernel_rfl) rfl ?_
  intro w0 ρ0 hE
  conv => whnf
  (repeat (first | (refine step_w1 rfl rfl ?_; conv => whnf) | (refine g_c (by assumption) ?_; conv => whnf) | (rw [t1]; conv => whnf))); (first | exact Recast.refl _ | exact Frz.recast (Recast.refl _) rfl | (refine Frz.one rfl rfl ?_; skip) | (refine Frz.tup ?_; (repeat (first | exact FrzC.keyless rfl | exact FrzL.nil | refine FrzL.cons ?_ ?_ | exact FrzC.nilS))))
theorem v_AddE (a b : List Rat) (ha : a.length < 1099511627776) (hb : b.length < 1099511627776) (h : alikeF [a, b] ≠ 0) : CallOK Tryz.prog 35 [fvec a, fvec b] [] (.tup [fvec [], .val (.int .i64 (alikeF [a, b]))]) [] [] := by
  have k1 := v_eachE a b 31 ha hb h
  refine callV (Z := []) tabOK mixedOK Tryz.func35 rfl (by kernel_rfl) rfl rfl (by kernel_rfl) rfl ?_
  intro W0 w0 ρ0 hE
  conv => whnf
  (repeat (first | (refine g_c (by assumption) ?_; conv => whnf))); (first | exact Recast.refl _ | exact Frz.recast (Recast.refl _) rfl | (refine Frz.one rfl rfl ?_; skip) | (refine Frz.tup ?_; skip))

abbrev h12 : Rat := ((1 : Int) : Rat) / ((2 : Int) : Rat)
theorem l_works : CallOK Tryz.prog 12 [] [] (.val (.bool true)) [] [] := by
  have k1 := c_fOf natBig 1 2 (by decide +kernel) (by decide) (by decide) (by decide) (by decide) (by decide)
  have o1 := v_Of [1, -2] (by decide) (by decide)
  have o2 := v_Of [0, 3] (by decide) (by decide)
  have o3 := v_Of [1, 2, 3] (by decide) (by decide)
  have o4 := v_Of [4, 5, 6] (by decide) (by decide)
  have o5 := v_Of [2, 3] (by decide) (by decide)
  have o6 := v_Of [1, 0] (by decide) (by decide)
  have o7 := v_Of [0, 1] (by decide) (by decide)
  have o8 := v_Of [5, 6, 7] (by decide) (by decide)
  have o9 := v_Of [1] (by decide) (by decide)
  have o10 := v_Of [1, 2] (by decide) (by decide)
  have o11 := v_Of [2, -7] (by decide) (by decide)
  have k2 := v_Axpy h12 (ofInts [1, -2]) (ofInts [0, 3]) rfl (by decide) (by decide +kernel)
  have k3 := v_Dot (ofInts [1, 2, 3]) (ofInts [4, 5, 6]) rfl (by decide) (by unfold Fit; decide +kernel) (by decide +kernel)
  have k4 := v_Mix (ofInts [2, 3]) [ofInts [1, 0], ofInts [0, 1]] 2 10 rfl (by decide) (by decide) (by decide) (by decide) (by decide +kernel) (by decide +kernel) (by decide)
  have k5 := v_Part (ofInts [5, 6, 7]) [2, 0, 2] (by decide) (by decide) (by decide)
  have k6 := v_AddE (ofInts [1]) (ofInts [1, 2]) (by decide) (by decide) (by decide)
  have t1 := t_Vec (ofInts [1, -2]) (by decide) (by decide +kernel) (by decide +kernel)
  have t2 := t_Vec (vaxpy h12 (ofInts [1, -2]) (ofInts [0, 3])) (by decide) (by decide +kernel) (by decide +kernel)
  have t3 := t_Vec (mixN (ofInts [2, 3]) [ofInts [1, 0], ofInts [0, 1]] 2 [ofInts [1, 0], ofInts [0, 1]].length) (by decide) (by decide +kernel) (by decide +kernel)
  have t4 := t_Vec (vpart (ofInts [5, 6, 7]) [2, 0, 2]) (by decide) (by decide +kernel) (by decide +kernel)
  have t5 := (t_Vec [] (by decide) (by decide) (by decide)).nil1 (a := none)
  have k7 := c_fInt 32 (by decide) (by decide)
  have k8 := c_fInt 7 (by decide) (by decide)
  have k9 := v_UnitI 2 2 (by decide) (by decide)
  have k10 := v_ZeroE (-1) (by decide)
  have k11 := v_ZeroE 2049 (by decide)
  have k12 := v_Max (ofInts [2, -7]) (by decide) 100 (by decide) (by decide) (by decide +kernel)
  have k13 := (v_Max [] (by decide) 100 (by decide) (by decide) (by decide)).nil1 (a := none)
  have q1 : (!(tV (ofInts [1, -2])).toList == (ByteArray.mk #[91, 49, 32, 45, 50, 93]).toList) = false := by decide +kernel
  have q2 : (!(tV (vaxpy h12 (ofInts [1, -2]) (ofInts [0, 3]))).toList == (ByteArray.mk #[91, 49, 47, 50, 32, 50, 93]).toList) = false := by decide +kernel
  have q3 : (!(tV (mixN (ofInts [2, 3]) [ofInts [1, 0], ofInts [0, 1]] 2 [ofInts [1, 0], ofInts [0, 1]].length)).toList == (ByteArray.mk #[91, 50, 32, 51, 93]).toList) = false := by decide +kernel
  have q4 : (!(tV (vpart (ofInts [5, 6, 7]) [2, 0, 2])).toList == (ByteArray.mk #[91, 55, 32, 53, 32, 55, 93]).toList) = false := by decide +kernel
  have q5 : (!decide (vdot (ofInts [1, 2, 3]) (ofInts [4, 5, 6]) = ((32 : Int) : Rat))) = false := by decide +kernel
  have q6 : (alikeF [ofInts [1], ofInts [1, 2]] != 1) = false := by decide +kernel
  have q7 : (decide (vmax (ofInts [2, -7]) = ((7 : Int) : Rat))) = true := by decide +kernel
  have q8 : (decide (vmax [] = (0 : Rat))) = true := by decide +kernel
  have q9 : ((tV []).toList == (ByteArray.mk #[91, 93]).toList) = true := by decide +kernel
  refine callV (Z := [24, 29, 35, 37, 43, 45, 47, 49, 54, 56, 61, 63, 134]) tabOK mixedOK Tryz.func12 rfl (by kernel_rfl) rfl rfl (by kernel_rfl) rfl ?_
  intro W0 w0 ρ0 hE
  conv => whnf
  (repeat ((first | refine step_w1 rfl rfl ?_ | refine step_w2 rfl rfl ?_ | refine step_i (by kernel_rfl) ?_ | refine g_c (by assumption) ?_ | refine g_o (op_pickT rfl (ev_ok rfl) (ev_ok rfl)) ?_ | refine g_o (op_pickF rfl (ev_ok rfl) (ev_ok rfl)) ?_ | rw [beq_self_eq_true] | rw [bne_self_eq_false] | refine ⟨_, op_eqAgg tabOK goodOK rfl (ev_ok rfl) (ev_ok rfl) rfl rfl rfl rfl (q_same _ _) q_guard, ?_⟩ | refine ⟨_, op_neAgg tabOK goodOK rfl (ev_ok rfl) (ev_ok rfl) rfl rfl rfl rfl (q_same _ _) q_guard, ?_⟩ | rw [q1] | rw [q2] | rw [q3] | rw [q4] | rw [q5] | rw [q6] | rw [q7] | rw [q9]); conv => whnf)); (first | exact Recast.refl _ | exact Frz.recast (Recast.refl _) rfl | (refine Frz.one rfl rfl ?_; skip) | (refine Frz.tup ?_; skip))
end Go.Proofs.YtgodfkgocbppgaaGreatDoor

namespace Go.Proofs.YtgodfkgocbppgaaGreatDoor
open Go.Sx
set_option linter.unusedSimpArgs false
set_option linter.unusedVariables false
set_option maxRecDepth 100000
set_option maxHeartbeats 4000000

/-- All elements have at most B bits. -/
def Sm (B : Nat) (l : List Rat) : Prop := ∀ i, i < l.length → fs (l.getD i 0) ≤ B
theorem Sm_V {l : List (Int × Int)} (h : ∀ q ∈ l, qOK q) : Sm 130 (l.map qV) := by
  intro i hi
  rw [List.length_map] at hi
  rw [map_get (f := qV) (d := (0, 0)) hi]
  exact fs_qV (h _ (getD_mem hi))
theorem Sm_zip {op : Rat → Rat → Rat} {a b : List Rat} {A B : Nat} (hop : ∀ x y, fs (op x y) ≤ fs x + fs y) (ha : Sm A a) (hb : Sm B b) (hab : a.length = b.length) : Sm (A + B) (List.zipWith op a b) := by
  intro i hi
  rw [List.length_zipWith] at hi
  rw [zip_get (d1 := 0) (d2 := 0) (by omega) (by omega)]
  have h1 := hop (a.getD i 0) (b.getD i 0)
  have h2 := ha i (by omega)
  have h3 := hb i (by omega)
  omega
theorem fsL_Sm : ∀ {l : List Rat} {B : Nat}, Sm B l → fsL l ≤ l.length * B
  | [], _, _ => by simp [fsL]
  | q :: l, B, h => by
    have h1 := h 0 (by simp)
    have h2 := fsL_Sm (l := l) (B := B) (fun i hi => h (i + 1) (by simpa using hi))
    have e : fsL (q :: l) = fs q + fsL l := by simp [fsL]
    rw [e, List.length_cons, Nat.succ_mul]
    have : fs q ≤ B := h1
    omega
theorem Fit_Sm {a b : List Rat} {A B : Nat} (ha : Sm A a) (hb : Sm B b) (hab : a.length = b.length) (h : A + B ≤ 1073741824) : Fit a b := by
  intro i hi
  have h1 := ha i hi
  have h2 := hb i (by omega)
  omega
/-- Bounds of plain data. -/
abbrev QWf (l : List (Int × Int)) : Prop := l.length ≤ maxLen ∧ ∀ x ∈ l, ((Lit.int .i64 x.1).wf = true) ∧ ((Lit.int .u32 x.2).wf = true)
theorem qOK_of {l : List (Int × Int)} (w : l.length ≤ maxLen ∧ ∀ x ∈ l, ((Lit.int .i64 x.1).wf = true) ∧ ((Lit.int .u32 x.2).wf = true)) : ∀ q ∈ l, qOK q := fun q hq => ⟨wf_i64 (w.2 q hq).1, wf_u32 (w.2 q hq).2⟩
theorem qOK_one {q : Int × Int} (w : ((Lit.int .i64 q.1).wf = true) ∧ ((Lit.int .u32 q.2).wf = true)) : qOK q := ⟨wf_i64 w.1, wf_u32 w.2⟩
theorem Sm_zero (n : Nat) : Sm 2 (List.replicate n 0) := by
  intro i hi
  rw [List.length_replicate] at hi
  simp [List.getD_eq_getElem?_getD, hi, fs_zero]

section
variable {a b z : List Rat} {n i : Nat} {c : Rat}
theorem get_zero (hi : i < n) : (List.replicate n (0 : Rat)).getD i 0 = 0 := by simp [List.getD_eq_getElem?_getD, hi]
end

end Go.Proofs.YtgodfkgocbppgaaGreatDoor

namespace Go.Proofs.YtgodfkgocbppgaaGreatDoor
open Go.Sx
set_option linter.unusedSimpArgs false
set_option linter.unusedVariables false
set_option maxRecDepth 100000
set_option maxHeartbeats 4000000

/-- A unit vector. -/
abbrev uv (n i : Nat) : List Rat := (List.replicate n 0).set i 1
theorem uv_len (n i : Nat) : (uv n i).length = n := by simp
theorem uv_get {n i j : Nat} (hj : j < n) : (uv n i).getD j 0 = if i = j then 1 else 0 := by
  simp only [uv, List.getD_eq_getElem?_getD, List.getElem?_set, List.length_replicate]
  by_cases h : i = j
  · subst h; simp [hj]
  · simp [h, hj]
end Go.Proofs.YtgodfkgocbppgaaGreatDoor

namespace Go.Proofs.YtgodfkgocbppgaaGreatDoor
open Go.Sx
set_option linter.unusedSimpArgs false
set_option linter.unusedVariables false
set_option maxRecDepth 100000
set_option maxHeartbeats 4000000

theorem v_eachE1 (a b : List Rat) (g : FuncId) (p : Pred) (ha : a.length < 1099511627776) (hb : b.length < 1099511627776) (h : alikeF [a, b] ≠ 0) : CallOK Tryz.prog 70 [fvec a, fvec b, .clo g [] [.atom p]] [] (.tup [fvec [], .val (.int .i64 (alikeF [a, b]))]) [] [] := by
  have k1 := v_alike [a, b] (by simp) (by simp; omega)
  have t1 : (alikeF [a, b] != 0) = true := bne_iff_ne.2 h
  refine callF (Z := [13]) tabOK mixedOK Tryz.func70 rfl (by kernel_rfl) (by first | rfl | (simp [keylessL, keyless, keylessL_map, *]; done)) (by first | rfl | (simp [keylessL, keyless, keylessL_map, *]; done)) (by kernel_rfl) rfl ?_
  intro w0 ρ0 hE
  conv => whnf
  (repeat (first | (refine step_w1 rfl rfl ?_; conv => whnf) | (refine g_c (by assumption) ?_; conv => whnf) | (rw [t1]; conv => whnf))); (first | exact Recast.refl _ | exact Frz.recast (Recast.refl _) rfl | (refine Frz.one rfl rfl ?_; skip) | (refine Frz.tup ?_; (repeat (first | exact FrzC.keyless rfl | exact FrzL.nil | refine FrzL.cons ?_ ?_ | exact FrzC.nilS))))
section
variable (c : Rat) (a b : List Rat) (ha : a.length < 1099511627776) (hb : b.length < 1099511627776) (h : alikeF [a, b] ≠ 0)
include ha hb h
theorem v_SubE : CallOK Tryz.prog 36 [fvec a, fvec b] [] (.tup [fvec [], .val (.int .i64 (alikeF [a, b]))]) [] [] := by
  have k1 := v_eachE a b 71 ha hb h
  refine callV (Z := []) tabOK mixedOK Tryz.func36 rfl (by kernel_rfl) rfl rfl (by kernel_rfl) rfl ?_
  intro W0 w0 ρ0 hE
  conv => whnf
  (repeat (first | (refine g_c (by assumption) ?_; conv => whnf))); (first | exact Recast.refl _ | exact Frz.recast (Recast.refl _) rfl | (refine Frz.one rfl rfl ?_; skip) | (refine Frz.tup ?_; skip))
theorem v_AxpyE : CallOK Tryz.prog 38 [.frac c, fvec a, fvec b] [] (.tup [fvec [], .val (.int .i64 (alikeF [a, b]))]) [] [] := by
  have k1 := v_eachE1 a b 73 (ptrP [.frac c]) ha hb h
  refine callV (Z := [3]) tabOK mixedOK Tryz.func38 rfl (by kernel_rfl) rfl rfl (by kernel_rfl) rfl ?_
  intro W0 w0 ρ0 hE
  conv => whnf
  (repeat (first | (refine g_c (by assumption) ?_; conv => whnf) | (refine g_o (op_makeFunc rfl rfl rfl) ?_; conv => whnf))); (first | exact Recast.refl _ | exact Frz.recast (Recast.refl _) rfl | (refine Frz.one rfl rfl ?_; skip) | (refine Frz.tup ?_; skip))
theorem v_DotE : CallOK Tryz.prog 43 [fvec a, fvec b] [] (.tup [.frac 0, .val (.int .i64 (alikeF [a, b]))]) [] [] := by
  have k1 := v_eachE a b 18 ha hb h
  have k2 := f_Sum [] (by decide) (by decide)
  rw [show (([] : List Rat).foldl (· + ·) 0) = 0 from rfl] at k2
  refine callV (Z := []) tabOK mixedOK Tryz.func43 rfl (by kernel_rfl) rfl rfl (by kernel_rfl) rfl ?_
  intro W0 w0 ρ0 hE
  conv => whnf
  (repeat (first | (refine g_c (by assumption) ?_; conv => whnf))); (first | exact Recast.refl _ | exact Frz.recast (Recast.refl _) rfl | (refine Frz.one rfl rfl ?_; skip) | (refine Frz.tup ?_; skip))
theorem v_SumE : CallOK Tryz.prog 49 [mvec 1 fvec [a, b]] [] (.tup [fvec [], .val (.int .i64 (alikeF [a, b]))]) [] [] := by
  have k1 := v_alike [a, b] (by simp) (by simp; omega)
  have t1 : (alikeF [a, b] != 0) = true := bne_iff_ne.2 h
  refine callF (Z := []) tabOK mixedOK Tryz.func49 rfl (by kernel_rfl) (by first | rfl | (simp [keylessL, keyless, keylessL_map, *]; done)) (by first | rfl | (simp [keylessL, keyless, keylessL_map, *]; done)) (by kernel_rfl) rfl ?_
  intro w0 ρ0 hE
  conv => whnf
  (repeat ((first | refine step_w1 rfl rfl ?_ | refine step_w2 rfl rfl ?_ | refine g_c (by assumption) ?_ | refine g_o (op_pickT rfl (ev_ok rfl) (ev_ok rfl)) ?_ | rw [t1]); conv => whnf)); (first | exact Recast.refl _ | exact Frz.recast (Recast.refl _) rfl | (refine Frz.one rfl rfl ?_; skip) | (refine Frz.tup ?_; (repeat (first | exact FrzC.keyless rfl | exact FrzL.nil | refine FrzL.cons ?_ ?_ | exact FrzC.nilS))))
theorem v_MixE (hl : a.length ≤ 2048 ∧ b.length ≤ 2048) : CallOK Tryz.prog 23 [fvec [c, c], mvec 1 fvec [a, b]] [] (.tup [fvec [], .val (.int .i64 (alikeF [a, b]))]) [] [] := by
  have k1 := v_alike [a, b] (by simp) (by simp; omega)
  have t1 : (alikeF [a, b] != 0) = true := bne_iff_ne.2 h
  have t2 : (alikeF [a, b] == 3) = false := by rw [alike_two, if_neg (by omega)]; split <;> rfl
  refine callF (Z := []) tabOK mixedOK Tryz.func23 rfl (by kernel_rfl) (by first | rfl | (simp [keylessL, keyless, keylessL_map, *]; done)) (by first | rfl | (simp [keylessL, keyless, keylessL_map, *]; done)) (by kernel_rfl) rfl ?_
  intro w0 ρ0 hE
  conv => whnf
  (repeat ((first | refine step_w1 rfl rfl ?_ | refine step_w2 rfl rfl ?_ | refine g_c (by assumption) ?_ | refine g_o (op_pickT rfl (ev_ok rfl) (ev_ok rfl)) ?_ | refine g_o (op_lenM rfl rfl rfl (ev_ok rfl) (tgt rfl) rfl) ?_ | rw [t1] | rw [t2]); conv => whnf)); (first | exact Recast.refl _ | exact Frz.recast (Recast.refl _) rfl | (refine Frz.one rfl rfl ?_; skip) | (refine Frz.tup ?_; (repeat (first | exact FrzC.keyless rfl | exact FrzL.nil | refine FrzL.cons ?_ ?_ | exact FrzC.nilS))))
end

theorem l_refusedE (c : Rat) (a b : List Rat) (ha : a.length ≤ 2048) (hb : b.length ≤ 2048) (h : a.length ≠ b.length) : CallOK Tryz.prog 25 [.frac c, fvec a, fvec b] [] (.val (.int .i64 1)) [] [] := by
  have e : alikeF [a, b] = 1 := by rw [alike_two, if_neg (by omega), if_neg h]
  have hne : alikeF [a, b] ≠ 0 := by rw [e]; decide
  have k1 := v_AddE a b (by omega) (by omega) hne
  have k2 := v_SubE a b (by omega) (by omega) hne
  have k3 := v_AxpyE c a b (by omega) (by omega) hne
  have k4 := v_DotE a b (by omega) (by omega) hne
  have k5 := v_SumE a b (by omega) (by omega) hne
  have k6 := v_MixE c a b (by omega) (by omega) hne ⟨ha, hb⟩
  rw [e] at k1 k2 k3 k4 k5 k6
  clear e hne
  refine callV (Z := [3, 47, 54, 57]) tabOK mixedOK Tryz.func25 rfl (by kernel_rfl) rfl rfl (by kernel_rfl) rfl ?_
  intro W0 w0 ρ0 hE
  conv => whnf
  (repeat ((first | refine step_w1 rfl rfl ?_ | refine step_w2 rfl rfl ?_ | refine g_c (by assumption) ?_ | refine g_o (op_pickF rfl (ev_ok rfl) (ev_ok rfl)) ?_ | refine g_o (op_loadA rfl (ev_ok rfl) (tgt rfl) rfl (Nat.succ_ne_zero _) rfl) ?_); conv => whnf)); (first | exact Recast.refl _ | exact Frz.recast (Recast.refl _) rfl | (refine Frz.one rfl rfl ?_; skip) | (refine Frz.tup ?_; skip))
theorem l_nothing (c : Rat) (a b : List Rat) (ha : a.length ≤ 2048) (hb : b.length ≤ 2048) (h : a.length ≠ b.length) : CallOK Tryz.prog 26 [.frac c, fvec a, fvec b] [] (.val (.bool true)) [] [] := by
  have e : alikeF [a, b] = 1 := by rw [alike_two, if_neg (by omega), if_neg h]
  have hne : alikeF [a, b] ≠ 0 := by rw [e]; decide
  have k1 := v_AddE a b (by omega) (by omega) hne
  have k2 := v_SubE a b (by omega) (by omega) hne
  have k3 := v_AxpyE c a b (by omega) (by omega) hne
  have k4 := v_DotE a b (by omega) (by omega) hne
  have k5 := v_SumE a b (by omega) (by omega) hne
  have k6 := v_MixE c a b (by omega) (by omega) hne ⟨ha, hb⟩
  rw [e] at k1 k2 k3 k4 k5 k6
  clear e hne
  refine callV (Z := [3, 47, 54, 57]) tabOK mixedOK Tryz.func26 rfl (by kernel_rfl) rfl rfl (by kernel_rfl) rfl ?_
  intro W0 w0 ρ0 hE
  conv => whnf
  (repeat ((first | refine step_w1 rfl rfl ?_ | refine g_c (by assumption) ?_ | refine g_o (op_pickT rfl (ev_ok rfl) (ev_ok rfl)) ?_ | refine g_o (op_lenM rfl rfl rfl (ev_ok rfl) (tgt rfl) rfl) ?_ | refine g_o (op_loadA rfl (ev_ok rfl) (tgt rfl) rfl (Nat.succ_ne_zero _) rfl) ?_ | refine ⟨_, op_eqAgg tabOK goodOK rfl (ev_ok rfl) (ev_ok rfl) rfl rfl rfl rfl (q_same _ _) q_guard, ?_⟩); conv => whnf)); (first | exact Recast.refl _ | exact Frz.recast (Recast.refl _) rfl | (refine Frz.one rfl rfl ?_; skip) | (refine Frz.tup ?_; skip))
theorem l_refused (c : Rat) (a b : List Rat) (n : Nat) (h1 : a.length = n) (h2 : b.length = n) (hn : n ≤ 20) (hc : fs c ≤ 130) (sa : Sm 130 a) (sb : Sm 130 b) : CallOK Tryz.prog 25 [.frac c, fvec a, fvec b] [] (.val (.int .i64 0)) [] [] := by
  have hab : a.length = b.length := h1.trans h2.symm
  have hl : a.length ≤ 2048 := by omega
  have hf := Fit_Sm sa sb hab (by decide)
  have hs : fsL (vmul a b) ≤ _ := fsL_Sm (Sm_zip fs_mul sa sb hab)
  rw [zip_len h1 h2] at hs
  have k1 := v_Add a b hab hl hf
  have k2 := v_Sub a b hab hl hf
  have k3 := v_Axpy c a b hab hl (fun i hi => by have := sa i hi; have := sb i (by omega); omega)
  have k4 := v_Dot a b hab hl hf (by omega)
  have hall : ∀ v ∈ [a, b], v.length = n := by intro v hv; rcases List.mem_cons.1 hv with rfl | hv; · exact h1
                                               · rcases List.mem_cons.1 hv with rfl | hv; · exact h2
                                                 · cases hv
  have hbd : ∀ v ∈ [a, b], ∀ k, k < n → fs (v.getD k 0) ≤ 130 := by
    intro v hv k hk
    rcases List.mem_cons.1 hv with rfl | hv
    · exact sa k (by omega)
    · rcases List.mem_cons.1 hv with rfl | hv
      · exact sb k (by omega)
      · cases hv
  have k5 := v_Sum [a, b] n 130 (by simp) (by simp) hall (by omega) hbd (by simp)
  have k6 := v_Mix [c, c] [a, b] n 130 (by simp) (by simp) (by simp) hall (by omega) hbd (by simp; exact hc) (by simp)
  clear hs hf hall hbd
  refine callV (Z := [3, 47, 54, 57]) tabOK mixedOK Tryz.func25 rfl (by kernel_rfl) rfl rfl (by kernel_rfl) rfl ?_
  intro W0 w0 ρ0 hE
  conv => whnf
  (repeat ((first | refine step_w1 rfl rfl ?_ | refine step_w2 rfl rfl ?_ | refine g_c (by assumption) ?_ | refine g_o (op_pickF rfl (ev_ok rfl) (ev_ok rfl)) ?_ | refine g_o (op_loadA rfl (ev_ok rfl) (tgt rfl) rfl (Nat.succ_ne_zero _) rfl) ?_); conv => whnf)); (first | exact Recast.refl _ | exact Frz.recast (Recast.refl _) rfl | (refine Frz.one rfl rfl ?_; skip) | (refine Frz.tup ?_; skip))
end Go.Proofs.YtgodfkgocbppgaaGreatDoor

namespace Go.Proofs.YtgodfkgocbppgaaGreatDoor
open Go.Sx
set_option linter.unusedSimpArgs false
set_option linter.unusedVariables false
set_option maxRecDepth 100000
set_option maxHeartbeats 8000000

theorem num_nonpos {q : Rat} : q.num ≤ 0 ↔ q ≤ 0 := by
  have := Rat.num_nonneg (q := -q)
  rw [Rat.neg_num] at this
  constructor
  · intro h
    have := this.1 (by omega)
    grind
  · intro h
    have := this.2 (by grind)
    omega
theorem sign_pos (q : Rat) : 0 < q.num.sign ↔ 0 < q := by
  have h := num_nonpos (q := q)
  rcases Int.lt_trichotomy q.num 0 with g | g | g
  · rw [Int.sign_eq_neg_one_of_neg g]
    have := h.1 (by omega)
    constructor
    · intro h; omega
    · intro h; grind
  · rw [g, Int.sign_zero]
    have := h.1 (by omega)
    constructor
    · intro h; omega
    · intro h; grind
  · rw [Int.sign_eq_one_of_pos g]
    refine ⟨fun _ => ?_, fun _ => by decide⟩
    rcases Rat.le_total (a := q) (b := 0) with h1 | h1
    · have := h.2 h1; omega
    · rcases Decidable.em (q = 0) with h2 | h2
      · rw [h2] at g; exact absurd g (by decide)
      · grind
theorem vmaxF_ge : ∀ (l : List Rat) (m : Rat), m ≤ vmaxF l m ∧ ∀ x ∈ l, rabs x ≤ vmaxF l m
  | [], m => ⟨Rat.le_refl, fun x hx => by cases hx⟩
  | y :: l, m => by
    rw [vmaxF]
    obtain ⟨h1, h2⟩ := vmaxF_ge l (if 0 < (rabs y - m).num.sign then rabs y else m)
    have h3 := sign_pos (rabs y - m)
    have h4 : m ≤ (if 0 < (rabs y - m).num.sign then rabs y else m) := by split <;> grind
    have h5 : rabs y ≤ (if 0 < (rabs y - m).num.sign then rabs y else m) := by split <;> grind
    refine ⟨Rat.le_trans h4 h1, fun x hx => ?_⟩
    rcases List.mem_cons.1 hx with rfl | hx
    · exact Rat.le_trans h5 h1
    · exact h2 x hx
theorem vmaxF_is : ∀ (l : List Rat) (m : Rat), vmaxF l m = m ∨ ∃ x ∈ l, vmaxF l m = rabs x
  | [], m => .inl rfl
  | y :: l, m => by
    rw [vmaxF]
    rcases vmaxF_is l (if 0 < (rabs y - m).num.sign then rabs y else m) with h | ⟨x, hx, h⟩
    · rw [h]; split
      · exact .inr ⟨y, List.mem_cons_self .., rfl⟩
      · exact .inl rfl
    · exact .inr ⟨x, List.mem_cons_of_mem _ hx, h⟩
theorem vmax_nonneg (l : List Rat) : 0 ≤ vmax l := (vmaxF_ge l 0).1
theorem vmax_le {l : List Rat} {n : Nat} {b : Rat} (hl : l.length = n) (hb : 0 ≤ b) (h : ∀ i, i < n → rabs (l.getD i 0) ≤ b) : vmax l ≤ b := by
  rcases vmaxF_is l 0 with g | ⟨x, hx, g⟩
  · unfold vmax; rw [g]; exact hb
  · obtain ⟨i, hi, rfl⟩ := mem_getD hx 0
    unfold vmax; rw [g]; exact h i (by omega)
theorem s_max {l : List Rat} {B n : Nat} (h : Sm B l) (hl : l.length = n) (hn : n ≤ 2048) (hB : 2 ≤ B) (h2 : B + B ≤ 1073741824) : CallOK Tryz.prog 28 [fvec l] [] (.frac (vmax l)) [] [] :=
  v_Max l (by omega) B hB h2 h

end Go.Proofs.YtgodfkgocbppgaaGreatDoor

namespace Go.Proofs.YtgodfkgocbppgaaGreatDoor
open Go.Sx
set_option linter.unusedSimpArgs false
set_option linter.unusedVariables false
set_option maxRecDepth 100000
set_option maxHeartbeats 4000000

theorem vmax_zero (n : Nat) : vmax (List.replicate n 0) = 0 :=
  Rat.le_antisymm (vmax_le List.length_replicate Rat.le_refl fun i hi => by rw [get_zero hi]; decide +kernel) (vmax_nonneg _)
theorem v_MaxZ (n : Nat) (hn : n ≤ 2048) : CallOK Tryz.prog 28 [fvec (List.replicate n 0)] [] (.frac 0) [] [] := by
  have := s_max (Sm_zero n) List.length_replicate hn (by decide) (by decide)
  rwa [vmax_zero] at this
theorem v_PartE (a : List Rat) (p : Int) (ha : a.length ≤ 2048) (h : p < 0 ∨ (a.length : Int) ≤ p) : CallOK Tryz.prog 29 [fvec a, ivec .i64 [p]] [] (.tup [fvec [], .val (.int .i64 1)]) [] [] := by
  have t0 : decide ((if (([p] : List Int).length : Int) > (a.length : Int) then (([p] : List Int).length : Int) else (a.length : Int)) > 2048) = false := decide_eq_false (by simp; split <;> omega)
  refine callF (Z := []) tabOK mixedOK Tryz.func29 rfl (by kernel_rfl) (by first | rfl | (simp [keylessL, keyless, keylessL_map, *]; done)) (by first | rfl | (simp [keylessL, keyless, keylessL_map, *]; done)) (by kernel_rfl) rfl ?_
  intro w0 ρ0 hE
  conv => whnf
  (repeat ((first | refine step_w2 rfl rfl ?_ | refine And.intro (by first | decide | omega | (simp only [tiB5, tiB23, tiB3, tiB2, tiB9, tiB41, tiB72, tiB29, tiB30, tiB39, tiB33, tiB4, tiB68, tiB70, dlen, List.length_replicate, List.length_set, List.length_map, List.length_zipWith, List.length_take, List.length_append, List.length_cons, List.length_nil]; omega)) ?_ | refine g_o (op_lenM rfl rfl rfl (ev_ok rfl) (tgt rfl) rfl) ?_ | rw [t0] | rw [Int.toNat_natCast]); conv => whnf))
  refine SW_loopN hE (fun k => k) [0, 1, 4, 5, 6, 18, 19, 20] [17] (fun m fr hp => m = 1 ∧ fr = [(0, fvec a), (1, ivec .i64 [p]), (4, .val (.slice none 0 0)), (5, .val (.int .i64 0)), (6, .slc 17 5 0 1), (18, ivec .i64 [p]), (19, .val (.int .i64 1)), (20, .val (.int .i64 0))] ∧
    hp = [(17, ⟨41, true, .fracs (List.replicate 1 0)⟩)]) 1 ?_ ?_ ?_
  · kernel_rfl
  · exact ⟨rfl, rfl, rfl⟩
  rintro m _ _ ⟨rfl, rfl, rfl⟩
  conv => whnf
  have e1 : ([p] : List Int).getD 0 0 = p := rfl
  rcases Int.lt_or_le p 0 with hp | hp
  · have t3 : decide (p < 0) = true := decide_eq_true hp
    (repeat ((first | refine step_w1 rfl rfl ?_ | refine step_w2 rfl rfl ?_ | refine g_o (op_pickT rfl (ev_ok rfl) (ev_ok rfl)) ?_ | refine g_o (op_loadA rfl (ev_ok rfl) (tgt rfl) rfl (Nat.succ_ne_zero _) rfl) ?_ | refine g_o (op_indexA rfl (ev_ok rfl) (ev_ok rfl) (tgt rfl) rfl (tgt rfl) rfl (by omega) (by first | decide | (simp; done) | omega) rfl) ?_ | rw [t3]); conv => whnf)); (first | exact Recast.refl _ | exact Frz.recast (Recast.refl _) rfl | (refine Frz.one rfl rfl ?_; skip) | (refine Frz.tup ?_; (repeat (first | exact FrzC.keyless rfl | exact FrzL.nil | refine FrzL.cons ?_ ?_ | exact FrzC.nilS))))
  · have t3 : decide (p < 0) = false := decide_eq_false (by omega)
    have t4 : decide (p ≥ (a.length : Int)) = true := decide_eq_true (by omega)
    (repeat ((first | refine step_w1 rfl rfl ?_ | refine g_o (op_pickF rfl (ev_ok rfl) (ev_ok rfl)) ?_ | refine g_o (op_lenM rfl rfl rfl (ev_ok rfl) (tgt rfl) rfl) ?_ | refine g_o (op_loadA rfl (ev_ok rfl) (tgt rfl) rfl (Nat.succ_ne_zero _) rfl) ?_ | refine g_o (op_indexA rfl (ev_ok rfl) (ev_ok rfl) (tgt rfl) rfl (tgt rfl) rfl (by omega) (by first | decide | (simp; done) | omega) rfl) ?_ | rw [t3] | rw [t4]); conv => whnf)); (first | exact Recast.refl _ | exact Frz.recast (Recast.refl _) rfl | (refine Frz.one rfl rfl ?_; skip) | (refine Frz.tup ?_; (repeat (first | exact FrzC.keyless rfl | exact FrzL.nil | refine FrzL.cons ?_ ?_ | exact FrzC.nilS))))
end Go.Proofs.YtgodfkgocbppgaaGreatDoor

namespace Go.Proofs.YtgodfkgocbppgaaGreatDoor
open Go.Sx
set_option linter.unusedSimpArgs false
set_option linter.unusedVariables false
set_option maxRecDepth 100000
set_option maxHeartbeats 8000000

theorem c_Errors (c : Int × Int) (la lb : List (Int × Int)) (n i : Int) (hc : qOK c) (hoa : ∀ q ∈ la, qOK q) (hob : ∀ q ∈ lb, qOK q) :
    CallOK Tryz.prog 5 [qA c, mvec 2 qA la, mvec 2 qA lb, .val (.int .i64 n), .val (.int .i64 i)] [] (.val (.bool true)) [] [] := by
  have kw := l_works
  refine callV (Z := [5, 150]) tabOK mixedOK Tryz.func5 rfl (by kernel_rfl) rfl rfl (by kernel_rfl) rfl ?_
  intro W0 w0 ρ0 hE
  conv => whnf
  by_cases h1 : la.length > 20
  · have t1 : Hid (decide ((la.length : Int) > 20) = true) := show decide ((la.length : Int) > 20) = true from decide_eq_true (by omega)
    (repeat ((first | refine step_w1 rfl rfl ?_ | refine step_w2 rfl rfl ?_ | refine g_c (by assumption) ?_ | refine g_o (op_pickT rfl (ev_ok rfl) (ev_ok rfl)) ?_ | refine g_o (op_lenM rfl rfl rfl (ev_ok rfl) (tgt rfl) rfl) ?_ | rw [t1.out]); conv => whnf)); (first | exact Recast.refl _ | exact Frz.recast (Recast.refl _) rfl | (refine Frz.one rfl rfl ?_; skip) | (refine Frz.tup ?_; skip))
  have t1 : Hid (decide ((la.length : Int) > 20) = false) := show decide ((la.length : Int) > 20) = false from decide_eq_false (by omega)
  by_cases h2 : lb.length > 20
  · have t2 : Hid (decide ((lb.length : Int) > 20) = true) := show decide ((lb.length : Int) > 20) = true from decide_eq_true (by omega)
    (repeat ((first | refine step_w1 rfl rfl ?_ | refine g_c (by assumption) ?_ | refine g_o (op_pickF rfl (ev_ok rfl) (ev_ok rfl)) ?_ | refine g_o (op_lenM rfl rfl rfl (ev_ok rfl) (tgt rfl) rfl) ?_ | rw [t1.out] | rw [t2.out]); conv => whnf)); (first | exact Recast.refl _ | exact Frz.recast (Recast.refl _) rfl | (refine Frz.one rfl rfl ?_; skip) | (refine Frz.tup ?_; skip))
  have t2 : Hid (decide ((lb.length : Int) > 20) = false) := show decide ((lb.length : Int) > 20) = false from decide_eq_false (by omega)
  have kx := c_V la (by omega) hoa
  have ky := c_V lb (by omega) hob
  have hx : (la.map qV).length ≤ 20 := by rw [List.length_map]; omega
  have hy : (lb.map qV).length ≤ 20 := by rw [List.length_map]; omega
  have sx := Sm_V hoa
  have sy := Sm_V hob
  have kp := c_QOf c hc
  have fp := fs_qV hc
  clear hoa hob hc h1 h2
  generalize qV c = p at *
  generalize la.map qV = x at *
  generalize lb.map qV = y at *
  have A : ((x.length : Int) != (y.length : Int)) = false ∧ CallOK Tryz.prog 25 [.frac p, fvec x, fvec y] [] (.val (.int .i64 0)) [] [] ∧ True ∨
      ((x.length : Int) != (y.length : Int)) = true ∧ CallOK Tryz.prog 25 [.frac p, fvec x, fvec y] [] (.val (.int .i64 1)) [] [] ∧ CallOK Tryz.prog 26 [.frac p, fvec x, fvec y] [] (.val (.bool true)) [] [] := by
    by_cases h : x.length = y.length
    · exact .inl ⟨by rw [h]; exact bne_self_eq_false _, l_refused p x y x.length rfl h.symm hx fp sx sy, trivial⟩
    · exact .inr ⟨bne_iff_ne.2 (by omega), l_refusedE p x y (by omega) (by omega) h, l_nothing p x y (by omega) (by omega) h⟩
  clear sx sy fp hy
  have ko := c_fInt 1 (by decide) (by decide)
  by_cases hi : i < 0
  · have c1 : decide (i ≥ 0) = false := decide_eq_false (by omega)
    have b3 : decide (i < 0) = true := decide_eq_true hi
    have kP := v_PartE x i (by omega) (.inl hi)
    by_cases hB : n < 0
    · have b1 : decide (n < 0) = true := decide_eq_true hB
      have e1 : fitsF n = 1 := by unfold fitsF; rw [if_pos hB]
      have kZ := v_ZeroE n (by rw [e1]; decide)
      have kU := v_UnitE n i (by rw [e1]; decide)
      rw [e1] at kZ kU
      rcases A with ⟨tA, kA, kN⟩ | ⟨tA, kA, kN⟩ <;> ((repeat ((first | refine step_w1 rfl rfl ?_ | refine step_w2 rfl rfl ?_ | refine step_i (by kernel_rfl) ?_ | refine g_c (by assumption) ?_ | refine g_o (op_pickT rfl (ev_ok rfl) (ev_ok rfl)) ?_ | refine g_o (op_pickF rfl (ev_ok rfl) (ev_ok rfl)) ?_ | rw [bne_self_eq_false] | refine g_o (op_lenM rfl rfl rfl (ev_ok rfl) (tgt rfl) rfl) ?_ | refine g_o (op_loadA rfl (ev_ok rfl) (tgt rfl) rfl (Nat.succ_ne_zero _) rfl) ?_ | rw [t1.out] | rw [t2.out] | rw [tA] | rw [b1] | rw [c1]); conv => whnf)); (first | exact Recast.refl _ | exact Frz.recast (Recast.refl _) rfl | (refine Frz.one rfl rfl ?_; skip) | (refine Frz.tup ?_; skip)))
    by_cases hB2 : 2048 < n
    · have b1 : decide (n < 0) = false := decide_eq_false (by omega)
      have b2 : decide (n > 2048) = true := decide_eq_true (by omega)
      have e1 : fitsF n = 3 := by unfold fitsF; rw [if_neg (by omega), if_pos (by omega)]
      have kZ := v_ZeroE n (by rw [e1]; decide)
      have kU := v_UnitE n i (by rw [e1]; decide)
      rw [e1] at kZ kU
      rcases A with ⟨tA, kA, kN⟩ | ⟨tA, kA, kN⟩ <;> ((repeat ((first | refine step_w1 rfl rfl ?_ | refine step_w2 rfl rfl ?_ | refine step_i (by kernel_rfl) ?_ | refine g_c (by assumption) ?_ | refine g_o (op_pickT rfl (ev_ok rfl) (ev_ok rfl)) ?_ | refine g_o (op_pickF rfl (ev_ok rfl) (ev_ok rfl)) ?_ | rw [bne_self_eq_false] | refine g_o (op_lenM rfl rfl rfl (ev_ok rfl) (tgt rfl) rfl) ?_ | refine g_o (op_loadA rfl (ev_ok rfl) (tgt rfl) rfl (Nat.succ_ne_zero _) rfl) ?_ | rw [t1.out] | rw [t2.out] | rw [tA] | rw [b1] | rw [b2] | rw [c1]); conv => whnf)); (first | exact Recast.refl _ | exact Frz.recast (Recast.refl _) rfl | (refine Frz.one rfl rfl ?_; skip) | (refine Frz.tup ?_; skip)))
    obtain ⟨N, rfl⟩ := Int.eq_ofNat_of_zero_le (show 0 ≤ n by omega)
    have kU := v_UnitI N i (by omega) (.inl hi)
    have b1 : decide ((N : Int) < 0) = false := decide_eq_false (by omega)
    have b2 : decide ((N : Int) > 2048) = false := decide_eq_false (by omega)
    have kZ := v_Zero N (by omega)
    have kM := v_MaxZ N (by omega)
    have b5 : (((List.replicate N (0 : Rat)).length : Int) != (N : Int)) = false := by rw [List.length_replicate]; exact bne_self_eq_false _
    have b6 : (!decide ((0 : Rat) = 0)) = false := by decide +kernel
    generalize List.replicate N (0 : Rat) = v at *
    rcases A with ⟨tA, kA, kN⟩ | ⟨tA, kA, kN⟩ <;> ((repeat ((first | refine step_w1 rfl rfl ?_ | refine step_w2 rfl rfl ?_ | refine step_i (by kernel_rfl) ?_ | refine g_c (by assumption) ?_ | refine g_o (op_pickT rfl (ev_ok rfl) (ev_ok rfl)) ?_ | refine g_o (op_pickF rfl (ev_ok rfl) (ev_ok rfl)) ?_ | rw [beq_self_eq_true] | rw [bne_self_eq_false] | refine g_o (op_lenM rfl rfl rfl (ev_ok rfl) (tgt rfl) rfl) ?_ | refine g_o (op_loadA rfl (ev_ok rfl) (tgt rfl) rfl (Nat.succ_ne_zero _) rfl) ?_ | refine ⟨_, op_neAgg tabOK goodOK rfl (ev_ok rfl) (ev_ok rfl) rfl rfl rfl rfl (q_same _ _) q_guard, ?_⟩ | rw [t1.out] | rw [t2.out] | rw [tA] | rw [b1] | rw [b2] | rw [b3] | rw [b5] | rw [b6] | rw [c1]); conv => whnf)); (first | exact Recast.refl _ | exact Frz.recast (Recast.refl _) rfl | (refine Frz.one rfl rfl ?_; skip) | (refine Frz.tup ?_; skip)))
  have c1 : decide (i ≥ 0) = true := decide_eq_true (by omega)
  have b3 : decide (i < 0) = false := decide_eq_false hi
  have C : (decide (i < (x.length : Int)) = false ∧ CallOK Tryz.prog 29 [fvec x, ivec .i64 [i]] [] (.tup [fvec [], .val (.int .i64 1)]) [] [] ∧ True ∧ True ∧ True) ∨
      ∃ z : List Rat, (decide (i < (x.length : Int)) = true ∧ CallOK Tryz.prog 29 [fvec x, ivec .i64 [i]] [] (.tup [fvec z, .val (.int .i64 0)]) [] [] ∧ z.length = 1 ∧ (!decide (z.getD 0 0 = x.getD i.toNat 0)) = false ∧ (((z.length : Nat) : Int) != 1) = false ∧ 0 ≤ i ∧ i < (x.length : Int) ∧ (!decide (z.getD (Int.toNat 0) 0 = x.getD i.toNat 0)) = false) := by
    by_cases h : i < (x.length : Int)
    · refine .inr ⟨vpart x [i], decide_eq_true h, v_Part x [i] (by omega) (show 1 ≤ 2048 by decide) (fun k hk => by
        have : k = 0 := by simp at hk; omega
        subst this; exact ⟨by show 0 ≤ i; omega, h⟩), rfl, ?_, rfl, by omega, h, ?_⟩
      · have : (vpart x [i]).getD 0 0 = x.getD i.toNat 0 := rfl
        rw [this, decide_eq_true rfl]; rfl
      · have : (vpart x [i]).getD (Int.toNat 0) 0 = x.getD i.toNat 0 := rfl
        rw [this, decide_eq_true rfl]; rfl
    · exact .inl ⟨decide_eq_false h, v_PartE x i (by omega) (.inr (by omega)), trivial, trivial, trivial⟩
  by_cases hB : n < 0
  · have b1 : decide (n < 0) = true := decide_eq_true hB
    have e1 : fitsF n = 1 := by unfold fitsF; rw [if_pos hB]
    have kZ := v_ZeroE n (by rw [e1]; decide)
    have kU := v_UnitE n i (by rw [e1]; decide)
    rw [e1] at kZ kU
    rcases A with ⟨tA, kA, kN⟩ | ⟨tA, kA, kN⟩ <;> rcases C with ⟨c2, kP, c3, c4, c5⟩ | ⟨z, c2, kP, c3, c4, c5, c6, c7, c8⟩ <;> ((repeat ((first | refine step_w1 rfl rfl ?_ | refine step_w2 rfl rfl ?_ | refine step_i (by kernel_rfl) ?_ | refine g_c (by assumption) ?_ | refine g_o (op_pickT rfl (ev_ok rfl) (ev_ok rfl)) ?_ | refine g_o (op_pickF rfl (ev_ok rfl) (ev_ok rfl)) ?_ | rw [beq_self_eq_true] | rw [bne_self_eq_false] | refine g_o (op_lenM rfl rfl rfl (ev_ok rfl) (tgt rfl) rfl) ?_ | refine g_o (op_loadA rfl (ev_ok rfl) (tgt rfl) rfl (Nat.succ_ne_zero _) rfl) ?_ | refine g_o (op_indexM (α := Rat) (d := 0) rfl (ev_ok rfl) (ev_ok rfl) (tgt rfl) rfl (tgt rfl) rfl (by omega)) ?_ | refine ⟨_, op_neAgg tabOK goodOK rfl (ev_ok rfl) (ev_ok rfl) rfl rfl rfl rfl (q_same _ _) q_guard, ?_⟩ | rw [t1.out] | rw [t2.out] | rw [tA] | rw [b1] | rw [c1] | rw [c2] | rw [c5] | rw [c8]); conv => whnf)); (first | exact Recast.refl _ | exact Frz.recast (Recast.refl _) rfl | (refine Frz.one rfl rfl ?_; skip) | (refine Frz.tup ?_; skip)))
  by_cases hB2 : 2048 < n
  · have b1 : decide (n < 0) = false := decide_eq_false (by omega)
    have b2 : decide (n > 2048) = true := decide_eq_true (by omega)
    have e1 : fitsF n = 3 := by unfold fitsF; rw [if_neg (by omega), if_pos (by omega)]
    have kZ := v_ZeroE n (by rw [e1]; decide)
    have kU := v_UnitE n i (by rw [e1]; decide)
    rw [e1] at kZ kU
    rcases A with ⟨tA, kA, kN⟩ | ⟨tA, kA, kN⟩ <;> rcases C with ⟨c2, kP, c3, c4, c5⟩ | ⟨z, c2, kP, c3, c4, c5, c6, c7, c8⟩ <;> ((repeat ((first | refine step_w1 rfl rfl ?_ | refine step_w2 rfl rfl ?_ | refine step_i (by kernel_rfl) ?_ | refine g_c (by assumption) ?_ | refine g_o (op_pickT rfl (ev_ok rfl) (ev_ok rfl)) ?_ | refine g_o (op_pickF rfl (ev_ok rfl) (ev_ok rfl)) ?_ | rw [beq_self_eq_true] | rw [bne_self_eq_false] | refine g_o (op_lenM rfl rfl rfl (ev_ok rfl) (tgt rfl) rfl) ?_ | refine g_o (op_loadA rfl (ev_ok rfl) (tgt rfl) rfl (Nat.succ_ne_zero _) rfl) ?_ | refine g_o (op_indexM (α := Rat) (d := 0) rfl (ev_ok rfl) (ev_ok rfl) (tgt rfl) rfl (tgt rfl) rfl (by omega)) ?_ | refine ⟨_, op_neAgg tabOK goodOK rfl (ev_ok rfl) (ev_ok rfl) rfl rfl rfl rfl (q_same _ _) q_guard, ?_⟩ | rw [t1.out] | rw [t2.out] | rw [tA] | rw [b1] | rw [b2] | rw [c1] | rw [c2] | rw [c5] | rw [c8]); conv => whnf)); (first | exact Recast.refl _ | exact Frz.recast (Recast.refl _) rfl | (refine Frz.one rfl rfl ?_; skip) | (refine Frz.tup ?_; skip)))
  by_cases hB3 : i ≥ n
  · obtain ⟨N, rfl⟩ := Int.eq_ofNat_of_zero_le (show 0 ≤ n by omega)
    have b4 : decide (i ≥ (N : Int)) = true := decide_eq_true hB3
    have kU := v_UnitI N i (by omega) (.inr hB3)
    have b1 : decide ((N : Int) < 0) = false := decide_eq_false (by omega)
    have b2 : decide ((N : Int) > 2048) = false := decide_eq_false (by omega)
    have kZ := v_Zero N (by omega)
    have kM := v_MaxZ N (by omega)
    have b5 : (((List.replicate N (0 : Rat)).length : Int) != (N : Int)) = false := by rw [List.length_replicate]; exact bne_self_eq_false _
    have b6 : (!decide ((0 : Rat) = 0)) = false := by decide +kernel
    generalize List.replicate N (0 : Rat) = v at *
    rcases A with ⟨tA, kA, kN⟩ | ⟨tA, kA, kN⟩ <;> rcases C with ⟨c2, kP, c3, c4, c5⟩ | ⟨z, c2, kP, c3, c4, c5, c6, c7, c8⟩ <;> ((repeat ((first | refine step_w1 rfl rfl ?_ | refine step_w2 rfl rfl ?_ | refine step_i (by kernel_rfl) ?_ | refine g_c (by assumption) ?_ | refine g_o (op_pickT rfl (ev_ok rfl) (ev_ok rfl)) ?_ | refine g_o (op_pickF rfl (ev_ok rfl) (ev_ok rfl)) ?_ | rw [beq_self_eq_true] | rw [bne_self_eq_false] | refine g_o (op_lenM rfl rfl rfl (ev_ok rfl) (tgt rfl) rfl) ?_ | refine g_o (op_loadA rfl (ev_ok rfl) (tgt rfl) rfl (Nat.succ_ne_zero _) rfl) ?_ | refine g_o (op_indexM (α := Rat) (d := 0) rfl (ev_ok rfl) (ev_ok rfl) (tgt rfl) rfl (tgt rfl) rfl (by omega)) ?_ | refine ⟨_, op_neAgg tabOK goodOK rfl (ev_ok rfl) (ev_ok rfl) rfl rfl rfl rfl (q_same _ _) q_guard, ?_⟩ | rw [t1.out] | rw [t2.out] | rw [tA] | rw [b1] | rw [b2] | rw [b3] | rw [b4] | rw [b5] | rw [b6] | rw [c1] | rw [c2] | rw [c5] | rw [c8]); conv => whnf)); (first | exact Recast.refl _ | exact Frz.recast (Recast.refl _) rfl | (refine Frz.one rfl rfl ?_; skip) | (refine Frz.tup ?_; skip)))
  obtain ⟨N, rfl⟩ := Int.eq_ofNat_of_zero_le (show 0 ≤ n by omega)
  obtain ⟨I, rfl⟩ := Int.eq_ofNat_of_zero_le (show 0 ≤ i by omega)
  rw [Int.toNat_natCast] at C
  have ci0 : (I : Int).toNat = I := Int.toNat_natCast I
  have b1 : decide ((N : Int) < 0) = false := decide_eq_false (by omega)
  have b2 : decide ((N : Int) > 2048) = false := decide_eq_false (by omega)
  have b4 : decide ((I : Int) ≥ (N : Int)) = false := decide_eq_false (by omega)
  have kZ := v_Zero N (by omega)
  have kM := v_MaxZ N (by omega)
  have kU : CallOK Tryz.prog 21 [.val (.int .i64 (N : Nat)), .val (.int .i64 (I : Nat))] [] (.tup [fvec (uv N I), .val (.int .i64 0)]) [] [] := v_Unit N I (by omega) (by omega)
  have hu : (uv N I).length = N := uv_len N I
  have b7 : (!decide ((uv N I).getD I 0 = ((1 : Int) : Rat))) = false := by rw [uv_get (by omega), if_pos rfl]; decide +kernel
  have b8 : (((uv N I).length : Int) != (N : Int)) = false := by rw [hu]; exact bne_self_eq_false _
  have b5 : (((List.replicate N (0 : Rat)).length : Int) != (N : Int)) = false := by rw [List.length_replicate]; exact bne_self_eq_false _
  have b6 : (!decide ((0 : Rat) = 0)) = false := by decide +kernel
  generalize uv N I = u at *
  generalize List.replicate N (0 : Rat) = v at *
  rcases A with ⟨tA, kA, kN⟩ | ⟨tA, kA, kN⟩ <;> rcases C with ⟨c2, kP, c3, c4, c5⟩ | ⟨z, c2, kP, c3, c4, c5, c6, c7, c8⟩ <;> ((repeat ((first | refine step_w1 rfl rfl ?_ | refine step_w2 rfl rfl ?_ | refine step_i (by kernel_rfl) ?_ | refine g_c (by assumption) ?_ | refine g_o (op_pickT rfl (ev_ok rfl) (ev_ok rfl)) ?_ | refine g_o (op_pickF rfl (ev_ok rfl) (ev_ok rfl)) ?_ | rw [beq_self_eq_true] | rw [bne_self_eq_false] | refine g_o (op_lenM rfl rfl rfl (ev_ok rfl) (tgt rfl) rfl) ?_ | refine g_o (op_indexN (α := Rat) (d := 0) rfl (ev_ok rfl) (ev_ok rfl) (tgt rfl) rfl (tgt rfl) rfl (by omega)) ?_ | refine g_o (op_loadA rfl (ev_ok rfl) (tgt rfl) rfl (Nat.succ_ne_zero _) rfl) ?_ | refine g_o (op_indexM (α := Rat) (d := 0) rfl (ev_ok rfl) (ev_ok rfl) (tgt rfl) rfl (tgt rfl) rfl (by omega)) ?_ | refine ⟨_, op_neAgg tabOK goodOK rfl (ev_ok rfl) (ev_ok rfl) rfl rfl rfl rfl (q_same _ _) q_guard, ?_⟩ | rw [t1.out] | rw [t2.out] | rw [tA] | rw [b1] | rw [b2] | rw [b3] | rw [b4] | rw [b5] | rw [b6] | rw [b7] | rw [b8] | rw [c1] | rw [c2] | rw [c5] | rw [c8]); conv => whnf)); (first | exact Recast.refl _ | exact Frz.recast (Recast.refl _) rfl | (refine Frz.one rfl rfl ?_; skip) | (refine Frz.tup ?_; skip)))

theorem law_VecsErrors (a0 : Int × Int) (a1 a2 : List (Int × Int)) (a3 a4 : Int) (w0 : ((Lit.int .i64 a0.1).wf = true) ∧ ((Lit.int .u32 a0.2).wf = true)) (w1 : QWf a1) (w2 : QWf a2) :
    CallOK Tryz.prog 5 [qA a0, mvec 2 qA a1, mvec 2 qA a2, iel .i64 a3, iel .i64 a4] [] (.val (.bool true)) [] [] :=
  c_Errors a0 a1 a2 a3 a4 (qOK_one w0) (qOK_of w1) (qOK_of w2)
end Go.Proofs.YtgodfkgocbppgaaGreatDoor

namespace Go.Proofs.YtgodfkgocbppgaaGreatDoor.vecsErrors
open Go.ChangeShapes Go.WideShapes Go.ChangeAt Go.RowKit Go.Sx
set_option maxRecDepth 100000
set_option linter.unusedSimpArgs false

theorem own : ownKnob Tryz.prog.godebug = none := by kernel_rfl
theorem laidOut : laidOutB Tryz.prog = true := by kernel_rfl
theorem params : Tryz.f5.params.toList.all (fun t => Tryz.prog.readableRec t && decide (t < Tryz.prog.types.size)) = true := by kernel_rfl
theorem gTab0 : Tryz.prog.globalNamed "math/bits.deBruijn32tab" = some 3 := by kernel_rfl
theorem gTabType0 : (Tryz.prog.globals[3]?).map (·.type) = some 207 := by kernel_rfl
theorem cellsA0 : Tryz.prog.cellsOf 207 = 32 := by kernel_rfl
theorem cellsE0 : Tryz.prog.cellsOf 5 = 1 := by kernel_rfl
theorem gTab1 : Tryz.prog.globalNamed "math/bits.deBruijn64tab" = some 4 := by kernel_rfl
theorem gTabType1 : (Tryz.prog.globals[4]?).map (·.type) = some 208 := by kernel_rfl
theorem cellsA1 : Tryz.prog.cellsOf 208 = 64 := by kernel_rfl
theorem cellsE1 : Tryz.prog.cellsOf 5 = 1 := by kernel_rfl
theorem gTab2 : Tryz.prog.globalNamed "internal/strconv.uint64pow10" = some 1 := by kernel_rfl
theorem gTabType2 : (Tryz.prog.globals[1]?).map (·.type) = some 203 := by kernel_rfl
theorem cellsA2 : Tryz.prog.cellsOf 203 = 20 := by kernel_rfl
theorem cellsE2 : Tryz.prog.cellsOf 33 = 1 := by kernel_rfl
/-- What the row's list gives: the tables' cells hold their numbers. -/
theorem table {W : World} (h : laidMetH Tryz.prog Rows.vecsErrorsRow.laid W) : ∀ g kd l, (g, kd, l) ∈ globTabs → l ≠ [] ∧ ∀ j x, l[j]? = some x → W.cell? ⟨g, j, none⟩ = some (.int kd x) := by
  intro g kd l hm
  have h0 : laidMet Tryz.prog Rows.vecsErrorsRow.laid W := h
  have ht0 : Lib.TabIs Tryz.prog W "math/bits.deBruijn32tab" .u8 [0, 1, 28, 2, 29, 14, 24, 3, 30, 22, 20, 15, 25, 17, 4, 8, 31, 27, 13, 23, 21, 19, 16, 7, 26, 12, 18, 6, 11, 5, 10, 9] := Lib.tabIs_of_head gTab0 gTabType0 Tryz.underlying207 Tryz.underlying5 cellsE0 cellsA0 h0
  have h1 := laid_tail h0
  have ht1 : Lib.TabIs Tryz.prog W "math/bits.deBruijn64tab" .u8 [0, 1, 56, 2, 57, 49, 28, 3, 61, 58, 42, 50, 38, 29, 17, 4, 62, 47, 59, 36, 45, 43, 51, 22, 53, 39, 33, 30, 24, 18, 12, 5, 63, 55, 48, 27, 60, 41, 37, 16, 46, 35, 44, 21, 52, 32, 23, 11, 54, 26, 40, 15, 34, 20, 31, 10, 25, 14, 19, 9, 13, 8, 7, 6] := Lib.tabIs_of_head gTab1 gTabType1 Tryz.underlying208 Tryz.underlying5 cellsE1 cellsA1 h1
  have h2 := laid_tail h1
  have ht2 : Lib.TabIs Tryz.prog W "internal/strconv.uint64pow10" .u64 [1, 10, 100, 1000, 10000, 100000, 1000000, 10000000, 100000000, 1000000000, 10000000000, 100000000000, 1000000000000, 10000000000000, 100000000000000, 1000000000000000, 10000000000000000, 100000000000000000, 1000000000000000000, 10000000000000000000] := Lib.tabIs_of_head gTab2 gTabType2 Tryz.underlying203 Tryz.underlying33 cellsE2 cellsA2 h2
  simp only [globTabs, List.mem_cons, List.not_mem_nil, or_false, Prod.mk.injEq] at hm
  rcases hm with ⟨rfl, rfl, rfl⟩ | ⟨rfl, rfl, rfl⟩ | ⟨rfl, rfl, rfl⟩
  · exact ⟨by simp, fun j x hx => by rw [ht0.cell gTab0 j (List.getElem?_eq_some_iff.1 hx).1, List.getD_eq_getElem?_getD, hx]; rfl⟩
  · exact ⟨by simp, fun j x hx => by rw [ht1.cell gTab1 j (List.getElem?_eq_some_iff.1 hx).1, List.getD_eq_getElem?_getD, hx]; rfl⟩
  · exact ⟨by simp, fun j x hx => by rw [ht2.cell gTab2 j (List.getElem?_eq_some_iff.1 hx).1, List.getD_eq_getElem?_getD, hx]; rfl⟩

/-- The contract, over values. -/
theorem called (a0 : (Int) × (Int)) (a1 : List ((Int) × (Int))) (a2 : List ((Int) × (Int))) (a3 : Int) (a4 : Int) (w0 : ((Lit.int .i64 a0.1).wf = true) ∧ ((Lit.int .u32 a0.2).wf = true)) (w1 : (a1).length ≤ maxLen ∧ ∀ x ∈ a1, ((Lit.int .i64 x.1).wf = true) ∧ ((Lit.int .u32 x.2).wf = true)) (w2 : (a2).length ≤ maxLen ∧ ∀ x ∈ a2, ((Lit.int .i64 x.1).wf = true) ∧ ((Lit.int .u32 x.2).wf = true)) (w3 : (Lit.int .i64 a3).wf = true) (w4 : (Lit.int .i64 a4).wf = true) : CallOK Tryz.prog 5 [(ag2 (iel .i64) (iel .u32)) a0, (mvec 2 (ag2 (iel .i64) (iel .u32))) a1, (mvec 2 (ag2 (iel .i64) (iel .u32))) a2, (iel .i64) a3, (iel .i64) a4] [] (.val (.bool true)) [] [] := law_VecsErrors a0 a1 a2 a3 a4 w0 w1 w2

theorem contract (H : Type) (enc : TypeId × Value → H) (W : World) (base : Nat) (args : Array Value) (ds gs : List (DataW H)) (before : List MemPlace)
    (hval : ∀ (j : Nat) t v, Tryz.f5.params[j]? = some t → args[j]? = some v → Value.okWide Tryz.prog W .any base t v)
    (hW : DataW.Whole enc Tryz.prog Tryz.f5.params.toList Rows.vecsErrorsSpec.vars false W args.toList ds gs before) (hL : laidMetH Tryz.prog Rows.vecsErrorsRow.laid W) :
    Calls Tryz.prog 5 args W fun e W' => ∃ v, e = .returned v ∧ Rows.vecsErrorsSpec.post enc Tryz.prog Tryz.f5 false true false false W args v W' := by
  have hW' := hW
  obtain ⟨p, q, hA0, hV, rfl, hfz, hnd⟩ := hW
  have hA : DataW.TrodAll enc Tryz.prog W 0 (fun _ => true) true Tryz.f5.params.toList args.toList ds p := hA0
  rw [Tryz.params5] at hA hval
  obtain ⟨v0, vs0, d0, ds0, p0, q0, hargs, rfl, rfl, h0, r0⟩ := trodAll_cons hA
  obtain ⟨v1, vs1, d1, ds1, p1, q1, rfl, rfl, rfl, h1, r1⟩ := trodAll_cons r0
  obtain ⟨v2, vs2, d2, ds2, p2, q2, rfl, rfl, rfl, h2, r2⟩ := trodAll_cons r1
  obtain ⟨v3, vs3, d3, ds3, p3, q3, rfl, rfl, rfl, h3, r3⟩ := trodAll_cons r2
  obtain ⟨v4, vs4, d4, ds4, p4, q4, rfl, rfl, rfl, h4, r4⟩ := trodAll_cons r3
  obtain ⟨rfl, rfl, rfl⟩ := trodAll_nil r4
  obtain rfl : args = #[v0, v1, v2, v3, v4] := by cases args; simp_all
  obtain ⟨rfl, rfl⟩ := trodVars_none hV
  have hg := table hL
  obtain ⟨n0, t0⟩ := h0
  obtain ⟨a0, w0, c0⟩ := (show Opens enc Tryz.prog hg 25 (ag2 (iel .i64) (iel .u32)) (fun a => ((Lit.int .i64 a.1).wf = true) ∧ ((Lit.int .u32 a.2).wf = true)) from Opens.struct2 Tryz.underlying25 rfl (by kernel_rfl) (by kernel_rfl) (Opens.int Tryz.underlying2) (Opens.int Tryz.underlying23)) _ _ _ t0
  have e0 : mkV ((ag2 (iel .i64) (iel .u32)) a0) v0.cells.toList = v0 := by obtain ⟨cs, hc, _⟩ := okWide_struct Tryz.underlying25 (hval 0 25 v0 rfl rfl); exact mkV_agg rfl hc
  obtain ⟨n1, t1⟩ := h1
  obtain ⟨a1, w1, c1⟩ := (show Opens enc Tryz.prog hg 22 (mvec 2 (ag2 (iel .i64) (iel .u32))) (fun a => (a).length ≤ maxLen ∧ ∀ x ∈ a, ((Lit.int .i64 x.1).wf = true) ∧ ((Lit.int .u32 x.2).wf = true)) from Opens.slice (w := 2) Tryz.underlying22 (by kernel_rfl) (by decide) (fun _ => rfl) (Opens.struct2 Tryz.underlying25 rfl (by kernel_rfl) (by kernel_rfl) (Opens.int Tryz.underlying2) (Opens.int Tryz.underlying23))) _ _ _ t1
  have e1 : mkV ((mvec 2 (ag2 (iel .i64) (iel .u32))) a1) v1.cells.toList = v1 := by obtain ⟨_, _, _, rfl⟩ := okWide_slice Tryz.underlying22 (hval 1 22 v1 rfl rfl); exact mkV_one rfl (by simp [Value.cells])
  obtain ⟨n2, t2⟩ := h2
  obtain ⟨a2, w2, c2⟩ := (show Opens enc Tryz.prog hg 22 (mvec 2 (ag2 (iel .i64) (iel .u32))) (fun a => (a).length ≤ maxLen ∧ ∀ x ∈ a, ((Lit.int .i64 x.1).wf = true) ∧ ((Lit.int .u32 x.2).wf = true)) from Opens.slice (w := 2) Tryz.underlying22 (by kernel_rfl) (by decide) (fun _ => rfl) (Opens.struct2 Tryz.underlying25 rfl (by kernel_rfl) (by kernel_rfl) (Opens.int Tryz.underlying2) (Opens.int Tryz.underlying23))) _ _ _ t2
  have e2 : mkV ((mvec 2 (ag2 (iel .i64) (iel .u32))) a2) v2.cells.toList = v2 := by obtain ⟨_, _, _, rfl⟩ := okWide_slice Tryz.underlying22 (hval 2 22 v2 rfl rfl); exact mkV_one rfl (by simp [Value.cells])
  obtain ⟨n3, t3⟩ := h3
  obtain ⟨a3, w3, c3⟩ := (show Opens enc Tryz.prog hg 3 (iel .i64) (fun a => (Lit.int .i64 a).wf = true) from Opens.int Tryz.underlying3) _ _ _ t3
  have e3 : mkV ((iel .i64) a3) v3.cells.toList = v3 := by obtain ⟨_, rfl⟩ := okWide_int Tryz.underlying3 (hval 3 3 v3 rfl rfl); exact mkV_one rfl (by simp [Value.cells])
  obtain ⟨n4, t4⟩ := h4
  obtain ⟨a4, w4, c4⟩ := (show Opens enc Tryz.prog hg 3 (iel .i64) (fun a => (Lit.int .i64 a).wf = true) from Opens.int Tryz.underlying3) _ _ _ t4
  have e4 : mkV ((iel .i64) a4) v4.cells.toList = v4 := by obtain ⟨_, rfl⟩ := okWide_int Tryz.underlying3 (hval 4 3 v4 rfl rfl); exact mkV_one rfl (by simp [Value.cells])
  have hz : HasZ (allRho hg) [(ag2 (iel .i64) (iel .u32)) a0, (mvec 2 (ag2 (iel .i64) (iel .u32))) a1, (mvec 2 (ag2 (iel .i64) (iel .u32))) a2, (iel .i64) a3, (iel .i64) a4] [v0.cells.toList, v1.cells.toList, v2.cells.toList, v3.cells.toList, v4.cells.toList] := by simp only [HasZ]; exact ⟨_, _, rfl, c0, _, _, rfl, c1, _, _, rfl, c2, _, _, rfl, c3, _, _, rfl, c4, rfl⟩
  have hr := law_runA ⟨Tryz.f5, Tryz.func5, rfl, by kernel_rfl⟩ (called a0 a1 a2 a3 a4 w0 w1 w2 w3 w4) hg hz
  simp only [List.zipWith_cons_cons, List.zipWith_nil_left, List.zipWith_nil_right, e0, e1, e2, e3, e4] at hr
  refine hr.mono fun e W' ⟨he, hb⟩ => ?_
  subst he
  exact ⟨_, rfl, law_post laidOut params rfl rfl Tryz.underlying4 hW' ⟨rfl, rfl, rfl⟩ hb⟩

/-- A world for the witness: the settled one, the tables holding what their texts lay. -/
noncomputable def laidWorld (os : Os) : World :=
  { World.holding Tryz.prog os ⟨#[], #[], []⟩ with heap := ((World.holding Tryz.prog os ⟨#[], #[], []⟩).heap |>.modify 3 (fun | .cells _ t frozen => .cells #[.int .u8 0, .int .u8 1, .int .u8 28, .int .u8 2, .int .u8 29, .int .u8 14, .int .u8 24, .int .u8 3, .int .u8 30, .int .u8 22, .int .u8 20, .int .u8 15, .int .u8 25, .int .u8 17, .int .u8 4, .int .u8 8, .int .u8 31, .int .u8 27, .int .u8 13, .int .u8 23, .int .u8 21, .int .u8 19, .int .u8 16, .int .u8 7, .int .u8 26, .int .u8 12, .int .u8 18, .int .u8 6, .int .u8 11, .int .u8 5, .int .u8 10, .int .u8 9] t frozen | o => o) |>.modify 4 (fun | .cells _ t frozen => .cells #[.int .u8 0, .int .u8 1, .int .u8 56, .int .u8 2, .int .u8 57, .int .u8 49, .int .u8 28, .int .u8 3, .int .u8 61, .int .u8 58, .int .u8 42, .int .u8 50, .int .u8 38, .int .u8 29, .int .u8 17, .int .u8 4, .int .u8 62, .int .u8 47, .int .u8 59, .int .u8 36, .int .u8 45, .int .u8 43, .int .u8 51, .int .u8 22, .int .u8 53, .int .u8 39, .int .u8 33, .int .u8 30, .int .u8 24, .int .u8 18, .int .u8 12, .int .u8 5, .int .u8 63, .int .u8 55, .int .u8 48, .int .u8 27, .int .u8 60, .int .u8 41, .int .u8 37, .int .u8 16, .int .u8 46, .int .u8 35, .int .u8 44, .int .u8 21, .int .u8 52, .int .u8 32, .int .u8 23, .int .u8 11, .int .u8 54, .int .u8 26, .int .u8 40, .int .u8 15, .int .u8 34, .int .u8 20, .int .u8 31, .int .u8 10, .int .u8 25, .int .u8 14, .int .u8 19, .int .u8 9, .int .u8 13, .int .u8 8, .int .u8 7, .int .u8 6] t frozen | o => o) |>.modify 1 (fun | .cells _ t frozen => .cells #[.int .u64 1, .int .u64 10, .int .u64 100, .int .u64 1000, .int .u64 10000, .int .u64 100000, .int .u64 1000000, .int .u64 10000000, .int .u64 100000000, .int .u64 1000000000, .int .u64 10000000000, .int .u64 100000000000, .int .u64 1000000000000, .int .u64 10000000000000, .int .u64 100000000000000, .int .u64 1000000000000000, .int .u64 10000000000000000, .int .u64 100000000000000000, .int .u64 1000000000000000000, .int .u64 10000000000000000000] t frozen | o => o)) }
theorem laid_met (os : Os) : laidMet Tryz.prog Rows.vecsErrorsRow.laid ((laidWorld os).forCall (fun _ _ => 0) ⟨#[], #[.agg #[.int .i64 0, .int .u32 0], .slice none 0 0, .slice none 0 0, .int .i64 0, .int .i64 0], []⟩).memory :=
  laidMet_of_run' 8 (by kernel_rfl) (by kernel_rfl)
theorem reads (os : Os) {H : Type} (enc : TypeId × Value → H) : ∃ places, DataW.whole enc Tryz.prog ((laidWorld os).forCall (fun _ _ => 0) ⟨#[], #[.agg #[.int .i64 0, .int .u32 0], .slice none 0 0, .slice none 0 0, .int .i64 0, .int .i64 0], []⟩).memory Tryz.f5.params.toList Rows.vecsErrorsSpec.vars false #[.agg #[.int .i64 0, .int .u32 0], .slice none 0 0, .slice none 0 0, .int .i64 0, .int .i64 0].toList 8 = some ([.agg [.lit (.int .i64 0), .lit (.int .u32 0)], .nil, .nil, .lit (.int .i64 0), .lit (.int .i64 0)], [], places) :=
  ⟨[], by kernel_rfl⟩

theorem lifted (os : Os) (started : os.Started) (H : Type) (enc : TypeId × Value → H) (F : Stop.Interp) :
    ReturnsInHanded {} Tryz.checked os 5 .any ((OpenSpec.ofChange Rows.vecsErrorsSpec).preRow enc Tryz.prog Tryz.f5 Rows.vecsErrorsRow.domain false Rows.vecsErrorsRow.laid) (((OpenSpec.ofChange Rows.vecsErrorsSpec).at F).post enc Tryz.prog Tryz.f5 false true false false) := by
  obtain ⟨places, hx⟩ := reads os enc
  refine returnsInHanded_of_row (C := Tryz.checked) (s := OpenSpec.ofChange Rows.vecsErrorsSpec) own started (by kernel_rfl) Tryz.func5
    (witness_row_at (enc := enc) (C := Tryz.checked) false (laidWorld os) #[.agg #[.int .i64 0, .int .u32 0], .slice none 0 0, .slice none 0 0, .int .i64 0, .int .i64 0] rfl (by kernel_rfl) (by kernel_rfl) (by kernel_rfl)
      (OpenSpec.preRow_of_cond 8 hx (by kernel_rfl) (fun k hk => by cases hk) (by kernel_rfl) (laid_met os))) ?_
  intro W base args ds gs before hval hW _ _ _ hL _ _
  exact contract H enc W base args ds gs before hval hW hL

theorem said : Rows.VecsErrorsSaid :=
  OpenClaim.holds_of_cond 5 Tryz.f5 rfl rfl rfl rfl rfl rfl rfl ⟨rfl, rfl, rfl, rfl, rfl⟩ rfl rfl rfl rfl rfl (by kernel_rfl) Tryz.func5 (by kernel_rfl)
    (of_decide_eq_true (by kernel_rfl)) (by unfold Func.isWrapper; first | (rw [if_pos (by decide +kernel)]; kernel_rfl) | (rw [if_neg (by decide +kernel)]; exact ⟨rfl, rfl⟩))
    (fun os started H enc _ F => by rw [OpenClaim.pre_eq_preRow]; exact lifted os started H enc F)

/-- No parameter wants a stand-in; the program's own looks are off. -/
theorem plain (f : FuncId) (fn : Func) (hf : Tryz.pinned.checked.prog.funcNamed "gusset/gussetlaw12.VecsErrors" = some f) (hfn : Tryz.pinned.checked.prog.funcs[f]? = some fn) :
    false = Tryz.pinned.checked.prog.looks [] ∧ ∀ (j : Nat) t, fn.params[j]? = some t → Tryz.pinned.checked.prog.wantsStandIn t = false := by
  obtain rfl : f = 5 := Option.some.inj ((show Tryz.prog.funcNamed "gusset/gussetlaw12.VecsErrors" = some 5 by kernel_rfl).symm.trans hf) |>.symm
  obtain rfl : fn = Tryz.f5 := (Option.some.inj (Tryz.func5.symm.trans hfn)).symm
  refine ⟨by kernel_rfl, fun j t ht => ?_⟩
  have hall : (Tryz.f5.params.toList.all fun t => !Tryz.prog.wantsStandIn t) = true := by kernel_rfl
  have := List.all_eq_true.1 hall t (by simpa using Array.mem_of_getElem? ht)
  exact (show Tryz.prog.wantsStandIn t = false by simpa using this)

/-- The card. -/
theorem card : Rows.VecsErrorsCardSaid :=
  Claim7.holds_tied_plain_at .later [] _ _ _ _ said (fun _ h => by cases h) (by kernel_rfl) (fun _ h => by cases h) vecsErrors_row_tie rfl ⟨rfl, rfl⟩ (by kernel_rfl) rfl plain (by kernel_rfl)
#print axioms card
end Go.Proofs.YtgodfkgocbppgaaGreatDoor.vecsErrors
