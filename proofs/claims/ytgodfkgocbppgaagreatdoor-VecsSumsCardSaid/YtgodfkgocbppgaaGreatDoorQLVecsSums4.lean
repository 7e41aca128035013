/- VecsSums returns true for every input and leaves its arguments as they were: the row, and the card that ties its tables to the program's text. -/
import Derived.Shelf.Strings.Builder1
import Derived.Shelf.Strings.Builder2
import Derived.Shelf.Strings.OnBuilder
import Derived.Shelf.Strings.BuilderF
import Derived.Shelf.Strings.Builder2Cap
import Derived.Shelf.Strconv.Itoa0
import Derived.Shelf.Strconv.Itoa1
import Derived.Shelf.LaysM
import Derived.Shelf.Strconv.Itoa2
import Derived.Shelf.Strconv.Itoa3
import Derived.Shelf.Strings.Prefix
import Derived.Shelf.Bits.Mul64
import Derived.Shelf.Strings.Repeat
import Derived.Ground.Names2Prog
import Derived.Shelf.Slices.ReverseS
import Derived.Test.YtgodfkgocbppgaaGreatDoorProg
import Derived.Test.YtgodfkgocbppgaaGreatDoorCards
import Derived.Test.YtgodfkgocbppgaaGreatDoorTie
import Derived.WalkKit
import Derived.ProofKit
import Derived.OpenShut
import Derived.Deep.DeepHandedRow
import Derived.Lib.LaidTab
import Derived.Test.YtgodfkgocbppgaaGreatDoorQLVecsSums3
namespace Go.Proofs.YtgodfkgocbppgaaGreatDoor
open Go.Sx
set_option linter.unusedSimpArgs false
set_option linter.unusedVariables false
set_option maxRecDepth 100000
set_option maxHeartbeats 4000000

/-- The sizes of two vectors' elements, taken together. -/
def Fit (a b : List Rat) : Prop := ∀ i, i < a.length → fs (a.getD i 0) + fs (b.getD i 0) ≤ 1073741824

abbrev vadd (a b : List Rat) : List Rat := List.zipWith (· + ·) a b
abbrev vmul (a b : List Rat) : List Rat := List.zipWith (· * ·) a b
abbrev vaxpy (c : Rat) (a b : List Rat) : List Rat := List.zipWith (fun x y => c * x + y) a b

theorem v_Add (a b : List Rat) (hab : a.length = b.length) (hl : a.length ≤ 2048) (h : Fit a b) : CallOK Tryz.prog 35 [fvec a, fvec b] [] (.tup [fvec (vadd a b), .val (.int .i64 0)]) [] [] := by
  have k1 := v_each0 (· + ·) 31 a b hab hl (fun i hi => f_Add _ _ (h i hi))
  refine callV (Z := []) tabOK mixedOK Tryz.func35 rfl (by kernel_rfl) rfl rfl (by kernel_rfl) rfl ?_
  intro W0 w0 ρ0 hE
  conv => whnf
  (repeat (first | (refine g_c (by assumption) ?_; conv => whnf))); (first | exact Recast.refl _ | exact Frz.recast (Recast.refl _) rfl | (refine Frz.one rfl rfl ?_; skip) | (refine Frz.tup ?_; skip))
theorem v_Axpy1 (c x y : Rat) (h : fs c + fs x + fs y ≤ 1073741824) : CallOK Tryz.prog 73 ([] ++ ([.frac x, .frac y] ++ [ptrA [.frac c]])) [] (.frac (c * x + y)) [] [] := by
  have k1 := f_Mul c x (by omega)
  have k2 := f_Add (c * x) y (by have := fs_mul c x; omega)
  refine callV (Z := []) tabOK mixedOK Tryz.func73 rfl (by kernel_rfl) rfl rfl (by kernel_rfl) rfl ?_
  intro W0 w0 ρ0 hE
  conv => whnf
  (repeat (first | (refine step_i (by kernel_rfl) ?_; conv => whnf) | (refine g_c (by assumption) ?_; conv => whnf) | (refine g_o (op_loadA rfl (ev_ok rfl) (tgt rfl) rfl (Nat.succ_ne_zero _) rfl) ?_; conv => whnf))); (first | exact Recast.refl _ | exact Frz.recast (Recast.refl _) rfl | (refine Frz.one rfl rfl ?_; skip) | (refine Frz.tup ?_; skip))
theorem v_Axpy (c : Rat) (a b : List Rat) (hab : a.length = b.length) (hl : a.length ≤ 2048) (h : ∀ i, i < a.length → fs c + fs (a.getD i 0) + fs (b.getD i 0) ≤ 1073741824) : CallOK Tryz.prog 38 [.frac c, fvec a, fvec b] [] (.tup [fvec (vaxpy c a b), .val (.int .i64 0)]) [] [] := by
  have k1 := v_each1 (fun x y => c * x + y) 73 (ptrP [.frac c]) a b hab hl (fun i hi => v_Axpy1 _ _ _ (h i hi))
  refine callV (Z := [3]) tabOK mixedOK Tryz.func38 rfl (by kernel_rfl) rfl rfl (by kernel_rfl) rfl ?_
  intro W0 w0 ρ0 hE
  conv => whnf
  (repeat (first | (refine g_c (by assumption) ?_; conv => whnf) | (refine g_o (op_makeFunc rfl rfl rfl) ?_; conv => whnf))); (first | exact Recast.refl _ | exact Frz.recast (Recast.refl _) rfl | (refine Frz.one rfl rfl ?_; skip) | (refine Frz.tup ?_; skip))

/-- The dot product. -/
def vdot (a b : List Rat) : Rat := (vmul a b).foldl (· + ·) 0
theorem v_Dot (a b : List Rat) (hab : a.length = b.length) (hl : a.length ≤ 2048) (h : Fit a b) (hs : fsL (vmul a b) + 2 ≤ 1073741824) : CallOK Tryz.prog 43 [fvec a, fvec b] [] (.tup [.frac (vdot a b), .val (.int .i64 0)]) [] [] := by
  have k1 := v_each0 (· * ·) 18 a b hab hl (fun i hi => f_Mul _ _ (h i hi))
  have k2 := f_Sum (vmul a b) (by simp; omega) hs
  refine callV (Z := []) tabOK mixedOK Tryz.func43 rfl (by kernel_rfl) rfl rfl (by kernel_rfl) rfl ?_
  intro W0 w0 ρ0 hE
  conv => whnf
  (repeat (first | (refine g_c (by assumption) ?_; conv => whnf))); (first | exact Recast.refl _ | exact Frz.recast (Recast.refl _) rfl | (refine Frz.one rfl rfl ?_; skip) | (refine Frz.tup ?_; skip))

theorem v_Zero (n : Nat) (hn : n ≤ 2048) : CallOK Tryz.prog 27 [.val (.int .i64 (n : Nat))] [] (.tup [fvec (List.replicate n 0), .val (.int .i64 0)]) [] [] := by
  have k1 := v_fits n
  rw [fitsF, if_neg (by omega), if_neg (by omega)] at k1
  refine callF (Z := []) tabOK mixedOK Tryz.func27 rfl (by kernel_rfl) (by first | rfl | (simp [keylessL, keyless, keylessL_map, *]; done)) (by first | rfl | (simp [keylessL, keyless, keylessL_map, *]; done)) (by kernel_rfl) rfl ?_
  intro w0 ρ0 hE
  conv => whnf
  (repeat ((first | refine step_w2 rfl rfl ?_ | refine And.intro (by first | decide | omega | (simp only [tiB5, tiB23, tiB3, tiB2, tiB9, tiB41, tiB72, tiB29, tiB30, tiB39, tiB33, tiB4, tiB68, tiB70, dlen, List.length_replicate, List.length_set, List.length_map, List.length_zipWith, List.length_take, List.length_append, List.length_cons, List.length_nil]; omega)) ?_ | refine g_c (by assumption) ?_ | rw [Int.toNat_natCast]); conv => whnf)); (first | exact Recast.refl _ | exact Frz.recast (Recast.refl _) rfl | (refine Frz.one rfl rfl ?_; skip) | (refine Frz.tup ?_; (repeat (first | exact FrzC.keyless rfl | exact FrzL.nil | refine FrzL.cons ?_ ?_ | (refine FrzC.fracs rfl ?_; (first | rfl | omega | (simp <;> fail) | (simp <;> omega)))))))

theorem v_ZeroE (n : Int) (hn : fitsF n ≠ 0) : CallOK Tryz.prog 27 [.val (.int .i64 n)] [] (.tup [fvec [], .val (.int .i64 (fitsF n))]) [] [] := by
  have k1 := v_fits n
  have t1 : (fitsF n != 0) = true := bne_iff_ne.2 hn
  refine callF (Z := []) tabOK mixedOK Tryz.func27 rfl (by kernel_rfl) (by first | rfl | (simp [keylessL, keyless, keylessL_map, *]; done)) (by first | rfl | (simp [keylessL, keyless, keylessL_map, *]; done)) (by kernel_rfl) rfl ?_
  intro w0 ρ0 hE
  conv => whnf
  (repeat (first | (refine step_w1 rfl rfl ?_; conv => whnf) | (refine g_c (by assumption) ?_; conv => whnf) | (rw [t1]; conv => whnf))); (first | exact Recast.refl _ | exact Frz.recast (Recast.refl _) rfl | (refine Frz.one rfl rfl ?_; skip) | (refine Frz.tup ?_; (repeat (first | exact FrzC.keyless rfl | exact FrzL.nil | refine FrzL.cons ?_ ?_ | exact FrzC.nilS))))

theorem v_UnitI (n : Nat) (i : Int) (hn : n ≤ 2048) (hi : i < 0 ∨ (n : Int) ≤ i) : CallOK Tryz.prog 21 [.val (.int .i64 (n : Nat)), .val (.int .i64 i)] [] (.tup [fvec [], .val (.int .i64 1)]) [] [] := by
  have k1 := v_Zero n hn
  refine callF (Z := []) tabOK mixedOK Tryz.func21 rfl (by kernel_rfl) (by first | rfl | (simp [keylessL, keyless, keylessL_map, *]; done)) (by first | rfl | (simp [keylessL, keyless, keylessL_map, *]; done)) (by kernel_rfl) rfl ?_
  intro w0 ρ0 hE
  conv => whnf
  by_cases h1 : i < 0
  · have t1 : decide (i < 0) = true := decide_eq_true h1
    (repeat ((first | refine step_w1 rfl rfl ?_ | refine step_w2 rfl rfl ?_ | refine g_c (by assumption) ?_ | refine g_o (op_pickT rfl (ev_ok rfl) (ev_ok rfl)) ?_ | rw [bne_self_eq_false] | rw [t1]); conv => whnf)); (first | exact Recast.refl _ | exact Frz.recast (Recast.refl _) rfl | (refine Frz.one rfl rfl ?_; skip) | (refine Frz.tup ?_; (repeat (first | exact FrzC.keyless rfl | exact FrzL.nil | refine FrzL.cons ?_ ?_ | exact FrzC.nilS))))
  · have t1 : decide (i < 0) = false := decide_eq_false h1
    have t2 : decide (i ≥ (n : Int)) = true := decide_eq_true (by omega)
    (repeat ((first | refine step_w1 rfl rfl ?_ | refine step_w2 rfl rfl ?_ | refine g_c (by assumption) ?_ | refine g_o (op_pickF rfl (ev_ok rfl) (ev_ok rfl)) ?_ | rw [bne_self_eq_false] | rw [t1] | rw [t2]); conv => whnf)); (first | exact Recast.refl _ | exact Frz.recast (Recast.refl _) rfl | (refine Frz.one rfl rfl ?_; skip) | (refine Frz.tup ?_; (repeat (first | exact FrzC.keyless rfl | exact FrzL.nil | refine FrzL.cons ?_ ?_ | exact FrzC.nilS))))

/-- The maximum norm. -/
def vmaxF : List Rat → Rat → Rat
  | [], m => m
  | x :: l, m => vmaxF l (if 0 < (rabs x - m).num.sign then rabs x else m)
def vmax (l : List Rat) : Rat := vmaxF l 0

theorem v_Max (l : List Rat) (hl : l.length < 1099511627776) (B : Nat) (hB : 2 ≤ B) (hB2 : B + B ≤ 1073741824) (h : ∀ i, i < l.length → fs (l.getD i 0) ≤ B) : CallOK Tryz.prog 28 [fvec l] [] (.frac (vmax l)) [] [] := by
  refine callV (Z := []) tabOK mixedOK Tryz.func28 rfl (by kernel_rfl) rfl rfl (by kernel_rfl) rfl ?_
  intro W0 w0 ρ0 hE
  conv => whnf
  (repeat (first | (refine g_o (op_lenM rfl rfl rfl (ev_ok rfl) (tgt rfl) rfl) ?_; conv => whnf)))
  refine SW_loopN hE (fun k => k) [0, 2, 5, 6, 7] [2] (fun m fr hp => ∃ i q, m = l.length - i ∧ i ≤ l.length ∧ vmaxF (l.drop i) q = vmax l ∧ fs q ≤ B ∧ fr = [(0, fvec l), (2, .ptr 2 0 0 0), (5, fvec l), (6, .val (.int .i64 (l.length : Nat))), (7, .val (.int .i64 (i : Nat)))] ∧
    hp = [(2, ⟨41, true, .one [.frac q]⟩)]) l.length ?_ ?_ ?_
  · kernel_rfl
  · exact ⟨0, 0, rfl, Nat.zero_le _, rfl, by rw [fs_zero]; exact hB, rfl, rfl⟩
  rintro m _ _ ⟨i, q, rfl, hi, hv, hq, rfl, rfl⟩
  conv => whnf
  by_cases hlt : i < l.length
  · have t1 := dlt hlt
    have t2 := winc (i := i) (by omega)
    have hx := h i hlt
    have hd : l.drop i = l.getD i 0 :: l.drop (i + 1) := by rw [List.drop_eq_getElem_cons hlt, List.getD_eq_getElem?_getD, List.getElem?_eq_getElem hlt]; rfl
    rw [hd, vmaxF] at hv
    have k1 := f_Abs (l.getD i 0)
    have hb : fs (rabs (l.getD i 0)) ≤ B := by rw [fs_abs]; exact hx
    generalize rabs (l.getD i 0) = x at *
    have k2 := f_Cmp x q (by omega)
    by_cases hc : 0 < (x - q).num.sign
    · have t3 : decide ((x - q).num.sign > 0) = true := decide_eq_true hc
      rw [if_pos hc] at hv
      (repeat ((first | refine step_w1 rfl rfl ?_ | refine g_c (by assumption) ?_ | refine g_o (op_indexN (α := Rat) (d := 0) rfl (ev_ok rfl) (ev_ok rfl) (tgt rfl) rfl (tgt rfl) rfl (by omega)) ?_ | refine g_o (op_loadA rfl (ev_ok rfl) (tgt rfl) rfl (Nat.succ_ne_zero _) rfl) ?_ | rw [t1] | rw [t3] | rw [t2]); conv => whnf))
      exact ⟨l.length - (i + 1), fun k => k, [0, 2, 5, 6, 7], [2], by omega, by kernel_rfl, i + 1, x, rfl, hlt, hv, hb, rfl, rfl⟩
    · have t3 : decide ((x - q).num.sign > 0) = false := decide_eq_false hc
      rw [if_neg hc] at hv
      (repeat ((first | refine step_w1 rfl rfl ?_ | refine step_w2 rfl rfl ?_ | refine g_c (by assumption) ?_ | refine g_o (op_indexN (α := Rat) (d := 0) rfl (ev_ok rfl) (ev_ok rfl) (tgt rfl) rfl (tgt rfl) rfl (by omega)) ?_ | refine g_o (op_loadA rfl (ev_ok rfl) (tgt rfl) rfl (Nat.succ_ne_zero _) rfl) ?_ | rw [t1] | rw [t3] | rw [t2]); conv => whnf))
      exact ⟨l.length - (i + 1), fun k => k, [0, 2, 5, 6, 7], [2], by omega, by kernel_rfl, i + 1, q, rfl, hlt, hv, hq, rfl, rfl⟩
  · have t1 := dge hlt
    have hI : i = l.length := by omega
    rw [hI, List.drop_length, vmaxF] at hv
    rw [hv]
    (repeat (first | (refine step_w2 rfl rfl ?_; conv => whnf) | (rw [t1]; conv => whnf))); (first | exact Recast.refl _ | exact Frz.recast (Recast.refl _) rfl | (refine Frz.one rfl rfl ?_; skip) | (refine Frz.tup ?_; skip))

theorem q_guard : Tryz.prog.eqGuardType Tryz.prog.depth 41 = false := by kernel_rfl
theorem q_same (a b : Rat) : eqTy tab good 10 41 (fracCells a) (fracCells b) = some (decide (a = b)) := by
  have e : eqTy tab good 10 41 (fracCells a) (fracCells b) = some (((((low a.num.natAbs == low b.num.natAbs) && (((big a.num.natAbs).toList == (big b.num.natAbs).toList) && true)) && true) && ((decide (a.num < 0) == decide (b.num < 0)) && true)) &&
    (((low (a.den - 1) == low (b.den - 1)) && (((big (a.den - 1)).toList == (big (b.den - 1)).toList) && true)) && true)) := rfl
  rw [e]
  simp only [Bool.and_true]
  rw [nat_eq_iff, nat_eq_iff]
  congr 1
  rw [Bool.eq_iff_iff]
  simp only [Bool.and_eq_true, decide_eq_true_eq, beq_iff_eq, decide_eq_decide]
  have h1 := a.den_pos
  have h2 := b.den_pos
  constructor
  · rintro ⟨⟨h3, h4⟩, h5⟩
    exact Rat.ext (by omega) (by omega)
  · rintro rfl
    exact ⟨⟨rfl, Iff.rfl⟩, rfl⟩

/-- slices.Equal at vectors. -/
theorem v_Equal (a b : List Rat) (ha : a.length < 1099511627776) (hb : b.length < 1099511627776) : CallOK Tryz.prog 64 [fvec a, fvec b] [] (.val (.bool (decide (a = b)))) [] [] := by
  refine callV (Z := []) tabOK mixedOK Tryz.func64 rfl (by kernel_rfl) rfl rfl (by kernel_rfl) rfl ?_
  intro W0 w0 ρ0 hE
  conv => whnf
  by_cases hab : a.length = b.length
  · have t0 : ((a.length : Int) != (b.length : Int)) = false := by rw [hab]; exact bne_self_eq_false _
    (repeat (first | (refine step_w2 rfl rfl ?_; conv => whnf) | (refine g_o (op_lenM rfl rfl rfl (ev_ok rfl) (tgt rfl) rfl) ?_; conv => whnf) | (rw [t0]; conv => whnf)))
    refine SW_loopN hE (fun k => k) [0, 1, 4, 11, 12, 13] [] (fun m fr hp => ∃ i, m = a.length - i ∧ i ≤ a.length ∧ a.take i = b.take i ∧ fr = [(0, fvec a), (1, fvec b), (4, .val (.bool false)), (11, fvec a), (12, .val (.int .i64 (a.length : Nat))), (13, .val (.int .i64 (i : Nat)))] ∧ hp = []) a.length ?_ ?_ ?_
    · kernel_rfl
    · exact ⟨0, rfl, Nat.zero_le _, rfl, rfl, rfl⟩
    rintro m _ _ ⟨i, rfl, hi, ht, rfl, rfl⟩
    conv => whnf
    by_cases hlt : i < a.length
    · have t1 := dlt hlt
      have t2 := winc (i := i) (by omega)
      by_cases hv : a.getD i 0 = b.getD i 0
      · have t3 : (!decide (a.getD i 0 = b.getD i 0)) = false := by rw [decide_eq_true hv]; rfl
        (repeat ((first | refine step_w1 rfl rfl ?_ | refine step_w2 rfl rfl ?_ | refine step_i (by kernel_rfl) ?_ | refine g_o (op_indexN (α := Rat) (d := 0) rfl (ev_ok rfl) (ev_ok rfl) (tgt rfl) rfl (tgt rfl) rfl (by omega)) ?_ | refine g_o (op_loadA rfl (ev_ok rfl) (tgt rfl) rfl (Nat.succ_ne_zero _) rfl) ?_ | refine ⟨_, op_neAgg tabOK goodOK rfl (ev_ok rfl) (ev_ok rfl) rfl rfl rfl rfl (q_same _ _) q_guard, ?_⟩ | rw [t1] | rw [t3] | rw [t2]); conv => whnf))
        exact ⟨a.length - (i + 1), fun k => k, [0, 1, 4, 11, 12, 13], [], by omega, by kernel_rfl, i + 1, rfl, hlt, by rw [take_snoc a i hlt, take_snoc b i (by omega), ht, hv], rfl, rfl⟩
      · have t3 : (!decide (a.getD i 0 = b.getD i 0)) = true := by rw [decide_eq_false hv]; rfl
        have e : decide (a = b) = false := decide_eq_false (fun h => hv (by rw [h]))
        rw [e]
        (repeat ((first | refine step_w1 rfl rfl ?_ | refine step_i (by kernel_rfl) ?_ | refine g_o (op_indexN (α := Rat) (d := 0) rfl (ev_ok rfl) (ev_ok rfl) (tgt rfl) rfl (tgt rfl) rfl (by omega)) ?_ | refine g_o (op_loadA rfl (ev_ok rfl) (tgt rfl) rfl (Nat.succ_ne_zero _) rfl) ?_ | refine ⟨_, op_neAgg tabOK goodOK rfl (ev_ok rfl) (ev_ok rfl) rfl rfl rfl rfl (q_same _ _) q_guard, ?_⟩ | rw [t1] | rw [t3]); conv => whnf)); (first | exact Recast.refl _ | exact Frz.recast (Recast.refl _) rfl | (refine Frz.one rfl rfl ?_; skip) | (refine Frz.tup ?_; skip))
    · have t1 := dge hlt
      have hI : i = a.length := by omega
      have e : decide (a = b) = true := decide_eq_true (by rw [hI, List.take_length] at ht; rw [ht, hab, List.take_length])
      rw [e]
      (repeat (first | (refine step_w2 rfl rfl ?_; conv => whnf) | (rw [t1]; conv => whnf))); (first | exact Recast.refl _ | exact Frz.recast (Recast.refl _) rfl | (refine Frz.one rfl rfl ?_; skip) | (refine Frz.tup ?_; skip))
  · have t0 : ((a.length : Int) != (b.length : Int)) = true := bne_iff_ne.2 (by omega)
    have e : decide (a = b) = false := decide_eq_false (fun h => hab (by rw [h]))
    rw [e]
    (repeat (first | (refine step_w1 rfl rfl ?_; conv => whnf) | (refine g_o (op_lenM rfl rfl rfl (ev_ok rfl) (tgt rfl) rfl) ?_; conv => whnf) | (rw [t0]; conv => whnf))); (first | exact Recast.refl _ | exact Frz.recast (Recast.refl _) rfl | (refine Frz.one rfl rfl ?_; skip) | (refine Frz.tup ?_; skip))

theorem v_Same (a b : List Rat) (ha : a.length < 1099511627776) (hb : b.length < 1099511627776) : CallOK Tryz.prog 24 [fvec a, fvec b] [] (.val (.bool (decide (a = b)))) [] [] := by
  have k1 := v_Equal a b ha hb
  refine callV (Z := []) tabOK mixedOK Tryz.func24 rfl (by kernel_rfl) rfl rfl (by kernel_rfl) rfl ?_
  intro W0 w0 ρ0 hE
  conv => whnf
  (repeat (first | (refine g_c (by assumption) ?_; conv => whnf))); (first | exact Recast.refl _ | exact Frz.recast (Recast.refl _) rfl | (refine Frz.one rfl rfl ?_; skip) | (refine Frz.tup ?_; skip))

end Go.Proofs.YtgodfkgocbppgaaGreatDoor

namespace Go.Proofs.YtgodfkgocbppgaaGreatDoor
open Go.Sx
set_option linter.unusedSimpArgs false
set_option linter.unusedVariables false
set_option maxRecDepth 100000
set_option maxHeartbeats 4000000

def ofInts (l : List Int) : List Rat := l.map fun (n : Int) => ((n : Int) : Rat)
theorem map_get {α β : Type} {f : α → β} {l : List α} {i : Nat} {d : α} {e : β} (h : i < l.length) : (l.map f).getD i e = f (l.getD i d) := by
  simp [List.getD_eq_getElem?_getD, List.getElem?_eq_getElem h]

theorem v_Of (l : List Int) (hl : l.length < 1099511627776) (h : ∀ i, i < l.length → -9223372036854775808 ≤ l.getD i 0 ∧ l.getD i 0 < 9223372036854775808) : CallOK Tryz.prog 51 [ivec .i64 l] [] (fvec (ofInts l)) [] [] := by
  refine callF (Z := []) tabOK mixedOK Tryz.func51 rfl (by kernel_rfl) (by first | rfl | (simp [keylessL, keyless, keylessL_map, *]; done)) (by first | rfl | (simp [keylessL, keyless, keylessL_map, *]; done)) (by kernel_rfl) rfl ?_
  intro w0 ρ0 hE
  conv => whnf
  (repeat (first | (refine And.intro (by first | decide | omega | (simp only [tiB5, tiB23, tiB3, tiB2, tiB9, tiB41, tiB72, tiB29, tiB30, tiB39, tiB33, tiB4, tiB68, tiB70, dlen, List.length_replicate, List.length_set, List.length_map, List.length_zipWith, List.length_take, List.length_append, List.length_cons, List.length_nil]; omega)) ?_; conv => whnf) | (refine g_o (op_lenM rfl rfl rfl (ev_ok rfl) (tgt rfl) rfl) ?_; conv => whnf) | (rw [Int.toNat_natCast]; conv => whnf)))
  have hz : (ofInts l).length = l.length := by simp [ofInts]
  refine SW_loopN hE (fun k => k) [0, 2, 3, 9, 10] [7] (fun m fr hp => ∃ i, m = l.length - i ∧ i ≤ l.length ∧ fr = [(0, ivec .i64 l), (2, .val (.slice none 0 0)), (3, .slc 7 5 0 l.length), (9, .val (.int .i64 (l.length : Nat))), (10, .val (.int .i64 (i : Nat)))] ∧
    hp = [(7, ⟨41, true, .fracs ((ofInts l).take i ++ List.replicate (l.length - i) 0)⟩)]) l.length ?_ ?_ ?_
  · kernel_rfl
  · exact ⟨0, rfl, Nat.zero_le _, rfl, rfl⟩
  rintro m _ _ ⟨i, rfl, hi, rfl, rfl⟩
  conv => whnf
  have hlen := fill_len (d := (0 : Rat)) hi hz
  by_cases hlt : i < l.length
  · have t1 := dlt hlt
    have t2 := winc (i := i) (by omega)
    obtain ⟨b1, b2⟩ := h i hlt
    have k1 := c_fInt (l.getD i 0) b1 b2
    rw [← map_get (f := fun (n : Int) => ((n : Int) : Rat)) (e := 0) hlt] at k1
    (repeat ((first | refine step_w1 rfl rfl ?_ | refine And.intro (by first | decide | omega | (simp only [tiB5, tiB23, tiB3, tiB2, tiB9, tiB41, tiB72, tiB29, tiB30, tiB39, tiB33, tiB4, tiB68, tiB70, dlen, List.length_replicate, List.length_set, List.length_map, List.length_zipWith, List.length_take, List.length_append, List.length_cons, List.length_nil]; omega)) ?_ | refine g_c (by assumption) ?_ | refine g_o (op_loadA rfl (ev_ok rfl) (tgt rfl) rfl (Nat.succ_ne_zero _) rfl) ?_ | refine g_o (op_indexN (α := Int) (d := 0) rfl (ev_ok rfl) (ev_ok rfl) (tgt rfl) rfl (tgt rfl) rfl (by omega)) ?_ | rw [t1] | rw [t2] | rw [Int.toNat_natCast] | rw [Nat.zero_add]); conv => whnf))
    refine ⟨l.length - (i + 1), fun k => k, [0, 2, 3, 9, 10], [7], by omega, by kernel_rfl, i + 1, rfl, hlt, rfl, ?_⟩
    rw [← fill_set (e := 0) hlt hz]
    rfl
  · have t1 := dge hlt
    have hI : i = l.length := by omega
    subst hI
    rw [fill_all hz]
    (repeat (first | (refine step_w2 rfl rfl ?_; conv => whnf) | (rw [t1]; conv => whnf))); (first | exact Recast.refl _ | exact Frz.recast (Recast.refl _) rfl | (refine Frz.one rfl rfl ?_; (repeat (first | (refine FrzC.fracs rfl ?_; (first | rfl | omega | (simp <;> fail) | (simp <;> omega)))))) | (refine Frz.tup ?_; skip))

/-- The elements at some places. -/
def vpart (a : List Rat) (p : List Int) : List Rat := p.map fun i => a.getD i.toNat 0
theorem v_Part (a : List Rat) (p : List Int) (ha : a.length ≤ 2048) (hp : p.length ≤ 2048) (h : ∀ i, i < p.length → 0 ≤ p.getD i 0 ∧ p.getD i 0 < a.length) : CallOK Tryz.prog 29 [fvec a, ivec .i64 p] [] (.tup [fvec (vpart a p), .val (.int .i64 0)]) [] [] := by
  have t0 : decide ((if (p.length : Int) > (a.length : Int) then (p.length : Int) else (a.length : Int)) > 2048) = false := decide_eq_false (by split <;> omega)
  refine callF (Z := []) tabOK mixedOK Tryz.func29 rfl (by kernel_rfl) (by first | rfl | (simp [keylessL, keyless, keylessL_map, *]; done)) (by first | rfl | (simp [keylessL, keyless, keylessL_map, *]; done)) (by kernel_rfl) rfl ?_
  intro w0 ρ0 hE
  conv => whnf
  (repeat ((first | refine step_w2 rfl rfl ?_ | refine And.intro (by first | decide | omega | (simp only [tiB5, tiB23, tiB3, tiB2, tiB9, tiB41, tiB72, tiB29, tiB30, tiB39, tiB33, tiB4, tiB68, tiB70, dlen, List.length_replicate, List.length_set, List.length_map, List.length_zipWith, List.length_take, List.length_append, List.length_cons, List.length_nil]; omega)) ?_ | refine g_o (op_lenM rfl rfl rfl (ev_ok rfl) (tgt rfl) rfl) ?_ | rw [t0] | rw [Int.toNat_natCast]); conv => whnf))
  have hz : (vpart a p).length = p.length := by simp [vpart]
  refine SW_loopN hE (fun k => k) [0, 1, 4, 5, 6, 18, 19, 20] [17] (fun m fr hp => ∃ i, m = p.length - i ∧ i ≤ p.length ∧ fr = [(0, fvec a), (1, ivec .i64 p), (4, .val (.slice none 0 0)), (5, .val (.int .i64 0)), (6, .slc 17 5 0 p.length), (18, ivec .i64 p), (19, .val (.int .i64 (p.length : Nat))), (20, .val (.int .i64 (i : Nat)))] ∧
    hp = [(17, ⟨41, true, .fracs ((vpart a p).take i ++ List.replicate (p.length - i) 0)⟩)]) p.length ?_ ?_ ?_
  · kernel_rfl
  · exact ⟨0, rfl, Nat.zero_le _, rfl, rfl⟩
  rintro m _ _ ⟨i, rfl, hi, rfl, rfl⟩
  conv => whnf
  have hlen := fill_len (d := (0 : Rat)) hi hz
  by_cases hlt : i < p.length
  · have t1 := dlt hlt
    have t2 := winc (i := i) (by omega)
    obtain ⟨b1, b2⟩ := h i hlt
    have e1 : a.getD (p.getD i 0).toNat 0 = (vpart a p).getD i 0 := (map_get (f := fun (i : Int) => a.getD i.toNat 0) hlt).symm
    have t3 : decide (p.getD i 0 < 0) = false := decide_eq_false (by omega)
    have t4 : decide (p.getD i 0 ≥ (a.length : Int)) = false := decide_eq_false (by omega)
    (repeat ((first | refine step_w1 rfl rfl ?_ | refine step_w2 rfl rfl ?_ | refine And.intro (by first | decide | omega | (simp only [tiB5, tiB23, tiB3, tiB2, tiB9, tiB41, tiB72, tiB29, tiB30, tiB39, tiB33, tiB4, tiB68, tiB70, dlen, List.length_replicate, List.length_set, List.length_map, List.length_zipWith, List.length_take, List.length_append, List.length_cons, List.length_nil]; omega)) ?_ | refine g_o (op_pickF rfl (ev_ok rfl) (ev_ok rfl)) ?_ | refine g_o (op_lenM rfl rfl rfl (ev_ok rfl) (tgt rfl) rfl) ?_ | refine g_o (op_loadA rfl (ev_ok rfl) (tgt rfl) rfl (Nat.succ_ne_zero _) rfl) ?_ | refine g_o (op_indexN (α := Int) (d := 0) rfl (ev_ok rfl) (ev_ok rfl) (tgt rfl) rfl (tgt rfl) rfl (by omega)) ?_ | refine g_o (op_indexM (α := Rat) (d := 0) rfl (ev_ok rfl) (ev_ok rfl) (tgt rfl) rfl (tgt rfl) rfl (by omega)) ?_ | rw [t1] | rw [t3] | rw [t4] | rw [e1] | rw [t2] | rw [Int.toNat_natCast] | rw [Nat.zero_add]); conv => whnf))
    refine ⟨p.length - (i + 1), fun k => k, [0, 1, 4, 5, 6, 18, 19, 20], [17], by omega, by kernel_rfl, i + 1, rfl, hlt, rfl, ?_⟩
    rw [← fill_set (e := 0) hlt hz]
    rfl
  · have t1 := dge hlt
    have hI : i = p.length := by omega
    subst hI
    rw [fill_all hz]
    (repeat (first | (refine step_w2 rfl rfl ?_; conv => whnf) | (rw [t1]; conv => whnf))); (first | exact Recast.refl _ | exact Frz.recast (Recast.refl _) rfl | (refine Frz.one rfl rfl ?_; skip) | (refine Frz.tup ?_; (repeat (first | exact FrzC.keyless rfl | exact FrzL.nil | refine FrzL.cons ?_ ?_ | (refine FrzC.fracs rfl ?_; (first | rfl | omega | (simp <;> fail) | (simp <;> omega)))))))

theorem alike_zero {ls : List (List Rat)} {n : Nat} (hl : ∀ v ∈ ls, v.length = n) (hn2 : n ≤ 2048) : alikeF ls = 0 := by
  rw [alikeF, if_neg, if_pos]
  · refine List.all_eq_true.2 fun v hv => ?_
    rw [hl v hv]
    cases ls with
    | nil => cases hv
    | cons x l => rw [List.headD_cons, hl x (List.mem_cons_self ..)]; exact beq_self_eq_true _
  · rw [Bool.not_eq_true, List.any_eq_false]
    intro v hv
    rw [hl v hv]
    simp; omega

/-- The sum of the first vectors. -/
def sumN (ls : List (List Rat)) (n : Nat) : Nat → List Rat
  | 0 => List.replicate n 0
  | i + 1 => vadd (sumN ls n i) (ls.getD i [])
theorem sumN_len {ls : List (List Rat)} {n : Nat} (hl : ∀ v ∈ ls, v.length = n) : ∀ i, i ≤ ls.length → (sumN ls n i).length = n
  | 0, _ => by simp [sumN]
  | i + 1, h => by
    have h1 := sumN_len hl i (by omega)
    have h2 := hl _ (getD_mem (d := []) (show i < ls.length by omega))
    rw [sumN]; exact zip_len h1 h2
theorem sumN_fs {ls : List (List Rat)} {n B : Nat} (hl : ∀ v ∈ ls, v.length = n) (hb : ∀ v ∈ ls, ∀ k, k < n → fs (v.getD k 0) ≤ B) : ∀ i, i ≤ ls.length → ∀ k, k < n → fs ((sumN ls n i).getD k 0) ≤ 2 + i * B
  | 0, _, k, hk => by
    have : (List.replicate n (0 : Rat)).getD k 0 = 0 := by simp [List.getD_eq_getElem?_getD, hk]
    rw [sumN, this, fs_zero]; omega
  | i + 1, h, k, hk => by
    have h1 := sumN_fs hl hb i (by omega) k hk
    have hm := getD_mem (d := []) (show i < ls.length by omega)
    have h2 := hb _ hm k hk
    have h3 := sumN_len hl i (by omega)
    rw [sumN, zip_get (d1 := 0) (d2 := 0) (by omega) (by rw [hl _ hm]; exact hk)]
    have := fs_add ((sumN ls n i).getD k 0) ((ls.getD i []).getD k 0)
    rw [Nat.succ_mul]; omega

theorem v_Sum (ls : List (List Rat)) (n B : Nat) (hn : ls.length < 1048576) (h0 : ls ≠ []) (hl : ∀ v ∈ ls, v.length = n) (hn2 : n ≤ 2048) (hb : ∀ v ∈ ls, ∀ k, k < n → fs (v.getD k 0) ≤ B) (hB : 2 + ls.length * B + B ≤ 1073741824) :
    CallOK Tryz.prog 49 [mvec 1 fvec ls] [] (.tup [fvec (sumN ls n ls.length), .val (.int .i64 0)]) [] [] := by
  have ka := v_alike ls (by omega) (fun v hv => by rw [hl v hv]; omega)
  rw [alike_zero hl hn2] at ka
  have hpos : 0 < ls.length := List.length_pos_iff.2 h0
  have t0 : ((ls.length : Int) == 0) = false := beq_false_of_ne (by omega)
  have hlen0 := hl _ (getD_mem (d := []) hpos)
  have t9 : (((ls.getD 0 []).length : Nat) : Int) = (n : Int) := by rw [hlen0]
  refine callF (Z := []) tabOK mixedOK Tryz.func49 rfl (by kernel_rfl) (by first | rfl | (simp [keylessL, keyless, keylessL_map, *]; done)) (by first | rfl | (simp [keylessL, keyless, keylessL_map, *]; done)) (by kernel_rfl) rfl ?_
  intro w0 ρ0 hE
  conv => whnf
  (repeat ((first | refine step_w1 rfl rfl ?_ | refine step_w2 rfl rfl ?_ | refine And.intro (by first | decide | omega | (simp only [tiB5, tiB23, tiB3, tiB2, tiB9, tiB41, tiB72, tiB29, tiB30, tiB39, tiB33, tiB4, tiB68, tiB70, dlen, List.length_replicate, List.length_set, List.length_map, List.length_zipWith, List.length_take, List.length_append, List.length_cons, List.length_nil]; omega)) ?_ | refine g_c (by assumption) ?_ | refine g_o (op_pickF rfl (ev_ok rfl) (ev_ok rfl)) ?_ | rw [bne_self_eq_false] | refine g_o (op_lenM rfl rfl rfl (ev_ok rfl) (tgt rfl) rfl) ?_ | refine g_o (op_loadA rfl (ev_ok rfl) (tgt rfl) rfl (Nat.succ_ne_zero _) rfl) ?_ | refine g_o (op_indexN (α := List Rat) (d := []) rfl (ev_ok rfl) (ev_ok rfl) (tgt rfl) rfl (tgt rfl) rfl (by omega)) ?_ | rw [t0] | rw [t9] | rw [Int.toNat_natCast]); conv => whnf))
  refine SWx_freezeF 2 21 (fun _ h => h) rfl rfl (by simp) ?_
  refine SW_loopN hE (fun k => k) [0, 2, 3, 4, 22, 23, 24] [] (fun m fr hp => ∃ i, m = ls.length - i ∧ i ≤ ls.length ∧ fr = [(0, mvec 1 fvec ls), (2, fvec (sumN ls n i)), (3, .val (.int .i64 0)), (4, .val (.int .i64 0)), (22, mvec 1 fvec ls), (23, .val (.int .i64 (ls.length : Nat))), (24, .val (.int .i64 (i : Nat)))] ∧ hp = []) ls.length ?_ ?_ ?_
  · kernel_rfl
  · exact ⟨0, rfl, Nat.zero_le _, rfl, rfl⟩
  rintro m _ _ ⟨i, rfl, hi, rfl, rfl⟩
  conv => whnf
  by_cases hlt : i < ls.length
  · have t1 := dlt hlt
    have t2 := winc (i := i) (by omega)
    have hm := getD_mem (d := []) hlt
    have h3 := sumN_len hl i hi
    have hi2 : i * B ≤ ls.length * B := Nat.mul_le_mul_right _ hi
    have k1 := v_Add (sumN ls n i) (ls.getD i []) (by rw [h3, hl _ hm]) (by omega) (fun k hk => by
      have h1 := sumN_fs hl hb i hi k (by omega)
      have h2 := hb _ hm k (by omega)
      omega)
    (repeat ((first | refine step_w1 rfl rfl ?_ | refine g_c (by assumption) ?_ | refine g_o (op_loadA rfl (ev_ok rfl) (tgt rfl) rfl (Nat.succ_ne_zero _) rfl) ?_ | refine g_o (op_indexN (α := List Rat) (d := []) rfl (ev_ok rfl) (ev_ok rfl) (tgt rfl) rfl (tgt rfl) rfl (by omega)) ?_ | rw [t1] | rw [t2]); conv => whnf))
    exact ⟨ls.length - (i + 1), fun k => k, [0, 2, 3, 4, 22, 23, 24], [], by omega, by kernel_rfl, i + 1, rfl, hlt, rfl, rfl⟩
  · have t1 := dge hlt
    have hI : i = ls.length := by omega
    subst hI
    (repeat (first | (refine step_w2 rfl rfl ?_; conv => whnf) | (rw [t1]; conv => whnf))); (first | exact Recast.refl _ | exact Frz.recast (Recast.refl _) rfl | (refine Frz.one rfl rfl ?_; skip) | (refine Frz.tup ?_; skip))

/-- The first part of a linear combination. -/
def mixN (c : List Rat) (ls : List (List Rat)) (n : Nat) : Nat → List Rat
  | 0 => List.replicate n 0
  | i + 1 => vaxpy (c.getD i 0) (ls.getD i []) (mixN c ls n i)
theorem mixN_len {c : List Rat} {ls : List (List Rat)} {n : Nat} (hl : ∀ v ∈ ls, v.length = n) : ∀ i, i ≤ ls.length → (mixN c ls n i).length = n
  | 0, _ => by simp [mixN]
  | i + 1, h => by
    have h1 := mixN_len (c := c) hl i (by omega)
    have h2 := hl _ (getD_mem (d := []) (show i < ls.length by omega))
    rw [mixN]; exact zip_len h2 h1
theorem mixN_fs {c : List Rat} {ls : List (List Rat)} {n B : Nat} (hc : c.length = ls.length) (hl : ∀ v ∈ ls, v.length = n) (hb : ∀ v ∈ ls, ∀ k, k < n → fs (v.getD k 0) ≤ B) (hcb : ∀ q ∈ c, fs q ≤ B) : ∀ i, i ≤ ls.length → ∀ k, k < n → fs ((mixN c ls n i).getD k 0) ≤ 2 + i * (B + B)
  | 0, _, k, hk => by
    have : (List.replicate n (0 : Rat)).getD k 0 = 0 := by simp [List.getD_eq_getElem?_getD, hk]
    rw [mixN, this, fs_zero]; omega
  | i + 1, h, k, hk => by
    have h1 := mixN_fs hc hl hb hcb i (by omega) k hk
    have hm := getD_mem (d := []) (show i < ls.length by omega)
    have hmc := hcb _ (getD_mem (d := 0) (show i < c.length by omega))
    have h2 := hb _ hm k hk
    have h3 := mixN_len (c := c) hl i (by omega)
    rw [mixN, zip_get (d1 := 0) (d2 := 0) (by rw [hl _ hm]; exact hk) (by omega)]
    have h4 := fs_add (c.getD i 0 * (ls.getD i []).getD k 0) ((mixN c ls n i).getD k 0)
    have h5 := fs_mul (c.getD i 0) ((ls.getD i []).getD k 0)
    rw [Nat.succ_mul]; omega

theorem v_Mix (c : List Rat) (ls : List (List Rat)) (n B : Nat) (hc : c.length = ls.length) (hn : ls.length < 1048576) (h0 : ls ≠ []) (hl : ∀ v ∈ ls, v.length = n) (hn2 : n ≤ 2048) (hb : ∀ v ∈ ls, ∀ k, k < n → fs (v.getD k 0) ≤ B) (hcb : ∀ q ∈ c, fs q ≤ B)
    (hB : 2 + ls.length * (B + B) + (B + B) ≤ 1073741824) : CallOK Tryz.prog 23 [fvec c, mvec 1 fvec ls] [] (.tup [fvec (mixN c ls n ls.length), .val (.int .i64 0)]) [] [] := by
  have ka := v_alike ls (by omega) (fun v hv => by rw [hl v hv]; omega)
  rw [alike_zero hl hn2] at ka
  have hpos : 0 < ls.length := List.length_pos_iff.2 h0
  have t0 : ((ls.length : Int) == 0) = false := beq_false_of_ne (by omega)
  have t1 : ((c.length : Int) != (ls.length : Int)) = false := by rw [hc]; exact bne_self_eq_false _
  have hlen0 := hl _ (getD_mem (d := []) hpos)
  have t9 : (((ls.getD 0 []).length : Nat) : Int) = (n : Int) := by rw [hlen0]
  refine callF (Z := []) tabOK mixedOK Tryz.func23 rfl (by kernel_rfl) (by first | rfl | (simp [keylessL, keyless, keylessL_map, *]; done)) (by first | rfl | (simp [keylessL, keyless, keylessL_map, *]; done)) (by kernel_rfl) rfl ?_
  intro w0 ρ0 hE
  conv => whnf
  (repeat ((first | refine step_w1 rfl rfl ?_ | refine step_w2 rfl rfl ?_ | refine And.intro (by first | decide | omega | (simp only [tiB5, tiB23, tiB3, tiB2, tiB9, tiB41, tiB72, tiB29, tiB30, tiB39, tiB33, tiB4, tiB68, tiB70, dlen, List.length_replicate, List.length_set, List.length_map, List.length_zipWith, List.length_take, List.length_append, List.length_cons, List.length_nil]; omega)) ?_ | refine g_c (by assumption) ?_ | refine g_o (op_pickF rfl (ev_ok rfl) (ev_ok rfl)) ?_ | rw [bne_self_eq_false] | refine g_o (op_lenM rfl rfl rfl (ev_ok rfl) (tgt rfl) rfl) ?_ | refine g_o (op_loadA rfl (ev_ok rfl) (tgt rfl) rfl (Nat.succ_ne_zero _) rfl) ?_ | refine g_o (op_indexN (α := List Rat) (d := []) rfl (ev_ok rfl) (ev_ok rfl) (tgt rfl) rfl (tgt rfl) rfl (by omega)) ?_ | rw [t0] | rw [t1] | rw [t9] | rw [Int.toNat_natCast]); conv => whnf))
  refine SWx_freezeF 7 34 (fun _ h => h) rfl rfl (by simp) ?_
  refine SW_loopN hE (fun k => k) [0, 1, 4, 5, 7, 36, 37] [] (fun m fr hp => ∃ i, m = ls.length - i ∧ i ≤ ls.length ∧ fr = [(0, fvec c), (1, mvec 1 fvec ls), (4, .val (.slice none 0 0)), (5, .val (.int .i64 0)), (7, fvec (mixN c ls n i)), (36, .val (.int .i64 (ls.length : Nat))), (37, .val (.int .i64 (i : Nat)))] ∧ hp = []) ls.length ?_ ?_ ?_
  · kernel_rfl
  · exact ⟨0, rfl, Nat.zero_le _, rfl, rfl⟩
  rintro m _ _ ⟨i, rfl, hi, rfl, rfl⟩
  conv => whnf
  by_cases hlt : i < ls.length
  · have t1 := dlt hlt
    have t2 := winc (i := i) (by omega)
    have hm := getD_mem (d := []) hlt
    have hmc := hcb _ (getD_mem (d := 0) (show i < c.length by omega))
    have h3 := mixN_len (c := c) hl i hi
    have hi2 : i * (B + B) ≤ ls.length * (B + B) := Nat.mul_le_mul_right _ hi
    have k1 := v_Axpy (c.getD i 0) (ls.getD i []) (mixN c ls n i) (by rw [h3, hl _ hm]) (by rw [hl _ hm]; omega) (fun k hk => by
      rw [hl _ hm] at hk
      have h1 := mixN_fs hc hl hb hcb i hi k (by omega)
      have h2 := hb _ hm k (by omega)
      omega)
    (repeat ((first | refine step_w1 rfl rfl ?_ | refine step_i (by kernel_rfl) ?_ | refine g_c (by assumption) ?_ | refine g_o (op_indexN (α := Rat) (d := 0) rfl (ev_ok rfl) (ev_ok rfl) (tgt rfl) rfl (tgt rfl) rfl (by omega)) ?_ | refine g_o (op_loadA rfl (ev_ok rfl) (tgt rfl) rfl (Nat.succ_ne_zero _) rfl) ?_ | refine g_o (op_indexN (α := List Rat) (d := []) rfl (ev_ok rfl) (ev_ok rfl) (tgt rfl) rfl (tgt rfl) rfl (by omega)) ?_ | rw [t1] | rw [t2]); conv => whnf))
    exact ⟨ls.length - (i + 1), fun k => k, [0, 1, 4, 5, 7, 36, 37], [], by omega, by kernel_rfl, i + 1, rfl, hlt, rfl, rfl⟩
  · have t1 := dge hlt
    have hI : i = ls.length := by omega
    subst hI
    (repeat (first | (refine step_w2 rfl rfl ?_; conv => whnf) | (rw [t1]; conv => whnf))); (first | exact Recast.refl _ | exact Frz.recast (Recast.refl _) rfl | (refine Frz.one rfl rfl ?_; skip) | (refine Frz.tup ?_; skip))
end Go.Proofs.YtgodfkgocbppgaaGreatDoor

namespace Go.Proofs
open Go.Shelf
def Tryz.lays156_ren : Go.Shelf.Ren := ⟨fun | 156 => 88 | 165 => 122 | 166 => 123 | 169 => 124 | 240 => 146 | 241 => 147 | 276 => 161 | 277 => 162 | n => n, fun | 31 => 123 | 9 => 9 | 3 => 3 | 4 => 4 | 0 => 0 | 20 => 20 | 72 => 160 | 76 => 164 | 70 => 157 | 37 => 158 | 75 => 163 | 127 => 185 | 164 => 198 | 5 => 5 | 80 => 166 | n => n, fun | n => n⟩
theorem Tryz.lays156 : Go.Proofs.Lays.n156 Tryz.prog Tryz.lays156_ren := {
  mixed := by kernel_rfl
  f156 := Tryz.func88.trans (congrArg some (by kernel_rfl))
  f165 := Tryz.func122.trans (congrArg some (by kernel_rfl))
  f166 := Tryz.func123.trans (congrArg some (by kernel_rfl))
  f169 := Tryz.func124.trans (congrArg some (by kernel_rfl))
  f240 := Tryz.func146.trans (congrArg some (by kernel_rfl))
  f241 := Tryz.func147.trans (congrArg some (by kernel_rfl))
  f276 := Tryz.func161.trans (congrArg some (by kernel_rfl))
  f277 := Tryz.func162.trans (congrArg some (by kernel_rfl))
  t0 := Tryz.underlying0
  a0 := Tryz.isAgg0
  z0 := Tryz.sizeOf0
  v0 := Tryz.zeroValue0
  t3 := Tryz.underlying3
  a3 := Tryz.isAgg3
  z3 := Tryz.sizeOf3
  v3 := Tryz.zeroValue3
  t4 := Tryz.underlying4
  a4 := Tryz.isAgg4
  z4 := Tryz.sizeOf4
  v4 := Tryz.zeroValue4
  t9 := Tryz.underlying9
  a9 := Tryz.isAgg9
  z9 := Tryz.sizeOf9
  v9 := Tryz.zeroValue9
  t20 := Tryz.underlying20
  a20 := Tryz.isAgg20
  z20 := Tryz.sizeOf20
  v20 := Tryz.zeroValue20
  t31 := Tryz.underlying123
  a31 := Tryz.isAgg123
  z31 := Tryz.sizeOf123
  v31 := Tryz.zeroValue123
  t37 := Tryz.underlying158
  a37 := Tryz.isAgg158
  z37 := Tryz.sizeOf158
  v37 := Tryz.zeroValue158
  t70 := Tryz.underlying157
  a70 := Tryz.isAgg157
  z70 := Tryz.sizeOf157
  v70 := Tryz.zeroValue157
  t72 := Tryz.underlying160
  a72 := Tryz.isAgg160
  z72 := Tryz.sizeOf160
  v72 := Tryz.zeroValue160
  t75 := Tryz.underlying163
  a75 := Tryz.isAgg163
  z75 := Tryz.sizeOf163
  v75 := Tryz.zeroValue163
  t76 := Tryz.underlying164
  a76 := Tryz.isAgg164
  z76 := Tryz.sizeOf164
  v76 := Tryz.zeroValue164
  t127 := Tryz.underlying185
  a127 := Tryz.isAgg185
  z127 := Tryz.sizeOf185
  v127 := Tryz.zeroValue185
  t164 := Tryz.underlying198
  a164 := Tryz.isAgg198
  z164 := Tryz.sizeOf198
  v164 := Tryz.zeroValue198 }
theorem Tryz.Builder_Extra_156 : Builder.Extra Tryz.prog Tryz.lays156_ren := {
  sizeBuilder := by kernel_rfl
  liesBuilder := by kernel_rfl
  t5 := Tryz.underlying5
  a5 := Tryz.isAgg5
  z5 := Tryz.sizeOf5
  v5 := Tryz.zeroValue5
  infoByte := by kernel_rfl
  cellsByte := by kernel_rfl
  sizeByte := by kernel_rfl
  neB5 := by decide }
open Go.RowKit in
/-- No element: the empty string; the world is as it was. (Whatever the slice's address and capacity: a nil slice too.) (LAID: no walk: one application.) -/
theorem Tryz.strings_Join_none (a : Option Addr) (c : Nat) (sep : ByteArray) (w : World) :
    Calls Tryz.prog 88 #[.slice a 0 c, .string sep] w fun e w' => e = .returned (.string ⟨#[]⟩) ∧ w' = w := Any.strings_Join_none Tryz.lays156 Tryz.Builder_Extra_156 a c sep w
open Go.RowKit in
/-- strings.Join: "Join concatenates the elements of its first argument to create a single string. The separator string sep is placed between elements in the resulting string.": HOWEVER MANY ELEMENTS. Below the heap's end the world is as it was. (LAID: no walk: one application.) -/
theorem Tryz.strings_Join (bk o c : Nat) (xs : List ByteArray) (sep : ByteArray) (w : World) (hcells : ∀ (j : Nat) x, xs[j]? = some x → w.cell? ⟨bk, o + j, none⟩ = some (.string x)) (hbk : bk < w.heap.size) (hN : xs.length ≤ 140737488355328) (hcap : xs.length ≤ c) (hlen : (Lib.join (xs.map (·.data.toList)) sep.data.toList).length ≤ 140737488355328) :
    Calls Tryz.prog 88 #[.slice (some ⟨bk, o, none⟩) xs.length c, .string sep] w fun e w' => e = .returned (.string ⟨(Lib.join (xs.map (·.data.toList)) sep.data.toList).toArray⟩) ∧ Below w.heap.size w w' := Any.strings_Join Tryz.lays156 Tryz.Builder_Extra_156 bk o c xs sep w hcells hbk hN hcap hlen
def Tryz.lays283_ren : Go.Shelf.Ren := ⟨fun | 283 => 154 | n => n, fun | 3 => 3 | 9 => 9 | 4 => 4 | n => n, fun | n => n⟩
theorem Tryz.lays283 : Go.Proofs.Lays.n283 Tryz.prog Tryz.lays283_ren := {
  mixed := by kernel_rfl
  f283 := Tryz.func154.trans (congrArg some (by kernel_rfl))
  t3 := Tryz.underlying3
  a3 := Tryz.isAgg3
  z3 := Tryz.sizeOf3
  v3 := Tryz.zeroValue3
  t4 := Tryz.underlying4
  a4 := Tryz.isAgg4
  z4 := Tryz.sizeOf4
  v4 := Tryz.zeroValue4
  t9 := Tryz.underlying9
  a9 := Tryz.isAgg9
  z9 := Tryz.sizeOf9
  v9 := Tryz.zeroValue9 }
open Go.Lib in
/-- internal/strconv.small: "small returns the string for an i with 0 <= i < nSmalls.": i's decimal numeral. The world is as it was. (LAID: no walk: one application.) -/
theorem Tryz.internal_strconv_small (i : Nat) (h : i < 100) (w : World) :
    Calls Tryz.prog 154 #[.int .i64 i] w fun e w' => e = .returned (.string ⟨(Lib.decDigits i).toArray⟩) ∧ w' = w := Any.internal_strconv_small Tryz.lays283 i h w
end Go.Proofs

namespace Go.Proofs.YtgodfkgocbppgaaGreatDoor
open Go.Sx
set_option linter.unusedSimpArgs false
set_option linter.unusedVariables false
set_option maxRecDepth 100000
set_option maxHeartbeats 4000000

/-- The decimal text of a number. -/
def decF : Nat → Nat → List UInt8
  | 0, _ => []
  | f + 1, n => if n < 10 then [UInt8.ofNat (48 + n)] else decF f (n / 10) ++ [UInt8.ofNat (48 + n % 10)]
theorem decF_eq : ∀ f n, n < f → decF f n = Lib.decDigits n
  | 0, n, h => by omega
  | f + 1, n, h => by
    rw [decF, Lib.decDigits]
    by_cases h1 : n < 10
    · rw [if_pos h1, dif_pos h1]
    · rw [if_neg h1, dif_neg h1, decF_eq f (n / 10) (by omega)]
def tN (n : Nat) : ByteArray := ⟨(decF (n + 1) n).toArray⟩
theorem tN_eq (n : Nat) : tN n = ⟨(Lib.decDigits n).toArray⟩ := by rw [tN, decF_eq _ _ (Nat.lt_succ_self n)]
def tZ (z : Int) : ByteArray := if z < 0 then "-".toUTF8 ++ tN z.natAbs else tN z.natAbs
def tQ (q : Rat) : ByteArray := if q.den = 1 then tZ q.num else tZ q.num ++ "/".toUTF8 ++ tN q.den

theorem t_small (i : Nat) (h : i < 100) : CallOK Tryz.prog 154 [.val (.int .i64 (i : Nat))] [] (.val (.string (tN i))) [] [] :=
  call_vals' (vs := [.int .i64 (i : Nat)]) ⟨Tryz.f154, Tryz.func154, rfl, by kernel_rfl⟩ rfl (fun w => by rw [tN_eq]; exact Tryz.internal_strconv_small i h w)

theorem t_iFormat (n : Nat) (h : n < 100) : CallOK Tryz.prog 139 [.val (.int .u64 (n : Nat)), .val (.int .i64 10)] [] (.val (.string (tN n))) [] [] := by
  have k1 := t_small n h
  have t1 : decide ((n : Int) < 100) = true := decide_eq_true (by omega)
  have t2 : IntKind.i64.wrap (n : Int) = n := wrap_i64 (by omega) (by omega)
  refine callV (Z := []) tabOK mixedOK Tryz.func139 rfl (by kernel_rfl) rfl rfl (by kernel_rfl) rfl ?_
  intro W0 w0 ρ0 hE
  conv => whnf
  (repeat ((first | refine step_w1 rfl rfl ?_ | refine g_c (by assumption) ?_ | rw [beq_self_eq_true] | rw [t1] | rw [t2]); conv => whnf)); (first | exact Recast.refl _ | exact Frz.recast (Recast.refl _) rfl | (refine Frz.one rfl rfl ?_; skip) | (refine Frz.tup ?_; skip))
theorem t_Format (n : Nat) (h : n < 100) : CallOK Tryz.prog 111 [.val (.int .u64 (n : Nat)), .val (.int .i64 10)] [] (.val (.string (tN n))) [] [] := by
  have k1 := t_iFormat n h
  refine callV (Z := []) tabOK mixedOK Tryz.func111 rfl (by kernel_rfl) rfl rfl (by kernel_rfl) rfl ?_
  intro W0 w0 ρ0 hE
  conv => whnf
  (repeat (first | (refine g_c (by assumption) ?_; conv => whnf))); (first | exact Recast.refl _ | exact Frz.recast (Recast.refl _) rfl | (refine Frz.one rfl rfl ?_; skip) | (refine Frz.tup ?_; skip))
theorem t_Nat (n : Nat) (h : n < 100) : CallOK Tryz.prog 79 [.nat n] [] (.val (.string (tN n))) [] [] := by
  have k1 := t_Format n h
  have e1 : low n = (n : Int) := low_small (by omega)
  have e2 : ((big n).toList == (ByteArray.mk #[]).toList) = true := by rw [big_eq]; exact decide_eq_true (by omega)
  refine callV (Z := []) tabOK mixedOK Tryz.func79 rfl (by kernel_rfl) rfl rfl (by kernel_rfl) rfl ?_
  intro W0 w0 ρ0 hE
  conv => whnf
  (repeat ((first | refine step_w1 rfl rfl ?_ | refine g_c (by assumption) ?_ | rw [e2] | rw [e1]); conv => whnf)); (first | exact Recast.refl _ | exact Frz.recast (Recast.refl _) rfl | (refine Frz.one rfl rfl ?_; skip) | (refine Frz.tup ?_; skip))

theorem tN_size : ∀ n, n < 100 → (tN n).size ≤ 2 := by
  intro n h
  rw [tN_eq]
  show (Lib.decDigits n).toArray.size ≤ 2
  by_cases h1 : n < 10
  · rw [Lib.decDigits_one h1]; simp
  · rw [Lib.decDigits_two h1 h]; simp
theorem t_Int (z : Int) (h : z.natAbs < 100) : CallOK Tryz.prog 78 [.int z] [] (.val (.string (tZ z))) [] [] := by
  have k1 := t_Nat z.natAbs h
  have hs := tN_size _ h
  have h1 : (ByteArray.mk #[45]).size = 1 := rfl
  have h2 : (ByteArray.mk #[45]).size + (tN z.natAbs).size ≤ 9223372036854775807 := by omega
  unfold tZ
  refine callV (Z := []) tabOK mixedOK Tryz.func78 rfl (by kernel_rfl) rfl rfl (by kernel_rfl) rfl ?_
  intro W0 w0 ρ0 hE
  conv => whnf
  by_cases hz : z < 0
  · have t1 : decide (z < 0) = true := decide_eq_true hz
    rw [if_pos hz]
    (repeat ((first | refine step_w1 rfl rfl ?_ | refine And.intro (by first | decide | omega | (simp only [tiB5, tiB23, tiB3, tiB2, tiB9, tiB41, tiB72, tiB29, tiB30, tiB39, tiB33, tiB4, tiB68, tiB70, dlen, List.length_replicate, List.length_set, List.length_map, List.length_zipWith, List.length_take, List.length_append, List.length_cons, List.length_nil]; omega)) ?_ | refine g_c (by assumption) ?_ | rw [t1]); conv => whnf)); (first | exact Recast.refl _ | exact Frz.recast (Recast.refl _) rfl | (refine Frz.one rfl rfl ?_; skip) | (refine Frz.tup ?_; skip))
  · have t1 : decide (z < 0) = false := decide_eq_false hz
    rw [if_neg hz]
    (repeat (first | (refine step_w2 rfl rfl ?_; conv => whnf) | (refine g_c (by assumption) ?_; conv => whnf) | (rw [t1]; conv => whnf))); (first | exact Recast.refl _ | exact Frz.recast (Recast.refl _) rfl | (refine Frz.one rfl rfl ?_; skip) | (refine Frz.tup ?_; skip))
theorem tZ_size {z : Int} (h : z.natAbs < 100) : (tZ z).size ≤ 3 := by
  have hs := tN_size _ h
  unfold tZ
  split
  · rw [ByteArray.size_append]; have : ("-".toUTF8).size = 1 := rfl; omega
  · omega
theorem t_Frac (q : Rat) (h : q.num.natAbs < 100) (h' : q.den < 100) : CallOK Tryz.prog 44 [.frac q] [] (.val (.string (tQ q))) [] [] := by
  have kw := c_Whole q
  have k1 := t_Int q.num h
  have k2 := t_Nat q.den h'
  have k3 := c_den natBig q (Nat.le_trans (sz_le.2 (show q.den < 2 ^ 64 by omega)) (by decide))
  have hs := tZ_size h
  have hs2 := tN_size _ h'
  have h1 : (ByteArray.mk #[47]).size = 1 := rfl
  have h2 : (tZ q.num).size + (ByteArray.mk #[47]).size ≤ 9223372036854775807 := by omega
  have h3 : (tZ q.num ++ (ByteArray.mk #[47])).size + (tN q.den).size ≤ 9223372036854775807 := by rw [ByteArray.size_append]; omega
  unfold tQ
  refine callV (Z := []) tabOK mixedOK Tryz.func44 rfl (by kernel_rfl) rfl rfl (by kernel_rfl) rfl ?_
  intro W0 w0 ρ0 hE
  conv => whnf
  by_cases hd : q.den = 1
  · rw [decide_eq_true hd] at kw
    rw [if_pos hd]
    (repeat (first | (refine step_w1 rfl rfl ?_; conv => whnf) | (refine g_c (by assumption) ?_; conv => whnf))); (first | exact Recast.refl _ | exact Frz.recast (Recast.refl _) rfl | (refine Frz.one rfl rfl ?_; skip) | (refine Frz.tup ?_; skip))
  · rw [decide_eq_false hd] at kw
    rw [if_neg hd]
    (repeat ((first | refine step_w2 rfl rfl ?_ | refine step_i (by kernel_rfl) ?_ | refine And.intro (by first | decide | omega | (simp only [tiB5, tiB23, tiB3, tiB2, tiB9, tiB41, tiB72, tiB29, tiB30, tiB39, tiB33, tiB4, tiB68, tiB70, dlen, List.length_replicate, List.length_set, List.length_map, List.length_zipWith, List.length_take, List.length_append, List.length_cons, List.length_nil]; omega)) ?_ | refine g_c (by assumption) ?_); conv => whnf)); (first | exact Recast.refl _ | exact Frz.recast (Recast.refl _) rfl | (refine Frz.one rfl rfl ?_; skip) | (refine Frz.tup ?_; skip))

/-- The text of a vector. -/
def tV (a : List Rat) : ByteArray := "[".toUTF8 ++ ⟨(Lib.join ((a.map tQ).map (·.data.toList)) [32]).toArray⟩ ++ "]".toUTF8

theorem t_Join (ss : List ByteArray) (hN : ss.length ≤ 1099511627776) (hlen : (Lib.join (ss.map (·.data.toList)) [32]).length ≤ 140737488355328) :
    CallOK Tryz.prog 88 [mvec 1 sel ss, .val (.string ⟨#[32]⟩)] [] (.val (.string ⟨(Lib.join (ss.map (·.data.toList)) [32]).toArray⟩)) [] [] := by
  refine call_strs ⟨Tryz.f88, Tryz.func88, rfl, by kernel_rfl⟩ rfl ?_ ?_
  · rintro rfl a w
    exact Tryz.strings_Join_none a 0 ⟨#[32]⟩ w
  · intro bk o c w hc hb hcap
    exact Tryz.strings_Join bk o c ss ⟨#[32]⟩ w hc hb (by omega) hcap hlen

theorem t_Vec (a : List Rat) (hl : a.length ≤ 2048) (h : ∀ i, i < a.length → (a.getD i 0).num.natAbs < 100 ∧ (a.getD i 0).den < 100) (hJ : (Lib.join ((a.map tQ).map (·.data.toList)) [32]).length ≤ 140737488355328) : CallOK Tryz.prog 52 [fvec a] [] (.val (.string (tV a))) [] [] := by
  have hz : ((a.map tQ).map sel).length = a.length := by simp
  have hget : ∀ i, i < a.length → ((a.map tQ).map sel).getD i .any = .val (.string (tQ (a.getD i 0))) := fun i hi => by rw [map_get (d := ByteArray.empty) (by simpa using hi), map_get (d := 0) hi]; rfl
  have kj := t_Join (a.map tQ) (by simp; omega) hJ
  refine callF (Z := []) tabOK mixedOK Tryz.func52 rfl (by kernel_rfl) (by first | rfl | (simp [keylessL, keyless, keylessL_map, *]; done)) (by first | rfl | (simp [keylessL, keyless, keylessL_map, *]; done)) (by kernel_rfl) rfl ?_
  intro w0 ρ0 hE
  conv => whnf
  (repeat (first | (refine And.intro (by first | decide | omega | (simp only [tiB5, tiB23, tiB3, tiB2, tiB9, tiB41, tiB72, tiB29, tiB30, tiB39, tiB33, tiB4, tiB68, tiB70, dlen, List.length_replicate, List.length_set, List.length_map, List.length_zipWith, List.length_take, List.length_append, List.length_cons, List.length_nil]; omega)) ?_; conv => whnf) | (refine g_o (op_lenM rfl rfl rfl (ev_ok rfl) (tgt rfl) rfl) ?_; conv => whnf) | (rw [Int.toNat_natCast]; conv => whnf)))
  refine SW_loopS hE (fun k => k) [0, 2, 3, 9, 10, 11] [8] (fun m fr hp => ∃ i, m = a.length - i ∧ i ≤ a.length ∧ fr = [(0, fvec a), (2, .val (.string ⟨#[]⟩)), (3, .slc 8 1 0 a.length), (9, fvec a), (10, .val (.int .i64 (a.length : Nat))), (11, .val (.int .i64 (i : Nat)))] ∧
    hp = [(8, ⟨9, true, .seq 1 (((a.map tQ).map sel).take i ++ List.replicate (a.length - i) (.val (.string .empty)))⟩)]) a.length ?_ ?_ ?_
  · kernel_rfl
  · exact ⟨0, rfl, Nat.zero_le _, rfl, rfl⟩
  rintro m _ _ ⟨i, rfl, hi, rfl, rfl⟩
  have hlen := fill_len (d := SV.val (.string .empty)) hi hz
  by_cases hlt : i < a.length
  · have t1 := dlt hlt
    have t2 := winc (i := i) (by omega)
    obtain ⟨b1, b2⟩ := h i hlt
    have k1 := t_Frac (a.getD i 0) b1 b2
    refine SWx.of hE ?_
    conv => whnf
    have e3 := fill_get (d := SV.val (.string .empty)) (e := SV.any) hlt hz
    (repeat ((first | refine step_w1 rfl rfl ?_ | refine And.intro (by first | decide | omega | (simp only [tiB5, tiB23, tiB3, tiB2, tiB9, tiB41, tiB72, tiB29, tiB30, tiB39, tiB33, tiB4, tiB68, tiB70, dlen, List.length_replicate, List.length_set, List.length_map, List.length_zipWith, List.length_take, List.length_append, List.length_cons, List.length_nil]; omega)) ?_ | refine g_c (by assumption) ?_ | refine g_o (op_indexN (α := Rat) (d := 0) rfl (ev_ok rfl) (ev_ok rfl) (tgt rfl) rfl (tgt rfl) rfl (by omega)) ?_ | refine g_o (op_loadA rfl (ev_ok rfl) (tgt rfl) rfl (Nat.succ_ne_zero _) rfl) ?_ | rw [t1] | rw [e3] | rw [t2] | rw [Int.toNat_natCast] | rw [Nat.zero_add]); conv => whnf))
    refine ⟨a.length - (i + 1), fun k => k, [0, 2, 3, 9, 10, 11], [8], by omega, by kernel_rfl, i + 1, rfl, hlt, rfl, ?_⟩
    rw [← fill_set (e := .any) hlt hz, hget i hlt]
    rfl
  · have t1 := dge hlt
    have hI : i = a.length := by omega
    subst hI
    rw [fill_all hz]
    refine SWx_freezeM 3 8 (fun _ h => h) (fun _ => rfl) rfl rfl (by simp) ?_
    refine SWx.of hE ?_
    conv => whnf
    have h91 : (ByteArray.mk #[91]).size = 1 := rfl
    have h93 : (ByteArray.mk #[93]).size = 1 := rfl
    have hjs : (ByteArray.mk (Lib.join ((a.map tQ).map (·.data.toList)) [32]).toArray).size = (Lib.join ((a.map tQ).map (·.data.toList)) [32]).length := by show (Lib.join ((a.map tQ).map (·.data.toList)) [32]).toArray.size = _; simp
    have o1 : (ByteArray.mk #[91]).size + (ByteArray.mk (Lib.join ((a.map tQ).map (·.data.toList)) [32]).toArray).size ≤ 9223372036854775807 := by omega
    have o2 : (ByteArray.mk #[91] ++ ByteArray.mk (Lib.join ((a.map tQ).map (·.data.toList)) [32]).toArray).size + (ByteArray.mk #[93]).size ≤ 9223372036854775807 := by rw [ByteArray.size_append]; omega
    (repeat ((first | refine step_w2 rfl rfl ?_ | refine And.intro (by first | decide | omega | (simp only [tiB5, tiB23, tiB3, tiB2, tiB9, tiB41, tiB72, tiB29, tiB30, tiB39, tiB33, tiB4, tiB68, tiB70, dlen, List.length_replicate, List.length_set, List.length_map, List.length_zipWith, List.length_take, List.length_append, List.length_cons, List.length_nil]; omega)) ?_ | refine g_c (by assumption) ?_ | rw [t1]); conv => whnf)); (first | exact Recast.refl _ | exact Frz.recast (Recast.refl _) rfl | (refine Frz.one rfl rfl ?_; skip) | (refine Frz.tup ?_; skip))
end Go.Proofs.YtgodfkgocbppgaaGreatDoor

namespace Go.Proofs.YtgodfkgocbppgaaGreatDoor
open Go.Sx
set_option linter.unusedSimpArgs false
set_option linter.unusedVariables false
set_option maxRecDepth 100000
set_option maxHeartbeats 4000000

/-- A fraction as plain data, its value. -/
abbrev qA : Int × Int → SV := ag2 (iel .i64) (iel .u32)
def qV (q : Int × Int) : Rat := (q.1 : Rat) / ((if q.2 < 1 then 1 else q.2 : Int) : Rat)
/-- Its bounds. -/
def qOK (q : Int × Int) : Prop := (-9223372036854775808 ≤ q.1 ∧ q.1 < 9223372036854775808) ∧ (0 ≤ q.2 ∧ q.2 < 4294967296)

theorem fs_qV {q : Int × Int} (h : qOK q) : fs (qV q) ≤ 130 := by
  have h1 := fs_div (q.1 : Rat) ((if q.2 < 1 then 1 else q.2 : Int) : Rat)
  have h2 := fs_int h.1.1 h.1.2
  have h3 : fs ((if q.2 < 1 then 1 else q.2 : Int) : Rat) ≤ 65 := fs_int (by have := h.2; split <;> omega) (by have := h.2; split <;> omega)
  unfold qV
  omega

theorem c_QOf (q : Int × Int) (h : qOK q) : CallOK Tryz.prog 16 [qA q] [] (.frac (qV q)) [] [] := by
  have hd : (if q.2 < 1 then 1 else q.2) ≠ 0 := by have := h.2; split <;> omega
  have e1 : (if (1 : Int) > q.2 then 1 else q.2) = (if q.2 < 1 then 1 else q.2) := rfl
  have e2 : IntKind.i64.wrap (if (1 : Int) > q.2 then 1 else q.2) = (if q.2 < 1 then 1 else q.2) := wrap_i64 (by have := h.2; split <;> omega) (by have := h.2; split <;> omega)
  have g2 := fs_int h.1.1 h.1.2
  have g3 : fs ((if q.2 < 1 then 1 else q.2 : Int) : Rat) ≤ 65 := fs_int (by have := h.2; split <;> omega) (by have := h.2; split <;> omega)
  have k1 := c_fOf natBig q.1 (if q.2 < 1 then 1 else q.2) (by unfold fs at g2 g3; omega) h.1.1 h.1.2 (by have := h.2; split <;> omega) (by have := h.2; split <;> omega) hd
  refine callV (Z := []) tabOK mixedOK Tryz.func16 rfl (by kernel_rfl) rfl rfl (by kernel_rfl) rfl ?_
  intro W0 w0 ρ0 hE
  conv => whnf
  (repeat (first | (refine g_c (by assumption) ?_; conv => whnf) | (rw [e2]; conv => whnf))); (first | exact Recast.refl _ | exact Frz.recast (Recast.refl _) rfl | (refine Frz.one rfl rfl ?_; skip) | (refine Frz.tup ?_; skip))

theorem app_snoc {α : Type} {l : List α} {i : Nat} {d : α} (h : i < l.length) : (l.take i).take i ++ (([l.getD i d] : List α).drop 0).take 1 = l.take (i + 1) := by
  have e : l.take (i + 1) = l.take i ++ [l.getD i d] := by rw [List.take_add_one, List.getD_eq_getElem?_getD, List.getElem?_eq_getElem h]; rfl
  rw [List.take_take, Nat.min_self, e]; rfl

theorem c_V (l : List (Int × Int)) (hl : l.length < 1048576) (h : ∀ q ∈ l, qOK q) : CallOK Tryz.prog 14 [mvec 2 qA l] [] (fvec (l.map qV)) [] [] := by
  have hz : (l.map qV).length = l.length := by simp
  refine callF (Z := []) tabOK mixedOK Tryz.func14 rfl (by kernel_rfl) (by first | rfl | (simp [keylessL, keyless, keylessL_map, *]; done)) (by first | rfl | (simp [keylessL, keyless, keylessL_map, *]; done)) (by kernel_rfl) rfl ?_
  intro w0 ρ0 hE
  conv => whnf
  skip
  refine SWx_adopt (t := 3) (k := 2001) (s := 5) (blk := ⟨41, true, .fracs []⟩) rfl rfl rfl ?_
  refine SW_loopN hE (fun k => k) [0, 2, 3, 4] [2001] (fun m fr hp => ∃ i, m = l.length - i ∧ i ≤ l.length ∧ fr = [(0, mvec 2 qA l), (2, .val (.slice none 0 0)), (3, .slc 2001 5 0 i), (4, .val (.int .i64 (i : Nat)))] ∧ hp = [(2001, ⟨41, true, .fracs ((l.map qV).take i)⟩)]) l.length ?_ ?_ ?_
  · kernel_rfl
  · exact ⟨0, rfl, Nat.zero_le _, rfl, rfl⟩
  rintro m _ _ ⟨i, rfl, hi, rfl, rfl⟩
  have hlen : ((l.map qV).take i).length = i := by simp; omega
  conv => whnf
  by_cases hlt : i < l.length
  · have t1 := dlt hlt
    have t2 := winc (i := i) (by omega)
    have k1 := c_QOf (l.getD i (0, 0)) (h _ (getD_mem hlt))
    rw [← map_get (f := qV) (e := 0) hlt] at k1
    (repeat ((first | refine step_w1 rfl rfl ?_ | refine And.intro (by first | decide | omega | (simp only [tiB5, tiB23, tiB3, tiB2, tiB9, tiB41, tiB72, tiB29, tiB30, tiB39, tiB33, tiB4, tiB68, tiB70, dlen, List.length_replicate, List.length_set, List.length_map, List.length_zipWith, List.length_take, List.length_append, List.length_cons, List.length_nil]; omega)) ?_ | refine g_c (by assumption) ?_ | refine g_o (op_lenM rfl rfl rfl (ev_ok rfl) (tgt rfl) rfl) ?_ | refine g_o (op_loadA rfl (ev_ok rfl) (tgt rfl) rfl (Nat.succ_ne_zero _) rfl) ?_ | refine g_o (op_indexN (α := Int × Int) (d := (0, 0)) rfl (ev_ok rfl) (ev_ok rfl) (tgt rfl) rfl (tgt rfl) rfl (by omega)) ?_ | rw [t1] | rw [t2]); conv => whnf))
    refine ⟨l.length - (i + 1), renBy [(18, 2001)], [0, 2, 3, 4], [18], by omega, by kernel_rfl, i + 1, rfl, hlt, rfl, ?_⟩
    rw [← app_snoc (d := 0) (show i < (l.map qV).length by rw [hz]; exact hlt)]
    rfl
  · have t1 := dge hlt
    have hI : i = l.length := by omega
    subst hI
    rw [List.take_of_length_le (by simp)]
    (repeat (first | (refine step_w2 rfl rfl ?_; conv => whnf) | (refine g_o (op_lenM rfl rfl rfl (ev_ok rfl) (tgt rfl) rfl) ?_; conv => whnf) | (rw [t1]; conv => whnf))); (first | exact Recast.refl _ | exact Frz.recast (Recast.refl _) rfl | (refine Frz.one rfl rfl ?_; (repeat (first | (refine FrzC.fracs rfl ?_; (first | rfl | omega | (simp <;> fail) | (simp <;> omega)))))) | (refine Frz.tup ?_; skip))
end Go.Proofs.YtgodfkgocbppgaaGreatDoor

namespace Go.Proofs.YtgodfkgocbppgaaGreatDoor
open Go.Sx
set_option linter.unusedSimpArgs false
set_option linter.unusedVariables false

section
variable (x y : Nat → Rat)
end

end Go.Proofs.YtgodfkgocbppgaaGreatDoor

namespace Go.Proofs.YtgodfkgocbppgaaGreatDoor
open Go.Sx
set_option linter.unusedSimpArgs false
set_option linter.unusedVariables false
set_option maxRecDepth 100000
set_option maxHeartbeats 4000000

/-- Vectors that are refused. -/
theorem v_eachE (a b : List Rat) (g : FuncId) (ha : a.length < 1099511627776) (hb : b.length < 1099511627776) (h : alikeF [a, b] ≠ 0) : CallOK Tryz.prog 70 [fvec a, fvec b, .clo g [] []] [] (.tup [fvec [], .val (.int .i64 (alikeF [a, b]))]) [] [] := by
  have k1 := v_alike [a, b] (by simp) (by simp; omega)
  have t1 : (alikeF [a, b] != 0) = true := bne_iff_ne.2 h
  refine callF (Z := [13]) tabOK mixedOK Tryz.func70 rfl (by kernel_rfl) (by first | rfl | (simp [keylessL, keyless, keylessL_map, *]; done)) (by first | rfl | (simp [keylessL, keyless, keylessL_map, *]; done)) (by kernel_rfl) rfl ?_
  intro w0 ρ0 hE
  conv => whnf
  (repeat (first | (refine step_w1 rfl rfl ?_; conv => whnf) | (refine g_c (by assumption) ?_; conv => whnf) | (rw [t1]; conv => whnf))); (first | exact Recast.refl _ | exact Frz.recast (Recast.refl _) rfl | (refine Frz.one rfl rfl ?_; skip) | (refine Frz.tup ?_; (repeat (first | exact FrzC.keyless rfl | exact FrzL.nil | refine FrzL.cons ?_ ?_ | exact FrzC.nilS))))
theorem v_AddE (a b : List Rat) (ha : a.length < 1099511627776) (hb : b.length < 1099511627776) (h : alikeF [a, b] ≠ 0) : CallOK Tryz.prog 35 [fvec a, fvec b] [] (.tup [fvec [], .val (.int .i64 (alikeF [a, b]))]) [] [] := by
  have k1 := v_eachE a b 31 ha hb h
  refine callV (Z := []) tabOK mixedOK Tryz.func35 rfl (by kernel_rfl) rfl rfl (by kernel_rfl) rfl ?_
  intro W0 w0 ρ0 hE
  conv => whnf
  (repeat (first | (refine g_c (by assumption) ?_; conv => whnf))); (first | exact Recast.refl _ | exact Frz.recast (Recast.refl _) rfl | (refine Frz.one rfl rfl ?_; skip) | (refine Frz.tup ?_; skip))

abbrev h12 : Rat := ((1 : Int) : Rat) / ((2 : Int) : Rat)
theorem l_works : CallOK Tryz.prog 12 [] [] (.val (.bool true)) [] [] := by
  have k1 := c_fOf natBig 1 2 (by decide +kernel) (by decide) (by decide) (by decide) (by decide) (by decide)
  have o1 := v_Of [1, -2] (by decide) (by decide)
  have o2 := v_Of [0, 3] (by decide) (by decide)
  have o3 := v_Of [1, 2, 3] (by decide) (by decide)
  have o4 := v_Of [4, 5, 6] (by decide) (by decide)
  have o5 := v_Of [2, 3] (by decide) (by decide)
  have o6 := v_Of [1, 0] (by decide) (by decide)
  have o7 := v_Of [0, 1] (by decide) (by decide)
  have o8 := v_Of [5, 6, 7] (by decide) (by decide)
  have o9 := v_Of [1] (by decide) (by decide)
  have o10 := v_Of [1, 2] (by decide) (by decide)
  have o11 := v_Of [2, -7] (by decide) (by decide)
  have k2 := v_Axpy h12 (ofInts [1, -2]) (ofInts [0, 3]) rfl (by decide) (by decide +kernel)
  have k3 := v_Dot (ofInts [1, 2, 3]) (ofInts [4, 5, 6]) rfl (by decide) (by unfold Fit; decide +kernel) (by decide +kernel)
  have k4 := v_Mix (ofInts [2, 3]) [ofInts [1, 0], ofInts [0, 1]] 2 10 rfl (by decide) (by decide) (by decide) (by decide) (by decide +kernel) (by decide +kernel) (by decide)
  have k5 := v_Part (ofInts [5, 6, 7]) [2, 0, 2] (by decide) (by decide) (by decide)
  have k6 := v_AddE (ofInts [1]) (ofInts [1, 2]) (by decide) (by decide) (by decide)
  have t1 := t_Vec (ofInts [1, -2]) (by decide) (by decide +kernel) (by decide +kernel)
  have t2 := t_Vec (vaxpy h12 (ofInts [1, -2]) (ofInts [0, 3])) (by decide) (by decide +kernel) (by decide +kernel)
  have t3 := t_Vec (mixN (ofInts [2, 3]) [ofInts [1, 0], ofInts [0, 1]] 2 [ofInts [1, 0], ofInts [0, 1]].length) (by decide) (by decide +kernel) (by decide +kernel)
  have t4 := t_Vec (vpart (ofInts [5, 6, 7]) [2, 0, 2]) (by decide) (by decide +kernel) (by decide +kernel)
  have t5 := (t_Vec [] (by decide) (by decide) (by decide)).nil1 (a := none)
  have k7 := c_fInt 32 (by decide) (by decide)
  have k8 := c_fInt 7 (by decide) (by decide)
  have k9 := v_UnitI 2 2 (by decide) (by decide)
  have k10 := v_ZeroE (-1) (by decide)
  have k11 := v_ZeroE 2049 (by decide)
  have k12 := v_Max (ofInts [2, -7]) (by decide) 100 (by decide) (by decide) (by decide +kernel)
  have k13 := (v_Max [] (by decide) 100 (by decide) (by decide) (by decide)).nil1 (a := none)
  have q1 : (!(tV (ofInts [1, -2])).toList == (ByteArray.mk #[91, 49, 32, 45, 50, 93]).toList) = false := by decide +kernel
  have q2 : (!(tV (vaxpy h12 (ofInts [1, -2]) (ofInts [0, 3]))).toList == (ByteArray.mk #[91, 49, 47, 50, 32, 50, 93]).toList) = false := by decide +kernel
  have q3 : (!(tV (mixN (ofInts [2, 3]) [ofInts [1, 0], ofInts [0, 1]] 2 [ofInts [1, 0], ofInts [0, 1]].length)).toList == (ByteArray.mk #[91, 50, 32, 51, 93]).toList) = false := by decide +kernel
  have q4 : (!(tV (vpart (ofInts [5, 6, 7]) [2, 0, 2])).toList == (ByteArray.mk #[91, 55, 32, 53, 32, 55, 93]).toList) = false := by decide +kernel
  have q5 : (!decide (vdot (ofInts [1, 2, 3]) (ofInts [4, 5, 6]) = ((32 : Int) : Rat))) = false := by decide +kernel
  have q6 : (alikeF [ofInts [1], ofInts [1, 2]] != 1) = false := by decide +kernel
  have q7 : (decide (vmax (ofInts [2, -7]) = ((7 : Int) : Rat))) = true := by decide +kernel
  have q8 : (decide (vmax [] = (0 : Rat))) = true := by decide +kernel
  have q9 : ((tV []).toList == (ByteArray.mk #[91, 93]).toList) = true := by decide +kernel
  refine callV (Z := [24, 29, 35, 37, 43, 45, 47, 49, 54, 56, 61, 63, 134]) tabOK mixedOK Tryz.func12 rfl (by kernel_rfl) rfl rfl (by kernel_rfl) rfl ?_
  intro W0 w0 ρ0 hE
  conv => whnf
  (repeat ((first | refine step_w1 rfl rfl ?_ | refine step_w2 rfl rfl ?_ | refine step_i (by kernel_rfl) ?_ | refine g_c (by assumption) ?_ | refine g_o (op_pickT rfl (ev_ok rfl) (ev_ok rfl)) ?_ | refine g_o (op_pickF rfl (ev_ok rfl) (ev_ok rfl)) ?_ | rw [beq_self_eq_true] | rw [bne_self_eq_false] | refine ⟨_, op_eqAgg tabOK goodOK rfl (ev_ok rfl) (ev_ok rfl) rfl rfl rfl rfl (q_same _ _) q_guard, ?_⟩ | refine ⟨_, op_neAgg tabOK goodOK rfl (ev_ok rfl) (ev_ok rfl) rfl rfl rfl rfl (q_same _ _) q_guard, ?_⟩ | rw [q1] | rw [q2] | rw [q3] | rw [q4] | rw [q5] | rw [q6] | rw [q7] | rw [q9]); conv => whnf)); (first | exact Recast.refl _ | exact Frz.recast (Recast.refl _) rfl | (refine Frz.one rfl rfl ?_; skip) | (refine Frz.tup ?_; skip))
end Go.Proofs.YtgodfkgocbppgaaGreatDoor

namespace Go.Proofs.YtgodfkgocbppgaaGreatDoor
open Go.Sx
set_option linter.unusedSimpArgs false
set_option linter.unusedVariables false
set_option maxRecDepth 100000
set_option maxHeartbeats 4000000

/-- All elements have at most B bits. -/
def Sm (B : Nat) (l : List Rat) : Prop := ∀ i, i < l.length → fs (l.getD i 0) ≤ B
theorem Sm_V {l : List (Int × Int)} (h : ∀ q ∈ l, qOK q) : Sm 130 (l.map qV) := by
  intro i hi
  rw [List.length_map] at hi
  rw [map_get (f := qV) (d := (0, 0)) hi]
  exact fs_qV (h _ (getD_mem hi))
/-- Bounds of plain data. -/
abbrev QWf (l : List (Int × Int)) : Prop := l.length ≤ maxLen ∧ ∀ x ∈ l, ((Lit.int .i64 x.1).wf = true) ∧ ((Lit.int .u32 x.2).wf = true)
theorem qOK_of {l : List (Int × Int)} (w : l.length ≤ maxLen ∧ ∀ x ∈ l, ((Lit.int .i64 x.1).wf = true) ∧ ((Lit.int .u32 x.2).wf = true)) : ∀ q ∈ l, qOK q := fun q hq => ⟨wf_i64 (w.2 q hq).1, wf_u32 (w.2 q hq).2⟩
theorem Sm_take {l : List (Int × Int)} (h : ∀ q ∈ l, qOK q) (n : Nat) : Sm 130 ((l.take n).map qV) := Sm_V (l := l.take n) (fun q hq => h q (List.mem_of_mem_take hq))
theorem len_take {l : List (Int × Int)} {n : Nat} (hn : n ≤ l.length) : ((l.take n).map qV).length = n := by rw [List.length_map, List.length_take]; omega
theorem c_Vt {l : List (Int × Int)} (h : ∀ q ∈ l, qOK q) {n : Nat} (hn : n ≤ 2048) : CallOK Tryz.prog 14 [mvec 2 qA (l.take n)] [] (fvec ((l.take n).map qV)) [] [] :=
  c_V (l.take n) (by rw [List.length_take]; omega) (fun q hq => h q (List.mem_of_mem_take hq))
section
variable {a b z : List Rat} {n i : Nat} {c : Rat}
theorem get_add (ha : a.length = n) (hb : b.length = n) (hi : i < n) : (vadd a b).getD i 0 = a.getD i 0 + b.getD i 0 := zip_get (by omega) (by omega)
end

end Go.Proofs.YtgodfkgocbppgaaGreatDoor

namespace Go.Proofs.YtgodfkgocbppgaaGreatDoor
open Go.Sx
set_option linter.unusedSimpArgs false
set_option linter.unusedVariables false
set_option maxRecDepth 100000
set_option maxHeartbeats 4000000

/-- A list on the way from one to another, element by element. -/
abbrev half2 (A B : List Rat) (k : Nat) : List Rat := A.take k ++ B.drop k
theorem half_len {A B : List Rat} {n k : Nat} (hA : A.length = n) (hB : B.length = n) (hk : k ≤ n) : (half2 A B k).length = n := by
  simp only [List.length_append, List.length_take, List.length_drop]; omega
theorem half_get {A B : List Rat} {n k : Nat} (hA : A.length = n) (hB : B.length = n) (hk : k < n) : (half2 A B k).getD k 0 = B.getD k 0 := by
  have h : (A.take k).length = k := by rw [List.length_take]; omega
  rw [List.getD_eq_getElem?_getD, List.getElem?_append_right (by omega), h, Nat.sub_self, List.getElem?_drop, Nat.add_zero, ← List.getD_eq_getElem?_getD]
theorem half_set {A B : List Rat} {n k : Nat} (hA : A.length = n) (hB : B.length = n) (hk : k < n) : (half2 A B k).set k (A.getD k 0) = half2 A B (k + 1) := by
  have h : (A.take k).length = k := by rw [List.length_take]; omega
  rw [List.set_append_right _ _ (by omega), h, Nat.sub_self, List.drop_eq_getElem_cons (show k < B.length by omega), List.set_cons_zero]
  have e : A.take (k + 1) = A.take k ++ [A.getD k 0] := by rw [List.take_add_one, List.getD_eq_getElem?_getD, List.getElem?_eq_getElem (show k < A.length by omega)]; rfl
  rw [half2, e, List.append_assoc]; rfl
theorem half_all {A B : List Rat} {n : Nat} (hA : A.length = n) (hB : B.length = n) : half2 A B n = A := by
  rw [half2, List.take_of_length_le (by omega), List.drop_of_length_le (by omega), List.append_nil]

/-- The law's coefficients. -/
def wAt (c : List (Int × Int)) (i : Nat) : Rat := if i < c.length then qV (c.getD i (0, 0)) else ((i : Int) : Rat)
def wsN (c : List (Int × Int)) (i : Nat) : List Rat := (List.range i).map (wAt c)
theorem wsN_len (c : List (Int × Int)) (i : Nat) : (wsN c i).length = i := by simp [wsN]
theorem wsN_snoc (c : List (Int × Int)) (i : Nat) : wsN c (i + 1) = wsN c i ++ [wAt c i] := by simp [wsN, List.range_succ]
theorem wsN_get {c : List (Int × Int)} {n i : Nat} (h : i < n) : (wsN c n).getD i 0 = wAt c i := by simp [wsN, List.getD_eq_getElem?_getD, h]
theorem fs_wAt {c : List (Int × Int)} (hc : ∀ q ∈ c, qOK q) {i : Nat} (hi : i < 1000) : fs (wAt c i) ≤ 130 := by
  unfold wAt; split
  · rename_i h; exact fs_qV (hc _ (getD_mem h))
  · exact Nat.le_trans (fs_int (by omega) (by omega)) (by decide)
theorem ws_all {c : List (Int × Int)} (hc : ∀ q ∈ c, qOK q) {n : Nat} (hn : n < 1000) : ∀ q ∈ wsN c n, fs q ≤ 130 := by
  intro q hq
  obtain ⟨i, hi, rfl⟩ := List.mem_map.1 hq
  exact fs_wAt hc (by have := List.mem_range.1 hi; omega)
/-- The law's vectors. -/
def cutV (n : Nat) (x : List (Int × Int)) : List Rat := (x.take n).map qV
def allV (l : List (List (Int × Int))) (n : Nat) : List (List Rat) := l.map (cutV n)
theorem allV_len {l : List (List (Int × Int))} {n : Nat} : (allV l n).length = l.length := by simp [allV]
theorem cutV_len {n : Nat} {x : List (Int × Int)} (h : n ≤ x.length) : (cutV n x).length = n := by simp [cutV]; omega
theorem allV_all {l : List (List (Int × Int))} {n : Nat} (h : ∀ x ∈ l, n ≤ x.length) : ∀ v ∈ allV l n, v.length = n := by
  intro v hv
  obtain ⟨x, hx, rfl⟩ := List.mem_map.1 hv
  exact cutV_len (h x hx)
theorem allV_get {l : List (List (Int × Int))} {n i : Nat} (h : i < l.length) : (allV l n).getD i [] = cutV n (l.getD i []) := by
  rw [allV]; exact map_get (d := []) h
theorem allV_sm {l : List (List (Int × Int))} {n : Nat} (hq : ∀ x ∈ l, ∀ q ∈ x, qOK q) (h : ∀ x ∈ l, n ≤ x.length) : ∀ v ∈ allV l n, ∀ k, k < n → fs (v.getD k 0) ≤ 130 := by
  intro v hv k hk
  obtain ⟨x, hx, rfl⟩ := List.mem_map.1 hv
  exact Sm_take (hq x hx) n k (by rw [len_take (h x hx)]; exact hk)
theorem get_axpy' {a b : List Rat} {n i : Nat} {c : Rat} (ha : a.length = n) (hb : b.length = n) (hi : i < n) : (vaxpy c a b).getD i 0 = c * a.getD i 0 + b.getD i 0 := zip_get (by omega) (by omega)
theorem take_snocL {α : Type} (l : List α) (i : Nat) (d : α) (hi : i < l.length) : l.take (i + 1) = l.take i ++ [l.getD i d] := by
  rw [List.take_add_one, List.getD_eq_getElem?_getD, List.getElem?_eq_getElem hi]; rfl
/-- The wanted elements. -/
def placeF (n : Nat) (p : Int) : Int := if Int.tmod p n < 0 then Int.tmod p n + n else Int.tmod p n
theorem place_ok {n : Nat} (hn : 0 < n) (p : Int) : 0 ≤ placeF n p ∧ placeF n p < n := by
  have h1 := Int.tmod_lt_of_pos p (show (0 : Int) < n by omega)
  have h2 := Int.lt_tmod_of_pos p (show (0 : Int) < n by omega)
  unfold placeF; split <;> omega
theorem SWx_freezeI {E : Env} (t k : Nat) {c : Code} {K : Post'} {fr : List (Nat × SV)} {hp : List (Nat × Blk)} {ty : TypeId} {n : Nat} {kd : IntKind} {xs : List Int} (hW : ∀ b, ¬ E.W0 b) (ht : lk fr t = some (.slc k 1 0 n)) (hk : find hp k = some ⟨ty, true, .ints kd xs⟩)
    (hn : n = xs.length) (hs : SWx E c K ((t, ivec kd xs) :: fr) (setB hp k ⟨ty, true, .dead⟩)) : SWx E c K fr hp := by
  refine SWx_freeze t k (xs := xs.map (iel kd)) hW ht hk rfl rfl (keylessL_map (fun _ => rfl) xs) (by simp; omega) ?_
  rw [cutL_all (by simp; omega)]
  exact hs
end Go.Proofs.YtgodfkgocbppgaaGreatDoor

namespace Go.Proofs.YtgodfkgocbppgaaGreatDoor
open Go.Sx
set_option linter.unusedSimpArgs false
set_option linter.unusedVariables false
set_option maxRecDepth 100000
set_option maxHeartbeats 8000000

theorem v_Sum0 : CallOK Tryz.prog 49 [mvec 1 fvec []] [] (.tup [fvec [], .val (.int .i64 0)]) [] [] := by
  have ka := v_alike [] (by decide) (fun v hv => by cases hv)
  rw [show alikeF [] = 0 from rfl] at ka
  refine callF (Z := []) tabOK mixedOK Tryz.func49 rfl (by kernel_rfl) (by first | rfl | (simp [keylessL, keyless, keylessL_map, *]; done)) (by first | rfl | (simp [keylessL, keyless, keylessL_map, *]; done)) (by kernel_rfl) rfl ?_
  intro w0 ρ0 hE
  conv => whnf
  (repeat ((first | refine step_w1 rfl rfl ?_ | refine g_c (by assumption) ?_ | refine g_o (op_pickF rfl (ev_ok rfl) (ev_ok rfl)) ?_ | rw [bne_self_eq_false] | refine g_o (op_lenM rfl rfl rfl (ev_ok rfl) (tgt rfl) rfl) ?_); conv => whnf)); (first | exact Recast.refl _ | exact Frz.recast (Recast.refl _) rfl | (refine Frz.one rfl rfl ?_; skip) | (refine Frz.tup ?_; (repeat (first | exact FrzC.keyless rfl | exact FrzL.nil | refine FrzL.cons ?_ ?_ | exact FrzC.nilS))))
theorem v_MixN0 : CallOK Tryz.prog 23 [fvec [], mvec 1 fvec []] [] (.tup [fvec [], .val (.int .i64 0)]) [] [] := by
  have ka := v_alike [] (by decide) (fun v hv => by cases hv)
  rw [show alikeF [] = 0 from rfl] at ka
  refine callF (Z := []) tabOK mixedOK Tryz.func23 rfl (by kernel_rfl) (by first | rfl | (simp [keylessL, keyless, keylessL_map, *]; done)) (by first | rfl | (simp [keylessL, keyless, keylessL_map, *]; done)) (by kernel_rfl) rfl ?_
  intro w0 ρ0 hE
  conv => whnf
  (repeat ((first | refine step_w1 rfl rfl ?_ | refine step_w2 rfl rfl ?_ | refine g_c (by assumption) ?_ | refine g_o (op_pickF rfl (ev_ok rfl) (ev_ok rfl)) ?_ | rw [bne_self_eq_false] | refine g_o (op_lenM rfl rfl rfl (ev_ok rfl) (tgt rfl) rfl) ?_); conv => whnf)); (first | exact Recast.refl _ | exact Frz.recast (Recast.refl _) rfl | (refine Frz.one rfl rfl ?_; skip) | (refine Frz.tup ?_; (repeat (first | exact FrzC.keyless rfl | exact FrzL.nil | refine FrzL.cons ?_ ?_ | exact FrzC.nilS))))
abbrev vblk (l : List (List Rat)) : Blk := ⟨30, true, .seq 1 (l.map fvec)⟩
abbrev qblk (l : List Rat) : Blk := ⟨41, true, .fracs l⟩
abbrev iblk (l : List Int) : Blk := ⟨3, true, .ints .i64 l⟩
abbrev lA : List (Int × Int) → SV := mvec 2 qA
theorem c_Sums (c : List (Int × Int)) (l : List (List (Int × Int))) (pl : List Int) (hc : ∀ q ∈ c, qOK q) (ho : ∀ x ∈ l, ∀ q ∈ x, qOK q) (hL : ∀ x ∈ l, x.length ≤ maxLen) (hp : ∀ p ∈ pl, -9223372036854775808 ≤ p ∧ p < 9223372036854775808) :
    CallOK Tryz.prog 9 [mvec 2 qA c, mvec 1 lA l, ivec .i64 pl] [] (.val (.bool true)) [] [] := by
  have kw := l_works
  refine callF (Z := []) tabOK mixedOK Tryz.func9 rfl (by kernel_rfl) (by first | rfl | (simp [keylessL, keyless, keylessL_map, *]; done)) (by first | rfl | (simp [keylessL, keyless, keylessL_map, *]; done)) (by kernel_rfl) rfl ?_
  intro w0 ρ0 hE
  conv => whnf
  by_cases h1 : c.length > 8
  · have t1 : Hid (decide ((c.length : Int) > 8) = true) := show decide ((c.length : Int) > 8) = true from decide_eq_true (by omega)
    (repeat ((first | refine step_w1 rfl rfl ?_ | refine step_w2 rfl rfl ?_ | refine g_c (by assumption) ?_ | refine g_o (op_pickT rfl (ev_ok rfl) (ev_ok rfl)) ?_ | refine g_o (op_lenM rfl rfl rfl (ev_ok rfl) (tgt rfl) rfl) ?_ | rw [t1.out]); conv => whnf)); (first | exact Recast.refl _ | exact Frz.recast (Recast.refl _) rfl | (refine Frz.one rfl rfl ?_; skip) | (refine Frz.tup ?_; skip))
  have t1 : Hid (decide ((c.length : Int) > 8) = false) := show decide ((c.length : Int) > 8) = false from decide_eq_false (by omega)
  by_cases h2 : l.length > 8
  · have t2 : Hid (decide ((l.length : Int) > 8) = true) := show decide ((l.length : Int) > 8) = true from decide_eq_true (by omega)
    (repeat ((first | refine step_w1 rfl rfl ?_ | refine step_w2 rfl rfl ?_ | refine g_c (by assumption) ?_ | refine g_o (op_pickT rfl (ev_ok rfl) (ev_ok rfl)) ?_ | refine g_o (op_pickF rfl (ev_ok rfl) (ev_ok rfl)) ?_ | refine g_o (op_lenM rfl rfl rfl (ev_ok rfl) (tgt rfl) rfl) ?_ | rw [t1.out] | rw [t2.out]); conv => whnf)); (first | exact Recast.refl _ | exact Frz.recast (Recast.refl _) rfl | (refine Frz.one rfl rfl ?_; skip) | (refine Frz.tup ?_; skip))
  have t2 : Hid (decide ((l.length : Int) > 8) = false) := show decide ((l.length : Int) > 8) = false from decide_eq_false (by omega)
  by_cases h3 : pl.length > 20
  · have t3 : Hid (decide ((pl.length : Int) > 20) = true) := show decide ((pl.length : Int) > 20) = true from decide_eq_true (by omega)
    (repeat ((first | refine step_w1 rfl rfl ?_ | refine g_c (by assumption) ?_ | refine g_o (op_pickF rfl (ev_ok rfl) (ev_ok rfl)) ?_ | refine g_o (op_lenM rfl rfl rfl (ev_ok rfl) (tgt rfl) rfl) ?_ | rw [t1.out] | rw [t2.out] | rw [t3.out]); conv => whnf)); (first | exact Recast.refl _ | exact Frz.recast (Recast.refl _) rfl | (refine Frz.one rfl rfl ?_; skip) | (refine Frz.tup ?_; skip))
  have t3 : Hid (decide ((pl.length : Int) > 20) = false) := show decide ((pl.length : Int) > 20) = false from decide_eq_false (by omega)
  (repeat ((first | refine step_w1 rfl rfl ?_ | refine step_w2 rfl rfl ?_ | refine g_o (op_pickF rfl (ev_ok rfl) (ev_ok rfl)) ?_ | refine g_o (op_lenM rfl rfl rfl (ev_ok rfl) (tgt rfl) rfl) ?_ | rw [t1.out] | rw [t2.out] | rw [t3.out]); conv => whnf))
  refine SW_loopN hE (fun k => k) [0, 1, 2, 7, 8] [] (fun m fr hp => ∃ i n : Nat, m = l.length - i ∧ i ≤ l.length ∧ n ≤ 20 ∧ (∀ j, j < i → n ≤ (l.getD j []).length) ∧ fr = [(0, mvec 2 qA c), (1, mvec 1 lA l), (2, ivec .i64 pl), (7, .val (.int .i64 (n : Nat))), (8, .val (.int .i64 (i : Nat)))] ∧ hp = []) l.length ?_ ?_ ?_
  · kernel_rfl
  · exact ⟨0, 20, rfl, Nat.zero_le _, Nat.le_refl _, (fun j hj => by omega), rfl, rfl⟩
  rintro m _ _ ⟨i, n, rfl, hi, hn, hmin, rfl, rfl⟩
  conv => whnf
  by_cases hlt : i < l.length
  · have t4 := dlt hlt
    have t5 := winc (i := i) (by omega)
    by_cases h4 : (l.getD i []).length > 20
    · have t6 : decide (((l.getD i []).length : Int) > 20) = true := decide_eq_true (by omega)
      (repeat ((first | refine step_w1 rfl rfl ?_ | refine g_c (by assumption) ?_ | refine g_o (op_lenM rfl rfl rfl (ev_ok rfl) (tgt rfl) rfl) ?_ | refine g_o (op_loadA rfl (ev_ok rfl) (tgt rfl) rfl (Nat.succ_ne_zero _) rfl) ?_ | refine g_o (op_indexN (α := List (Int × Int)) (d := []) rfl (ev_ok rfl) (ev_ok rfl) (tgt rfl) rfl (tgt rfl) rfl (by omega)) ?_ | rw [t4] | rw [t6]); conv => whnf)); (first | exact Recast.refl _ | exact Frz.recast (Recast.refl _) rfl | (refine Frz.one rfl rfl ?_; skip) | (refine Frz.tup ?_; skip))
    · have t6 : decide (((l.getD i []).length : Int) > 20) = false := decide_eq_false (by omega)
      have e1 : (if ((l.getD i []).length : Int) < (n : Int) then ((l.getD i []).length : Int) else (n : Int)) = ((min n (l.getD i []).length : Nat) : Int) := by split <;> omega
      (repeat ((first | refine step_w1 rfl rfl ?_ | refine step_w2 rfl rfl ?_ | refine g_o (op_lenM rfl rfl rfl (ev_ok rfl) (tgt rfl) rfl) ?_ | refine g_o (op_loadA rfl (ev_ok rfl) (tgt rfl) rfl (Nat.succ_ne_zero _) rfl) ?_ | refine g_o (op_indexN (α := List (Int × Int)) (d := []) rfl (ev_ok rfl) (ev_ok rfl) (tgt rfl) rfl (tgt rfl) rfl (by omega)) ?_ | rw [t4] | rw [t6] | rw [e1] | rw [t5]); conv => whnf))
      refine ⟨l.length - (i + 1), fun k => k, [0, 1, 2, 7, 8], [], by omega, by kernel_rfl, i + 1, min n (l.getD i []).length, rfl, hlt, by omega, ?_, rfl, rfl⟩
      intro j hj
      by_cases hji : j = i
      · rw [hji]; omega
      · have := hmin j (by omega); omega
  have t4 := dge hlt
  have hI : i = l.length := by omega
  subst hI
  have e2 : IntKind.i64.wrap (20 * (l.length : Int)) = ((20 * l.length : Nat) : Int) := by rw [wrap_i64 (by omega) (by omega)]; omega
  have e3 : (if ((20 * l.length : Nat) : Int) < (n : Int) then ((20 * l.length : Nat) : Int) else (n : Int)) = ((min n (20 * l.length) : Nat) : Int) := by split <;> omega
  have hN0 : l.length = 0 → min n (20 * l.length) = 0 := by omega
  have hN1 : ∀ x ∈ l, min n (20 * l.length) ≤ x.length := by
    intro x hx
    obtain ⟨j, hj, rfl⟩ := mem_getD hx []
    have := hmin j hj; omega
  have hN2 : min n (20 * l.length) ≤ 20 := by omega
  generalize hN : min n (20 * l.length) = N at *
  clear hN hmin
  (repeat ((first | refine step_w2 rfl rfl ?_ | refine step_i (by kernel_rfl) ?_ | refine And.intro (by first | decide | omega | (simp only [tiB5, tiB23, tiB3, tiB2, tiB9, tiB41, tiB72, tiB29, tiB30, tiB39, tiB33, tiB4, tiB68, tiB70, dlen, List.length_replicate, List.length_set, List.length_map, List.length_zipWith, List.length_take, List.length_append, List.length_cons, List.length_nil]; omega)) ?_ | refine g_o (op_lenM rfl rfl rfl (ev_ok rfl) (tgt rfl) rfl) ?_ | rw [t4] | rw [e2] | rw [e3] | rw [Int.toNat_natCast]); conv => whnf))
  clear e3 hn
  have hlenN := allV_all hN1
  have hsmN := allV_sm ho hN1
  have hAl : (allV l N).length = l.length := allV_len
  have sl0 : (sumN (allV l N) N 0).length = N := sumN_len hlenN 0 (by omega)
  have ml0 : (mixN (wsN c l.length) (allV l N) N 0).length = N := mixN_len hlenN 0 (by omega)
  refine SWx_adopt (t := 9) (k := 2001) (s := 1) (blk := ⟨30, true, .seq 1 []⟩) rfl rfl rfl ?_
  refine SWx_adopt (t := 10) (k := 2002) (s := 5) (blk := ⟨41, true, .fracs []⟩) rfl rfl rfl ?_
  refine SW_loopS hE (fun k => k) [0, 1, 2, 7, 9, 10, 11, 12, 13] [2001, 2002, 67, 69] (fun m fr hp => ∃ i : Nat, m = l.length - i ∧ i ≤ l.length ∧
    fr = [(0, mvec 2 qA c), (1, mvec 1 lA l), (2, ivec .i64 pl), (7, .val (.int .i64 (N : Nat))), (9, .slc 2001 1 0 i), (10, .slc 2002 5 0 i), (11, .slc 67 5 0 N), (12, .slc 69 5 0 N), (13, .val (.int .i64 (i : Nat)))] ∧
    hp = [(2001, vblk ((allV l N).take i)), (2002, qblk (wsN c i)), (67, qblk (sumN (allV l N) N i)), (69, qblk (mixN (wsN c l.length) (allV l N) N i))]) l.length ?_ ?_ ?_
  · kernel_rfl
  · exact ⟨0, rfl, Nat.zero_le _, rfl, rfl⟩
  rintro m _ _ ⟨i, rfl, hi, rfl, rfl⟩
  have hti : (((allV l N).take i).map fvec).length = i := by simp; omega
  have hwi := wsN_len c i
  have sli : (sumN (allV l N) N i).length = N := sumN_len hlenN i (by omega)
  have mli : (mixN (wsN c l.length) (allV l N) N i).length = N := mixN_len hlenN i (by omega)
  by_cases hlt : i < l.length
  · have t5 := dlt hlt
    have t6 := winc (i := i) (by omega)
    have hm := getD_mem (d := []) hlt
    have hNi := hN1 _ hm
    have o1 := c_Vt (ho _ hm) (n := N) (by omega)
    have ov : ((l.getD i []).take N).map qV = cutV N (l.getD i []) := rfl
    rw [ov] at o1
    have lx : (cutV N (l.getD i [])).length = N := cutV_len (hN1 _ hm)
    have sx : ∀ k, k < N → fs ((cutV N (l.getD i [])).getD k 0) ≤ 130 := fun k hk => hsmN _ (List.mem_map_of_mem hm) k hk
    have hget : (allV l N).getD i [] = cutV N (l.getD i []) := allV_get hlt
    have hw0 : fs (wAt c i) ≤ 130 := fs_wAt hc (by omega)
    have o2 := c_fInt (i : Int) (by omega) (by omega)
    have hsn : sumN (allV l N) N (i + 1) = vadd (sumN (allV l N) N i) (cutV N (l.getD i [])) := by rw [sumN, hget]
    have hmx : mixN (wsN c l.length) (allV l N) N (i + 1) = vaxpy (wAt c i) (cutV N (l.getD i [])) (mixN (wsN c l.length) (allV l N) N i) := by rw [mixN, hget, wsN_get hlt]
    have fsS := fun k hk => sumN_fs hlenN hsmN i (by omega) k hk
    have fsM := fun k hk => mixN_fs (c := wsN c l.length) (by rw [wsN_len, hAl]) hlenN hsmN (ws_all hc (by omega)) i (by omega) k hk
    have sl1 : (sumN (allV l N) N (i + 1)).length = N := sumN_len hlenN (i + 1) (by omega)
    have ml1 : (mixN (wsN c l.length) (allV l N) N (i + 1)).length = N := mixN_len hlenN (i + 1) (by omega)
    have hall : ((allV l N).take (i + 1)).map fvec = List.take i (((allV l N).take i).map fvec) ++ [fvec (cutV N (l.getD i []))] := by
      rw [take_snocL _ i [] (by omega), List.map_append, hget, List.take_of_length_le (l := ((allV l N).take i).map fvec) (by omega)]; rfl
    have hws : wsN c (i + 1) = List.take i (wsN c i) ++ [wAt c i] := by rw [wsN_snoc, List.take_of_length_le (by omega)]
    have gS : ∀ k, k < N → (sumN (allV l N) N (i + 1)).getD k 0 = (sumN (allV l N) N i).getD k 0 + (cutV N (l.getD i [])).getD k 0 := fun k hk => by rw [hsn]; exact get_add sli lx hk
    have gM : ∀ k, k < N → (mixN (wsN c l.length) (allV l N) N (i + 1)).getD k 0 = (mixN (wsN c l.length) (allV l N) N i).getD k 0 + wAt c i * (cutV N (l.getD i [])).getD k 0 := fun k hk => by rw [hmx, get_axpy' lx mli hk, Rat.add_comm]
    clear hsn hmx hget
    have hi130 : i ≤ 8 := by omega
    generalize hS0 : sumN (allV l N) N i = S0 at *
    generalize hM0 : mixN (wsN c l.length) (allV l N) N i = M0 at *
    generalize hS1 : sumN (allV l N) N (i + 1) = S1 at *
    generalize hM1 : mixN (wsN c l.length) (allV l N) N (i + 1) = M1 at *
    generalize hX : cutV N (l.getD i []) = X at *
    have hallB : vblk ((allV l N).take (i + 1)) = ⟨30, true, .seq 1 (List.take i (((allV l N).take i).map fvec) ++ [fvec X])⟩ := by rw [vblk, hall]
    by_cases hci : i < c.length
    · have t7 : decide ((i : Int) < (c.length : Int)) = true := decide_eq_true (by omega)
      have o3 := c_QOf (c.getD i (0, 0)) (hc _ (getD_mem hci))
      rw [show qV (c.getD i (0, 0)) = wAt c i from by rw [wAt, if_pos hci]] at o3
      refine SWx.of hE ?_
      conv => whnf
      (repeat ((first | refine step_w1 rfl rfl ?_ | refine And.intro (by first | decide | omega | (simp only [tiB5, tiB23, tiB3, tiB2, tiB9, tiB41, tiB72, tiB29, tiB30, tiB39, tiB33, tiB4, tiB68, tiB70, dlen, List.length_replicate, List.length_set, List.length_map, List.length_zipWith, List.length_take, List.length_append, List.length_cons, List.length_nil]; omega)) ?_ | refine g_c (by assumption) ?_ | refine g_o (op_lenM rfl rfl rfl (ev_ok rfl) (tgt rfl) rfl) ?_ | refine g_o (op_loadA rfl (ev_ok rfl) (tgt rfl) rfl (Nat.succ_ne_zero _) rfl) ?_ | refine g_o (op_indexN (α := Int × Int) (d := (0, 0)) rfl (ev_ok rfl) (ev_ok rfl) (tgt rfl) rfl (tgt rfl) rfl (by omega)) ?_ | refine g_o (op_sliceM rfl (ev_ok rfl) (bound_spec rfl) (bound_spec rfl) (.inl rfl) (tgt rfl) rfl (tgt rfl) rfl (by omega)) ?_ | refine g_o (op_indexN (α := List (Int × Int)) (d := []) rfl (ev_ok rfl) (ev_ok rfl) (tgt rfl) rfl (tgt rfl) rfl (by omega)) ?_ | rw [t5] | rw [t7] | rw [Int.toNat_natCast]); conv => whnf))
      refine SW_loopN hE (fun k => k) [0, 1, 2, 7, 9, 10, 11, 12, 13, 14, 15, 16] [97, 101, 67, 69, 15] (fun m fr hp => ∃ k : Nat, m = N - k ∧ k ≤ N ∧
        fr = [(0, mvec 2 qA c), (1, mvec 1 lA l), (2, ivec .i64 pl), (7, .val (.int .i64 (N : Nat))), (9, .slc 97 1 0 (i + 1)), (10, .slc 101 5 0 (i + 1)), (11, .slc 67 5 0 N), (12, .slc 69 5 0 N), (13, .val (.int .i64 (i : Nat))), (14, fvec X), (15, .ptr 15 0 0 0), (16, .val (.int .i64 (k : Nat)))] ∧
        hp = [(97, vblk ((allV l N).take (i + 1))), (101, qblk (wsN c (i + 1))), (67, qblk (half2 S1 S0 k)), (69, qblk (half2 M1 M0 k)), (15, ⟨41, true, .one [.frac (wAt c i)]⟩)]) N ?_ ?_ ?_
      · kernel_rfl
      · exact ⟨0, rfl, Nat.zero_le _, rfl, by rw [hallB, hws]; rfl⟩
      rintro m _ _ ⟨k, rfl, hk, rfl, rfl⟩
      conv => whnf
      by_cases hkt : k < N
      · have t8 := dlt hkt
        have t9 := winc (i := k) (by omega)
        have h1 := fsS k hkt
        have h2 := sx k hkt
        have h3 := fsM k hkt
        have h4 := fs_mul (wAt c i) (X.getD k 0)
        have hl1 := half_len sl1 sli hk
        have hl2 := half_len ml1 mli hk
        have o4 := f_Add (S0.getD k 0) (X.getD k 0) (by omega)
        rw [← gS k hkt, ← half_get sl1 sli hkt] at o4
        have o5 := f_Mul (wAt c i) (X.getD k 0) (by omega)
        have o6 := f_Add (M0.getD k 0) (wAt c i * X.getD k 0) (by omega)
        rw [← gM k hkt, ← half_get ml1 mli hkt] at o6
        (repeat ((first | refine step_w1 rfl rfl ?_ | refine step_i (by kernel_rfl) ?_ | refine And.intro (by first | decide | omega | (simp only [tiB5, tiB23, tiB3, tiB2, tiB9, tiB41, tiB72, tiB29, tiB30, tiB39, tiB33, tiB4, tiB68, tiB70, dlen, List.length_replicate, List.length_set, List.length_map, List.length_zipWith, List.length_take, List.length_append, List.length_cons, List.length_nil]; omega)) ?_ | refine g_c (by assumption) ?_ | refine g_o (op_indexN (α := Rat) (d := 0) rfl (ev_ok rfl) (ev_ok rfl) (tgt rfl) rfl (tgt rfl) rfl (by omega)) ?_ | refine g_o (op_loadA rfl (ev_ok rfl) (tgt rfl) rfl (Nat.succ_ne_zero _) rfl) ?_ | rw [t8] | rw [t9] | rw [Int.toNat_natCast] | rw [Nat.zero_add]); conv => whnf))
        refine ⟨N - (k + 1), fun k => k, [0, 1, 2, 7, 9, 10, 11, 12, 13, 14, 15, 16], [97, 101, 67, 69, 15], by omega, by kernel_rfl, k + 1, rfl, hkt, rfl, ?_⟩
        rw [← half_set sl1 sli hkt, ← half_set ml1 mli hkt]
        rfl
      · have t8 := dge hkt
        have hK : k = N := by omega
        subst hK
        rw [half_all sl1 sli, half_all ml1 mli]
        (repeat (first | (refine step_w2 rfl rfl ?_; conv => whnf) | (rw [t8]; conv => whnf) | (rw [t6]; conv => whnf)))
        refine ⟨l.length - (i + 1), renBy [(97, 2001), (101, 2002)], [0, 1, 2, 7, 9, 10, 11, 12, 13], [97, 101, 67, 69], by omega, by kernel_rfl, i + 1, rfl, hlt, rfl, ?_⟩
        rw [hS1, hM1]
        rfl
    · have t7 : decide ((i : Int) < (c.length : Int)) = false := decide_eq_false (by omega)
      rw [show ((i : Int) : Rat) = wAt c i from by rw [wAt, if_neg hci]] at o2
      refine SWx.of hE ?_
      conv => whnf
      (repeat ((first | refine step_w1 rfl rfl ?_ | refine step_w2 rfl rfl ?_ | refine And.intro (by first | decide | omega | (simp only [tiB5, tiB23, tiB3, tiB2, tiB9, tiB41, tiB72, tiB29, tiB30, tiB39, tiB33, tiB4, tiB68, tiB70, dlen, List.length_replicate, List.length_set, List.length_map, List.length_zipWith, List.length_take, List.length_append, List.length_cons, List.length_nil]; omega)) ?_ | refine g_c (by assumption) ?_ | refine g_o (op_lenM rfl rfl rfl (ev_ok rfl) (tgt rfl) rfl) ?_ | refine g_o (op_loadA rfl (ev_ok rfl) (tgt rfl) rfl (Nat.succ_ne_zero _) rfl) ?_ | refine g_o (op_sliceM rfl (ev_ok rfl) (bound_spec rfl) (bound_spec rfl) (.inl rfl) (tgt rfl) rfl (tgt rfl) rfl (by omega)) ?_ | refine g_o (op_indexN (α := List (Int × Int)) (d := []) rfl (ev_ok rfl) (ev_ok rfl) (tgt rfl) rfl (tgt rfl) rfl (by omega)) ?_ | rw [t5] | rw [t7] | rw [Int.toNat_natCast]); conv => whnf))
      refine SW_loopN hE (fun k => k) [0, 1, 2, 7, 9, 10, 11, 12, 13, 14, 15, 16] [97, 101, 67, 69, 15] (fun m fr hp => ∃ k : Nat, m = N - k ∧ k ≤ N ∧
        fr = [(0, mvec 2 qA c), (1, mvec 1 lA l), (2, ivec .i64 pl), (7, .val (.int .i64 (N : Nat))), (9, .slc 97 1 0 (i + 1)), (10, .slc 101 5 0 (i + 1)), (11, .slc 67 5 0 N), (12, .slc 69 5 0 N), (13, .val (.int .i64 (i : Nat))), (14, fvec X), (15, .ptr 15 0 0 0), (16, .val (.int .i64 (k : Nat)))] ∧
        hp = [(97, vblk ((allV l N).take (i + 1))), (101, qblk (wsN c (i + 1))), (67, qblk (half2 S1 S0 k)), (69, qblk (half2 M1 M0 k)), (15, ⟨41, true, .one [.frac (wAt c i)]⟩)]) N ?_ ?_ ?_
      · kernel_rfl
      · exact ⟨0, rfl, Nat.zero_le _, rfl, by rw [hallB, hws]; rfl⟩
      rintro m _ _ ⟨k, rfl, hk, rfl, rfl⟩
      conv => whnf
      by_cases hkt : k < N
      · have t8 := dlt hkt
        have t9 := winc (i := k) (by omega)
        have h1 := fsS k hkt
        have h2 := sx k hkt
        have h3 := fsM k hkt
        have h4 := fs_mul (wAt c i) (X.getD k 0)
        have hl1 := half_len sl1 sli hk
        have hl2 := half_len ml1 mli hk
        have o4 := f_Add (S0.getD k 0) (X.getD k 0) (by omega)
        rw [← gS k hkt, ← half_get sl1 sli hkt] at o4
        have o5 := f_Mul (wAt c i) (X.getD k 0) (by omega)
        have o6 := f_Add (M0.getD k 0) (wAt c i * X.getD k 0) (by omega)
        rw [← gM k hkt, ← half_get ml1 mli hkt] at o6
        (repeat ((first | refine step_w1 rfl rfl ?_ | refine step_i (by kernel_rfl) ?_ | refine And.intro (by first | decide | omega | (simp only [tiB5, tiB23, tiB3, tiB2, tiB9, tiB41, tiB72, tiB29, tiB30, tiB39, tiB33, tiB4, tiB68, tiB70, dlen, List.length_replicate, List.length_set, List.length_map, List.length_zipWith, List.length_take, List.length_append, List.length_cons, List.length_nil]; omega)) ?_ | refine g_c (by assumption) ?_ | refine g_o (op_indexN (α := Rat) (d := 0) rfl (ev_ok rfl) (ev_ok rfl) (tgt rfl) rfl (tgt rfl) rfl (by omega)) ?_ | refine g_o (op_loadA rfl (ev_ok rfl) (tgt rfl) rfl (Nat.succ_ne_zero _) rfl) ?_ | rw [t8] | rw [t9] | rw [Int.toNat_natCast] | rw [Nat.zero_add]); conv => whnf))
        refine ⟨N - (k + 1), fun k => k, [0, 1, 2, 7, 9, 10, 11, 12, 13, 14, 15, 16], [97, 101, 67, 69, 15], by omega, by kernel_rfl, k + 1, rfl, hkt, rfl, ?_⟩
        rw [← half_set sl1 sli hkt, ← half_set ml1 mli hkt]
        rfl
      · have t8 := dge hkt
        have hK : k = N := by omega
        subst hK
        rw [half_all sl1 sli, half_all ml1 mli]
        (repeat (first | (refine step_w2 rfl rfl ?_; conv => whnf) | (rw [t8]; conv => whnf) | (rw [t6]; conv => whnf)))
        refine ⟨l.length - (i + 1), renBy [(97, 2001), (101, 2002)], [0, 1, 2, 7, 9, 10, 11, 12, 13], [97, 101, 67, 69], by omega, by kernel_rfl, i + 1, rfl, hlt, rfl, ?_⟩
        rw [hS1, hM1]
        rfl
  · have t5 := dge hlt
    have hI : i = l.length := by omega
    subst hI
    have eall : (allV l N).take l.length = allV l N := List.take_of_length_le (by omega)
    rw [eall]
    have oS : CallOK Tryz.prog 49 [mvec 1 fvec (allV l N)] [] (.tup [fvec (sumN (allV l N) N l.length), .val (.int .i64 0)]) [] [] := by
      rcases Nat.eq_zero_or_pos l.length with h0 | h0
      · have hl0 : allV l N = [] := List.length_eq_zero_iff.1 (by omega)
        rw [hl0, h0, hN0 h0]; exact v_Sum0
      · have := v_Sum (allV l N) N 130 (by omega) (by intro h; rw [h] at hAl; simp at hAl; omega) hlenN (by omega) hsmN (by omega)
        rwa [hAl] at this
    have oM : CallOK Tryz.prog 23 [fvec (wsN c l.length), mvec 1 fvec (allV l N)] [] (.tup [fvec (mixN (wsN c l.length) (allV l N) N l.length), .val (.int .i64 0)]) [] [] := by
      rcases Nat.eq_zero_or_pos l.length with h0 | h0
      · have hl0 : allV l N = [] := List.length_eq_zero_iff.1 (by omega)
        rw [hl0, h0, hN0 h0]; exact v_MixN0
      · have := v_Mix (wsN c l.length) (allV l N) N 130 (by omega) (by omega) (by intro h; rw [h] at hAl; simp at hAl; omega) hlenN (by omega) hsmN (ws_all hc (by omega)) (by omega)
        rwa [hAl] at this
    have o1 := v_Same (sumN (allV l N) N l.length) (sumN (allV l N) N l.length) (by omega) (by omega)
    have o2 := v_Same (mixN (wsN c l.length) (allV l N) N l.length) (mixN (wsN c l.length) (allV l N) N l.length) (by omega) (by omega)
    rw [decide_eq_true rfl] at o1 o2
    have q1 : (((sumN (allV l N) N l.length).length : Int) != (N : Int)) = false := by rw [sli]; exact bne_self_eq_false _
    have q2 : (((mixN (wsN c l.length) (allV l N) N l.length).length : Int) != (N : Int)) = false := by rw [mli]; exact bne_self_eq_false _
    refine SWx_freezeM 9 2001 (fun _ h => h) (fun _ => rfl) rfl rfl hAl.symm ?_
    refine SWx_freezeF 10 2002 (fun _ h => h) rfl rfl hwi.symm ?_
    refine SWx_freezeF 11 67 (fun _ h => h) rfl rfl sli.symm ?_
    refine SWx_freezeF 12 69 (fun _ h => h) rfl rfl mli.symm ?_
    generalize sumN (allV l N) N l.length = S at *
    generalize mixN (wsN c l.length) (allV l N) N l.length = M at *
    generalize wsN c l.length = ws at *
    generalize allV l N = vs at *
    refine SWx.of hE ?_
    conv => whnf
    (repeat ((first | refine step_w1 rfl rfl ?_ | refine step_w2 rfl rfl ?_ | refine g_c (by assumption) ?_ | refine g_o (op_pickF rfl (ev_ok rfl) (ev_ok rfl)) ?_ | rw [bne_self_eq_false] | refine g_o (op_lenM rfl rfl rfl (ev_ok rfl) (tgt rfl) rfl) ?_ | rw [t5] | rw [q1] | rw [q2]); conv => whnf))
    clear oS oM q1 q2 o1 o2 eall hsmN hlenN ml0 sl0 hti hwi hAl
    refine SWx_adopt (t := 21) (k := 3001) (s := 1) (blk := iblk []) rfl rfl rfl ?_
    refine SWx_adopt (t := 22) (k := 3002) (s := 5) (blk := qblk []) rfl rfl rfl ?_
    refine SW_loopS hE (fun k => k) [2, 7, 11, 21, 22, 23] [3001, 3002] (fun m fr hp => ∃ i : Nat, m = pl.length - i ∧ i ≤ pl.length ∧ (N = 0 → i = 0) ∧
      fr = [(2, ivec .i64 pl), (7, .val (.int .i64 (N : Nat))), (11, fvec S), (21, .slc 3001 1 0 i), (22, .slc 3002 5 0 i), (23, .val (.int .i64 (i : Nat)))] ∧
      hp = [(3001, iblk ((pl.take i).map (placeF N))), (3002, qblk (vpart S ((pl.take i).map (placeF N))))]) pl.length ?_ ?_ ?_
    · kernel_rfl
    · exact ⟨0, rfl, Nat.zero_le _, fun _ => rfl, rfl, rfl⟩
    rintro m _ _ ⟨i, rfl, hi, hi0, rfl, rfl⟩
    have la : ((pl.take i).map (placeF N)).length = i := by simp; omega
    have lb : (vpart S ((pl.take i).map (placeF N))).length = i := by simp [vpart]; omega
    by_cases hgo : i < pl.length ∧ 0 < N
    · obtain ⟨hlt, hN⟩ := hgo
      have t6 := dlt hlt
      have t7 : decide ((N : Int) > 0) = true := decide_eq_true (by omega)
      have t8 := winc (i := i) (by omega)
      have hpi := hp _ (getD_mem (d := 0) hlt)
      have g1 := place_ok hN (pl.getD i 0)
      have hta : (pl.take (i + 1)).map (placeF N) = (pl.take i).map (placeF N) ++ [placeF N (pl.getD i 0)] := by rw [take_snocL _ i 0 hlt, List.map_append]; rfl
      have htb : vpart S ((pl.take (i + 1)).map (placeF N)) = vpart S ((pl.take i).map (placeF N)) ++ [S.getD (placeF N (pl.getD i 0)).toNat 0] := by rw [hta, vpart, List.map_append]; rfl
      obtain ⟨P, hP⟩ := Int.eq_ofNat_of_zero_le g1.1
      rw [hP] at g1 hta htb
      rw [Int.toNat_natCast] at htb
      have e1 : IntKind.i64.wrap ((pl.getD i 0).tmod (N : Int)) = (pl.getD i 0).tmod (N : Int) := wrap_i64 (by have := Int.lt_tmod_of_pos (pl.getD i 0) (show (0 : Int) < N by omega); omega) (by have := Int.tmod_lt_of_pos (pl.getD i 0) (show (0 : Int) < N by omega); omega)
      have hta2 : (pl.take (i + 1)).map (placeF N) = List.take i ((pl.take i).map (placeF N)) ++ [(P : Int)] := by rw [List.take_of_length_le (l := (pl.take i).map (placeF N)) (by omega)]; exact hta
      have htb2 : vpart S ((pl.take (i + 1)).map (placeF N)) = List.take i (vpart S ((pl.take i).map (placeF N))) ++ [S.getD P 0] := by rw [List.take_of_length_le (l := vpart S ((pl.take i).map (placeF N))) (by omega)]; exact htb
      clear hta htb
      unfold placeF at hP
      refine SWx.of hE ?_
      conv => whnf
      by_cases hneg : (pl.getD i 0).tmod (N : Int) < 0
      · have t9 : decide ((pl.getD i 0).tmod (N : Int) < 0) = true := decide_eq_true hneg
        rw [if_pos hneg] at hP
        have e2 : IntKind.i64.wrap ((pl.getD i 0).tmod (N : Int) + (N : Int)) = (P : Int) := by rw [hP]; exact wrap_i64 (by omega) (by omega)
        (repeat ((first | refine step_w1 rfl rfl ?_ | refine And.intro (by first | decide | omega | (simp only [tiB5, tiB23, tiB3, tiB2, tiB9, tiB41, tiB72, tiB29, tiB30, tiB39, tiB33, tiB4, tiB68, tiB70, dlen, List.length_replicate, List.length_set, List.length_map, List.length_zipWith, List.length_take, List.length_append, List.length_cons, List.length_nil]; omega)) ?_ | refine g_o (op_pickT rfl (ev_ok rfl) (ev_ok rfl)) ?_ | refine g_o (op_lenM rfl rfl rfl (ev_ok rfl) (tgt rfl) rfl) ?_ | refine g_o (op_loadA rfl (ev_ok rfl) (tgt rfl) rfl (Nat.succ_ne_zero _) rfl) ?_ | refine g_o (op_indexN (α := Int) (d := 0) rfl (ev_ok rfl) (ev_ok rfl) (tgt rfl) rfl (tgt rfl) rfl (by omega)) ?_ | refine g_o (op_indexM (α := Rat) (d := 0) rfl (ev_ok rfl) (ev_ok rfl) (tgt rfl) rfl (tgt rfl) rfl (by omega)) ?_ | rw [t6] | rw [t7] | rw [t9] | rw [e2] | rw [t8] | rw [Int.toNat_natCast]); conv => whnf))
        refine ⟨pl.length - (i + 1), renBy [(198, 3001), (205, 3002)], [2, 7, 11, 21, 22, 23], [198, 205], by omega, by kernel_rfl, i + 1, rfl, hlt, (by omega), rfl, ?_⟩
        rw [htb2, hta2]
        rfl
      · have t9 : decide ((pl.getD i 0).tmod (N : Int) < 0) = false := decide_eq_false hneg
        rw [if_neg hneg] at hP
        rw [hP] at e1 t9
        (repeat ((first | refine step_w1 rfl rfl ?_ | refine step_w2 rfl rfl ?_ | refine And.intro (by first | decide | omega | (simp only [tiB5, tiB23, tiB3, tiB2, tiB9, tiB41, tiB72, tiB29, tiB30, tiB39, tiB33, tiB4, tiB68, tiB70, dlen, List.length_replicate, List.length_set, List.length_map, List.length_zipWith, List.length_take, List.length_append, List.length_cons, List.length_nil]; omega)) ?_ | refine g_o (op_pickT rfl (ev_ok rfl) (ev_ok rfl)) ?_ | refine g_o (op_lenM rfl rfl rfl (ev_ok rfl) (tgt rfl) rfl) ?_ | refine g_o (op_indexN (α := Rat) (d := 0) rfl (ev_ok rfl) (ev_ok rfl) (tgt rfl) rfl (tgt rfl) rfl (by omega)) ?_ | refine g_o (op_loadA rfl (ev_ok rfl) (tgt rfl) rfl (Nat.succ_ne_zero _) rfl) ?_ | refine g_o (op_indexN (α := Int) (d := 0) rfl (ev_ok rfl) (ev_ok rfl) (tgt rfl) rfl (tgt rfl) rfl (by omega)) ?_ | rw [t6] | rw [t7] | rw [hP] | rw [t9] | rw [t8]); conv => whnf))
        refine ⟨pl.length - (i + 1), renBy [(198, 3001), (205, 3002)], [2, 7, 11, 21, 22, 23], [198, 205], by omega, by kernel_rfl, i + 1, rfl, hlt, (by omega), rfl, ?_⟩
        rw [htb2, hta2]
        rfl
    · have oP : CallOK Tryz.prog 29 [fvec S, ivec .i64 ((pl.take i).map (placeF N))] [] (.tup [fvec (vpart S ((pl.take i).map (placeF N))), .val (.int .i64 0)]) [] [] :=
        v_Part S _ (by omega) (by omega) (fun k hk => by
          rw [la] at hk
          rw [map_get (d := 0) (by rw [List.length_take]; omega)]
          have := place_ok (n := N) (by omega) ((pl.take i).getD k 0)
          rw [sli]; exact this)
      have o1 := v_Same (vpart S ((pl.take i).map (placeF N))) (vpart S ((pl.take i).map (placeF N))) (by omega) (by omega)
      rw [decide_eq_true rfl] at o1
      have q1 : (((vpart S ((pl.take i).map (placeF N))).length : Int) == (((pl.take i).map (placeF N)).length : Int)) = true := by rw [la, lb]; exact beq_self_eq_true _
      refine SWx_freezeI 21 3001 (fun _ h => h) rfl rfl la.symm ?_
      refine SWx_freezeF 22 3002 (fun _ h => h) rfl rfl lb.symm ?_
      generalize vpart S ((pl.take i).map (placeF N)) = D at *
      generalize (pl.take i).map (placeF N) = A at *
      refine SWx.of hE ?_
      conv => whnf
      by_cases hlt : i < pl.length
      · have t6 := dlt hlt
        have t7 : decide ((N : Int) > 0) = false := decide_eq_false (by omega)
        (repeat ((first | refine step_w1 rfl rfl ?_ | refine step_w2 rfl rfl ?_ | refine g_c (by assumption) ?_ | refine g_o (op_pickT rfl (ev_ok rfl) (ev_ok rfl)) ?_ | rw [beq_self_eq_true] | refine g_o (op_lenM rfl rfl rfl (ev_ok rfl) (tgt rfl) rfl) ?_ | rw [t6] | rw [t7] | rw [q1]); conv => whnf)); (first | exact Recast.refl _ | exact Frz.recast (Recast.refl _) rfl | (refine Frz.one rfl rfl ?_; skip) | (refine Frz.tup ?_; skip))
      · have t6 := dge hlt
        (repeat ((first | refine step_w1 rfl rfl ?_ | refine step_w2 rfl rfl ?_ | refine g_c (by assumption) ?_ | refine g_o (op_pickT rfl (ev_ok rfl) (ev_ok rfl)) ?_ | refine g_o (op_pickF rfl (ev_ok rfl) (ev_ok rfl)) ?_ | rw [beq_self_eq_true] | refine g_o (op_lenM rfl rfl rfl (ev_ok rfl) (tgt rfl) rfl) ?_ | rw [t6] | rw [q1]); conv => whnf)); (first | exact Recast.refl _ | exact Frz.recast (Recast.refl _) rfl | (refine Frz.one rfl rfl ?_; skip) | (refine Frz.tup ?_; skip))

theorem law_VecsSums (a0 : List (Int × Int)) (a1 : List (List (Int × Int))) (a2 : List Int) (w0 : QWf a0) (w1 : a1.length ≤ maxLen ∧ ∀ x ∈ a1, QWf x) (w2 : a2.length ≤ maxLen ∧ ∀ x ∈ a2, (Lit.int .i64 x).wf = true) :
    CallOK Tryz.prog 9 [mvec 2 qA a0, mvec 1 lA a1, ivec .i64 a2] [] (.val (.bool true)) [] [] :=
  c_Sums a0 a1 a2 (qOK_of w0) (fun x hx => qOK_of (w1.2 x hx)) (fun x hx => (w1.2 x hx).1) (fun p hp => wf_i64 (w2.2 p hp))
end Go.Proofs.YtgodfkgocbppgaaGreatDoor

namespace Go.Proofs.YtgodfkgocbppgaaGreatDoor.vecsSums
open Go.ChangeShapes Go.WideShapes Go.ChangeAt Go.RowKit Go.Sx
set_option maxRecDepth 100000
set_option linter.unusedSimpArgs false

theorem own : ownKnob Tryz.prog.godebug = none := by kernel_rfl
theorem laidOut : laidOutB Tryz.prog = true := by kernel_rfl
theorem params : Tryz.f9.params.toList.all (fun t => Tryz.prog.readableRec t && decide (t < Tryz.prog.types.size)) = true := by kernel_rfl
theorem gTab0 : Tryz.prog.globalNamed "math/bits.deBruijn32tab" = some 3 := by kernel_rfl
theorem gTabType0 : (Tryz.prog.globals[3]?).map (·.type) = some 207 := by kernel_rfl
theorem cellsA0 : Tryz.prog.cellsOf 207 = 32 := by kernel_rfl
theorem cellsE0 : Tryz.prog.cellsOf 5 = 1 := by kernel_rfl
theorem gTab1 : Tryz.prog.globalNamed "math/bits.deBruijn64tab" = some 4 := by kernel_rfl
theorem gTabType1 : (Tryz.prog.globals[4]?).map (·.type) = some 208 := by kernel_rfl
theorem cellsA1 : Tryz.prog.cellsOf 208 = 64 := by kernel_rfl
theorem cellsE1 : Tryz.prog.cellsOf 5 = 1 := by kernel_rfl
theorem gTab2 : Tryz.prog.globalNamed "internal/strconv.uint64pow10" = some 1 := by kernel_rfl
theorem gTabType2 : (Tryz.prog.globals[1]?).map (·.type) = some 203 := by kernel_rfl
theorem cellsA2 : Tryz.prog.cellsOf 203 = 20 := by kernel_rfl
theorem cellsE2 : Tryz.prog.cellsOf 33 = 1 := by kernel_rfl
/-- What the row's list gives: the tables' cells hold their numbers. -/
theorem table {W : World} (h : laidMetH Tryz.prog Rows.vecsSumsRow.laid W) : ∀ g kd l, (g, kd, l) ∈ globTabs → l ≠ [] ∧ ∀ j x, l[j]? = some x → W.cell? ⟨g, j, none⟩ = some (.int kd x) := by
  intro g kd l hm
  have h0 : laidMet Tryz.prog Rows.vecsSumsRow.laid W := h
  have ht0 : Lib.TabIs Tryz.prog W "math/bits.deBruijn32tab" .u8 [0, 1, 28, 2, 29, 14, 24, 3, 30, 22, 20, 15, 25, 17, 4, 8, 31, 27, 13, 23, 21, 19, 16, 7, 26, 12, 18, 6, 11, 5, 10, 9] := Lib.tabIs_of_head gTab0 gTabType0 Tryz.underlying207 Tryz.underlying5 cellsE0 cellsA0 h0
  have h1 := laid_tail h0
  have ht1 : Lib.TabIs Tryz.prog W "math/bits.deBruijn64tab" .u8 [0, 1, 56, 2, 57, 49, 28, 3, 61, 58, 42, 50, 38, 29, 17, 4, 62, 47, 59, 36, 45, 43, 51, 22, 53, 39, 33, 30, 24, 18, 12, 5, 63, 55, 48, 27, 60, 41, 37, 16, 46, 35, 44, 21, 52, 32, 23, 11, 54, 26, 40, 15, 34, 20, 31, 10, 25, 14, 19, 9, 13, 8, 7, 6] := Lib.tabIs_of_head gTab1 gTabType1 Tryz.underlying208 Tryz.underlying5 cellsE1 cellsA1 h1
  have h2 := laid_tail h1
  have ht2 : Lib.TabIs Tryz.prog W "internal/strconv.uint64pow10" .u64 [1, 10, 100, 1000, 10000, 100000, 1000000, 10000000, 100000000, 1000000000, 10000000000, 100000000000, 1000000000000, 10000000000000, 100000000000000, 1000000000000000, 10000000000000000, 100000000000000000, 1000000000000000000, 10000000000000000000] := Lib.tabIs_of_head gTab2 gTabType2 Tryz.underlying203 Tryz.underlying33 cellsE2 cellsA2 h2
  simp only [globTabs, List.mem_cons, List.not_mem_nil, or_false, Prod.mk.injEq] at hm
  rcases hm with ⟨rfl, rfl, rfl⟩ | ⟨rfl, rfl, rfl⟩ | ⟨rfl, rfl, rfl⟩
  · exact ⟨by simp, fun j x hx => by rw [ht0.cell gTab0 j (List.getElem?_eq_some_iff.1 hx).1, List.getD_eq_getElem?_getD, hx]; rfl⟩
  · exact ⟨by simp, fun j x hx => by rw [ht1.cell gTab1 j (List.getElem?_eq_some_iff.1 hx).1, List.getD_eq_getElem?_getD, hx]; rfl⟩
  · exact ⟨by simp, fun j x hx => by rw [ht2.cell gTab2 j (List.getElem?_eq_some_iff.1 hx).1, List.getD_eq_getElem?_getD, hx]; rfl⟩

/-- The contract, over values. -/
theorem called (a0 : List ((Int) × (Int))) (a1 : List (List ((Int) × (Int)))) (a2 : List (Int)) (w0 : (a0).length ≤ maxLen ∧ ∀ x ∈ a0, ((Lit.int .i64 x.1).wf = true) ∧ ((Lit.int .u32 x.2).wf = true)) (w1 : (a1).length ≤ maxLen ∧ ∀ x ∈ a1, (x).length ≤ maxLen ∧ ∀ x1 ∈ x, ((Lit.int .i64 x1.1).wf = true) ∧ ((Lit.int .u32 x1.2).wf = true)) (w2 : (a2).length ≤ maxLen ∧ ∀ x ∈ a2, (Lit.int .i64 x).wf = true) : CallOK Tryz.prog 9 [(mvec 2 (ag2 (iel .i64) (iel .u32))) a0, (mvec 1 (mvec 2 (ag2 (iel .i64) (iel .u32)))) a1, (mvec 1 (iel .i64)) a2] [] (.val (.bool true)) [] [] := law_VecsSums a0 a1 a2 w0 w1 w2

theorem contract (H : Type) (enc : TypeId × Value → H) (W : World) (base : Nat) (args : Array Value) (ds gs : List (DataW H)) (before : List MemPlace)
    (hval : ∀ (j : Nat) t v, Tryz.f9.params[j]? = some t → args[j]? = some v → Value.okWide Tryz.prog W .any base t v)
    (hW : DataW.Whole enc Tryz.prog Tryz.f9.params.toList Rows.vecsSumsSpec.vars false W args.toList ds gs before) (hL : laidMetH Tryz.prog Rows.vecsSumsRow.laid W) :
    Calls Tryz.prog 9 args W fun e W' => ∃ v, e = .returned v ∧ Rows.vecsSumsSpec.post enc Tryz.prog Tryz.f9 false true false false W args v W' := by
  have hW' := hW
  obtain ⟨p, q, hA0, hV, rfl, hfz, hnd⟩ := hW
  have hA : DataW.TrodAll enc Tryz.prog W 0 (fun _ => true) true Tryz.f9.params.toList args.toList ds p := hA0
  rw [Tryz.params9] at hA hval
  obtain ⟨v0, vs0, d0, ds0, p0, q0, hargs, rfl, rfl, h0, r0⟩ := trodAll_cons hA
  obtain ⟨v1, vs1, d1, ds1, p1, q1, rfl, rfl, rfl, h1, r1⟩ := trodAll_cons r0
  obtain ⟨v2, vs2, d2, ds2, p2, q2, rfl, rfl, rfl, h2, r2⟩ := trodAll_cons r1
  obtain ⟨rfl, rfl, rfl⟩ := trodAll_nil r2
  obtain rfl : args = #[v0, v1, v2] := by cases args; simp_all
  obtain ⟨rfl, rfl⟩ := trodVars_none hV
  have hg := table hL
  obtain ⟨n0, t0⟩ := h0
  obtain ⟨a0, w0, c0⟩ := (show Opens enc Tryz.prog hg 22 (mvec 2 (ag2 (iel .i64) (iel .u32))) (fun a => (a).length ≤ maxLen ∧ ∀ x ∈ a, ((Lit.int .i64 x.1).wf = true) ∧ ((Lit.int .u32 x.2).wf = true)) from Opens.slice (w := 2) Tryz.underlying22 (by kernel_rfl) (by decide) (fun _ => rfl) (Opens.struct2 Tryz.underlying25 rfl (by kernel_rfl) (by kernel_rfl) (Opens.int Tryz.underlying2) (Opens.int Tryz.underlying23))) _ _ _ t0
  have e0 : mkV ((mvec 2 (ag2 (iel .i64) (iel .u32))) a0) v0.cells.toList = v0 := by obtain ⟨_, _, _, rfl⟩ := okWide_slice Tryz.underlying22 (hval 0 22 v0 rfl rfl); exact mkV_one rfl (by simp [Value.cells])
  obtain ⟨n1, t1⟩ := h1
  obtain ⟨a1, w1, c1⟩ := (show Opens enc Tryz.prog hg 88 (mvec 1 (mvec 2 (ag2 (iel .i64) (iel .u32)))) (fun a => (a).length ≤ maxLen ∧ ∀ x ∈ a, (x).length ≤ maxLen ∧ ∀ x1 ∈ x, ((Lit.int .i64 x1.1).wf = true) ∧ ((Lit.int .u32 x1.2).wf = true)) from Opens.slice (w := 1) Tryz.underlying88 (by kernel_rfl) (by decide) (fun _ => rfl) (Opens.slice (w := 2) Tryz.underlying22 (by kernel_rfl) (by decide) (fun _ => rfl) (Opens.struct2 Tryz.underlying25 rfl (by kernel_rfl) (by kernel_rfl) (Opens.int Tryz.underlying2) (Opens.int Tryz.underlying23)))) _ _ _ t1
  have e1 : mkV ((mvec 1 (mvec 2 (ag2 (iel .i64) (iel .u32)))) a1) v1.cells.toList = v1 := by obtain ⟨_, _, _, rfl⟩ := okWide_slice Tryz.underlying88 (hval 1 88 v1 rfl rfl); exact mkV_one rfl (by simp [Value.cells])
  obtain ⟨n2, t2⟩ := h2
  obtain ⟨a2, w2, c2⟩ := (show Opens enc Tryz.prog hg 61 (mvec 1 (iel .i64)) (fun a => (a).length ≤ maxLen ∧ ∀ x ∈ a, (Lit.int .i64 x).wf = true) from Opens.slice (w := 1) Tryz.underlying61 (by kernel_rfl) (by decide) (fun _ => rfl) (Opens.int Tryz.underlying3)) _ _ _ t2
  have e2 : mkV ((mvec 1 (iel .i64)) a2) v2.cells.toList = v2 := by obtain ⟨_, _, _, rfl⟩ := okWide_slice Tryz.underlying61 (hval 2 61 v2 rfl rfl); exact mkV_one rfl (by simp [Value.cells])
  have hz : HasZ (allRho hg) [(mvec 2 (ag2 (iel .i64) (iel .u32))) a0, (mvec 1 (mvec 2 (ag2 (iel .i64) (iel .u32)))) a1, (mvec 1 (iel .i64)) a2] [v0.cells.toList, v1.cells.toList, v2.cells.toList] := by simp only [HasZ]; exact ⟨_, _, rfl, c0, _, _, rfl, c1, _, _, rfl, c2, rfl⟩
  have hr := law_runA ⟨Tryz.f9, Tryz.func9, rfl, by kernel_rfl⟩ (called a0 a1 a2 w0 w1 w2) hg hz
  simp only [List.zipWith_cons_cons, List.zipWith_nil_left, List.zipWith_nil_right, e0, e1, e2] at hr
  refine hr.mono fun e W' ⟨he, hb⟩ => ?_
  subst he
  exact ⟨_, rfl, law_post laidOut params rfl rfl Tryz.underlying4 hW' ⟨rfl, rfl, rfl⟩ hb⟩

/-- A world for the witness: the settled one, the tables holding what their texts lay. -/
noncomputable def laidWorld (os : Os) : World :=
  { World.holding Tryz.prog os ⟨#[], #[], []⟩ with heap := ((World.holding Tryz.prog os ⟨#[], #[], []⟩).heap |>.modify 3 (fun | .cells _ t frozen => .cells #[.int .u8 0, .int .u8 1, .int .u8 28, .int .u8 2, .int .u8 29, .int .u8 14, .int .u8 24, .int .u8 3, .int .u8 30, .int .u8 22, .int .u8 20, .int .u8 15, .int .u8 25, .int .u8 17, .int .u8 4, .int .u8 8, .int .u8 31, .int .u8 27, .int .u8 13, .int .u8 23, .int .u8 21, .int .u8 19, .int .u8 16, .int .u8 7, .int .u8 26, .int .u8 12, .int .u8 18, .int .u8 6, .int .u8 11, .int .u8 5, .int .u8 10, .int .u8 9] t frozen | o => o) |>.modify 4 (fun | .cells _ t frozen => .cells #[.int .u8 0, .int .u8 1, .int .u8 56, .int .u8 2, .int .u8 57, .int .u8 49, .int .u8 28, .int .u8 3, .int .u8 61, .int .u8 58, .int .u8 42, .int .u8 50, .int .u8 38, .int .u8 29, .int .u8 17, .int .u8 4, .int .u8 62, .int .u8 47, .int .u8 59, .int .u8 36, .int .u8 45, .int .u8 43, .int .u8 51, .int .u8 22, .int .u8 53, .int .u8 39, .int .u8 33, .int .u8 30, .int .u8 24, .int .u8 18, .int .u8 12, .int .u8 5, .int .u8 63, .int .u8 55, .int .u8 48, .int .u8 27, .int .u8 60, .int .u8 41, .int .u8 37, .int .u8 16, .int .u8 46, .int .u8 35, .int .u8 44, .int .u8 21, .int .u8 52, .int .u8 32, .int .u8 23, .int .u8 11, .int .u8 54, .int .u8 26, .int .u8 40, .int .u8 15, .int .u8 34, .int .u8 20, .int .u8 31, .int .u8 10, .int .u8 25, .int .u8 14, .int .u8 19, .int .u8 9, .int .u8 13, .int .u8 8, .int .u8 7, .int .u8 6] t frozen | o => o) |>.modify 1 (fun | .cells _ t frozen => .cells #[.int .u64 1, .int .u64 10, .int .u64 100, .int .u64 1000, .int .u64 10000, .int .u64 100000, .int .u64 1000000, .int .u64 10000000, .int .u64 100000000, .int .u64 1000000000, .int .u64 10000000000, .int .u64 100000000000, .int .u64 1000000000000, .int .u64 10000000000000, .int .u64 100000000000000, .int .u64 1000000000000000, .int .u64 10000000000000000, .int .u64 100000000000000000, .int .u64 1000000000000000000, .int .u64 10000000000000000000] t frozen | o => o)) }
theorem laid_met (os : Os) : laidMet Tryz.prog Rows.vecsSumsRow.laid ((laidWorld os).forCall (fun _ _ => 0) ⟨#[], #[.slice none 0 0, .slice none 0 0, .slice none 0 0], []⟩).memory :=
  laidMet_of_run' 8 (by kernel_rfl) (by kernel_rfl)
theorem reads (os : Os) {H : Type} (enc : TypeId × Value → H) : ∃ places, DataW.whole enc Tryz.prog ((laidWorld os).forCall (fun _ _ => 0) ⟨#[], #[.slice none 0 0, .slice none 0 0, .slice none 0 0], []⟩).memory Tryz.f9.params.toList Rows.vecsSumsSpec.vars false #[.slice none 0 0, .slice none 0 0, .slice none 0 0].toList 8 = some ([.nil, .nil, .nil], [], places) :=
  ⟨[], by kernel_rfl⟩

theorem lifted (os : Os) (started : os.Started) (H : Type) (enc : TypeId × Value → H) (F : Stop.Interp) :
    ReturnsInHanded {} Tryz.checked os 9 .any ((OpenSpec.ofChange Rows.vecsSumsSpec).preRow enc Tryz.prog Tryz.f9 Rows.vecsSumsRow.domain false Rows.vecsSumsRow.laid) (((OpenSpec.ofChange Rows.vecsSumsSpec).at F).post enc Tryz.prog Tryz.f9 false true false false) := by
  obtain ⟨places, hx⟩ := reads os enc
  refine returnsInHanded_of_row (C := Tryz.checked) (s := OpenSpec.ofChange Rows.vecsSumsSpec) own started (by kernel_rfl) Tryz.func9
    (witness_row_at (enc := enc) (C := Tryz.checked) false (laidWorld os) #[.slice none 0 0, .slice none 0 0, .slice none 0 0] rfl (by kernel_rfl) (by kernel_rfl) (by kernel_rfl)
      (OpenSpec.preRow_of_cond 8 hx (by kernel_rfl) (fun k hk => by cases hk) (by kernel_rfl) (laid_met os))) ?_
  intro W base args ds gs before hval hW _ _ _ hL _ _
  exact contract H enc W base args ds gs before hval hW hL

theorem said : Rows.VecsSumsSaid :=
  OpenClaim.holds_of_cond 9 Tryz.f9 rfl rfl rfl rfl rfl rfl rfl ⟨rfl, rfl, rfl, rfl, rfl⟩ rfl rfl rfl rfl rfl (by kernel_rfl) Tryz.func9 (by kernel_rfl)
    (of_decide_eq_true (by kernel_rfl)) (by unfold Func.isWrapper; first | (rw [if_pos (by decide +kernel)]; kernel_rfl) | (rw [if_neg (by decide +kernel)]; exact ⟨rfl, rfl⟩))
    (fun os started H enc _ F => by rw [OpenClaim.pre_eq_preRow]; exact lifted os started H enc F)

/-- No parameter wants a stand-in; the program's own looks are off. -/
theorem plain (f : FuncId) (fn : Func) (hf : Tryz.pinned.checked.prog.funcNamed "gusset/gussetlaw12.VecsSums" = some f) (hfn : Tryz.pinned.checked.prog.funcs[f]? = some fn) :
    false = Tryz.pinned.checked.prog.looks [] ∧ ∀ (j : Nat) t, fn.params[j]? = some t → Tryz.pinned.checked.prog.wantsStandIn t = false := by
  obtain rfl : f = 9 := Option.some.inj ((show Tryz.prog.funcNamed "gusset/gussetlaw12.VecsSums" = some 9 by kernel_rfl).symm.trans hf) |>.symm
  obtain rfl : fn = Tryz.f9 := (Option.some.inj (Tryz.func9.symm.trans hfn)).symm
  refine ⟨by kernel_rfl, fun j t ht => ?_⟩
  have hall : (Tryz.f9.params.toList.all fun t => !Tryz.prog.wantsStandIn t) = true := by kernel_rfl
  have := List.all_eq_true.1 hall t (by simpa using Array.mem_of_getElem? ht)
  exact (show Tryz.prog.wantsStandIn t = false by simpa using this)

/-- The card. -/
theorem card : Rows.VecsSumsCardSaid :=
  Claim7.holds_tied_plain_at .later [] _ _ _ _ said (fun _ h => by cases h) (by kernel_rfl) (fun _ h => by cases h) vecsSums_row_tie rfl ⟨rfl, rfl⟩ (by kernel_rfl) rfl plain (by kernel_rfl)
#print axioms card
end Go.Proofs.YtgodfkgocbppgaaGreatDoor.vecsSums
