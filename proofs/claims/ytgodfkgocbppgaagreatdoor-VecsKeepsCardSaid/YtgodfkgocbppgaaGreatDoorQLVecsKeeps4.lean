/- VecsKeeps returns true for every input and leaves its arguments as they were: the row, and the card that ties its tables to the program's text. -/
import Derived.Shelf.Strings.Builder1
import Derived.Shelf.Strings.Builder2
import Derived.Shelf.Strings.OnBuilder
import Derived.Shelf.Strings.BuilderF
import Derived.Shelf.Strings.Builder2Cap
import Derived.Shelf.Strconv.Itoa0
import Derived.Shelf.Strconv.Itoa1
import Derived.Shelf.LaysM
import Derived.Shelf.Strconv.Itoa2
import Derived.Shelf.Strconv.Itoa3
import Derived.Shelf.Strings.Prefix
import Derived.Shelf.Bits.Mul64
import Derived.Shelf.Strings.Repeat
import Derived.Ground.Names2Prog
import Derived.Shelf.Slices.ReverseS
import Derived.Test.YtgodfkgocbppgaaGreatDoorProg
import Derived.Test.YtgodfkgocbppgaaGreatDoorCards
import Derived.Test.YtgodfkgocbppgaaGreatDoorTie
import Derived.WalkKit
import Derived.ProofKit
import Derived.OpenShut
import Derived.Deep.DeepHandedRow
import Derived.Lib.LaidTab
import Derived.Test.YtgodfkgocbppgaaGreatDoorQLVecsKeeps3
namespace Go.Proofs.YtgodfkgocbppgaaGreatDoor
open Go.Sx
set_option linter.unusedSimpArgs false
set_option linter.unusedVariables false
set_option maxRecDepth 100000
set_option maxHeartbeats 4000000

/-- The sizes of two vectors' elements, taken together. -/
def Fit (a b : List Rat) : Prop := ∀ i, i < a.length → fs (a.getD i 0) + fs (b.getD i 0) ≤ 1073741824

abbrev vadd (a b : List Rat) : List Rat := List.zipWith (· + ·) a b
abbrev vmul (a b : List Rat) : List Rat := List.zipWith (· * ·) a b
abbrev vaxpy (c : Rat) (a b : List Rat) : List Rat := List.zipWith (fun x y => c * x + y) a b

theorem v_Axpy1 (c x y : Rat) (h : fs c + fs x + fs y ≤ 1073741824) : CallOK Tryz.prog 73 ([] ++ ([.frac x, .frac y] ++ [ptrA [.frac c]])) [] (.frac (c * x + y)) [] [] := by
  have k1 := f_Mul c x (by omega)
  have k2 := f_Add (c * x) y (by have := fs_mul c x; omega)
  refine callV (Z := []) tabOK mixedOK Tryz.func73 rfl (by kernel_rfl) rfl rfl (by kernel_rfl) rfl ?_
  intro W0 w0 ρ0 hE
  conv => whnf
  (repeat (first | (refine step_i (by kernel_rfl) ?_; conv => whnf) | (refine g_c (by assumption) ?_; conv => whnf) | (refine g_o (op_loadA rfl (ev_ok rfl) (tgt rfl) rfl (Nat.succ_ne_zero _) rfl) ?_; conv => whnf))); (first | exact Recast.refl _ | exact Frz.recast (Recast.refl _) rfl | (refine Frz.one rfl rfl ?_; skip) | (refine Frz.tup ?_; skip))
theorem v_Axpy (c : Rat) (a b : List Rat) (hab : a.length = b.length) (hl : a.length ≤ 2048) (h : ∀ i, i < a.length → fs c + fs (a.getD i 0) + fs (b.getD i 0) ≤ 1073741824) : CallOK Tryz.prog 38 [.frac c, fvec a, fvec b] [] (.tup [fvec (vaxpy c a b), .val (.int .i64 0)]) [] [] := by
  have k1 := v_each1 (fun x y => c * x + y) 73 (ptrP [.frac c]) a b hab hl (fun i hi => v_Axpy1 _ _ _ (h i hi))
  refine callV (Z := [3]) tabOK mixedOK Tryz.func38 rfl (by kernel_rfl) rfl rfl (by kernel_rfl) rfl ?_
  intro W0 w0 ρ0 hE
  conv => whnf
  (repeat (first | (refine g_c (by assumption) ?_; conv => whnf) | (refine g_o (op_makeFunc rfl rfl rfl) ?_; conv => whnf))); (first | exact Recast.refl _ | exact Frz.recast (Recast.refl _) rfl | (refine Frz.one rfl rfl ?_; skip) | (refine Frz.tup ?_; skip))

/-- The dot product. -/
def vdot (a b : List Rat) : Rat := (vmul a b).foldl (· + ·) 0
theorem v_Dot (a b : List Rat) (hab : a.length = b.length) (hl : a.length ≤ 2048) (h : Fit a b) (hs : fsL (vmul a b) + 2 ≤ 1073741824) : CallOK Tryz.prog 43 [fvec a, fvec b] [] (.tup [.frac (vdot a b), .val (.int .i64 0)]) [] [] := by
  have k1 := v_each0 (· * ·) 18 a b hab hl (fun i hi => f_Mul _ _ (h i hi))
  have k2 := f_Sum (vmul a b) (by simp; omega) hs
  refine callV (Z := []) tabOK mixedOK Tryz.func43 rfl (by kernel_rfl) rfl rfl (by kernel_rfl) rfl ?_
  intro W0 w0 ρ0 hE
  conv => whnf
  (repeat (first | (refine g_c (by assumption) ?_; conv => whnf))); (first | exact Recast.refl _ | exact Frz.recast (Recast.refl _) rfl | (refine Frz.one rfl rfl ?_; skip) | (refine Frz.tup ?_; skip))

theorem v_Zero (n : Nat) (hn : n ≤ 2048) : CallOK Tryz.prog 27 [.val (.int .i64 (n : Nat))] [] (.tup [fvec (List.replicate n 0), .val (.int .i64 0)]) [] [] := by
  have k1 := v_fits n
  rw [fitsF, if_neg (by omega), if_neg (by omega)] at k1
  refine callF (Z := []) tabOK mixedOK Tryz.func27 rfl (by kernel_rfl) (by first | rfl | (simp [keylessL, keyless, keylessL_map, *]; done)) (by first | rfl | (simp [keylessL, keyless, keylessL_map, *]; done)) (by kernel_rfl) rfl ?_
  intro w0 ρ0 hE
  conv => whnf
  (repeat ((first | refine step_w2 rfl rfl ?_ | refine And.intro (by first | decide | omega | (simp only [tiB5, tiB23, tiB3, tiB2, tiB9, tiB41, tiB72, tiB29, tiB30, tiB39, tiB33, tiB4, tiB68, tiB70, dlen, List.length_replicate, List.length_set, List.length_map, List.length_zipWith, List.length_take, List.length_append, List.length_cons, List.length_nil]; omega)) ?_ | refine g_c (by assumption) ?_ | rw [Int.toNat_natCast]); conv => whnf)); (first | exact Recast.refl _ | exact Frz.recast (Recast.refl _) rfl | (refine Frz.one rfl rfl ?_; skip) | (refine Frz.tup ?_; (repeat (first | exact FrzC.keyless rfl | exact FrzL.nil | refine FrzL.cons ?_ ?_ | (refine FrzC.fracs rfl ?_; (first | rfl | omega | (simp <;> fail) | (simp <;> omega)))))))

theorem v_ZeroE (n : Int) (hn : fitsF n ≠ 0) : CallOK Tryz.prog 27 [.val (.int .i64 n)] [] (.tup [fvec [], .val (.int .i64 (fitsF n))]) [] [] := by
  have k1 := v_fits n
  have t1 : (fitsF n != 0) = true := bne_iff_ne.2 hn
  refine callF (Z := []) tabOK mixedOK Tryz.func27 rfl (by kernel_rfl) (by first | rfl | (simp [keylessL, keyless, keylessL_map, *]; done)) (by first | rfl | (simp [keylessL, keyless, keylessL_map, *]; done)) (by kernel_rfl) rfl ?_
  intro w0 ρ0 hE
  conv => whnf
  (repeat (first | (refine step_w1 rfl rfl ?_; conv => whnf) | (refine g_c (by assumption) ?_; conv => whnf) | (rw [t1]; conv => whnf))); (first | exact Recast.refl _ | exact Frz.recast (Recast.refl _) rfl | (refine Frz.one rfl rfl ?_; skip) | (refine Frz.tup ?_; (repeat (first | exact FrzC.keyless rfl | exact FrzL.nil | refine FrzL.cons ?_ ?_ | exact FrzC.nilS))))

theorem v_UnitI (n : Nat) (i : Int) (hn : n ≤ 2048) (hi : i < 0 ∨ (n : Int) ≤ i) : CallOK Tryz.prog 21 [.val (.int .i64 (n : Nat)), .val (.int .i64 i)] [] (.tup [fvec [], .val (.int .i64 1)]) [] [] := by
  have k1 := v_Zero n hn
  refine callF (Z := []) tabOK mixedOK Tryz.func21 rfl (by kernel_rfl) (by first | rfl | (simp [keylessL, keyless, keylessL_map, *]; done)) (by first | rfl | (simp [keylessL, keyless, keylessL_map, *]; done)) (by kernel_rfl) rfl ?_
  intro w0 ρ0 hE
  conv => whnf
  by_cases h1 : i < 0
  · have t1 : decide (i < 0) = true := decide_eq_true h1
    (repeat ((first | refine step_w1 rfl rfl ?_ | refine step_w2 rfl rfl ?_ | refine g_c (by assumption) ?_ | refine g_o (op_pickT rfl (ev_ok rfl) (ev_ok rfl)) ?_ | rw [bne_self_eq_false] | rw [t1]); conv => whnf)); (first | exact Recast.refl _ | exact Frz.recast (Recast.refl _) rfl | (refine Frz.one rfl rfl ?_; skip) | (refine Frz.tup ?_; (repeat (first | exact FrzC.keyless rfl | exact FrzL.nil | refine FrzL.cons ?_ ?_ | exact FrzC.nilS))))
  · have t1 : decide (i < 0) = false := decide_eq_false h1
    have t2 : decide (i ≥ (n : Int)) = true := decide_eq_true (by omega)
    (repeat ((first | refine step_w1 rfl rfl ?_ | refine step_w2 rfl rfl ?_ | refine g_c (by assumption) ?_ | refine g_o (op_pickF rfl (ev_ok rfl) (ev_ok rfl)) ?_ | rw [bne_self_eq_false] | rw [t1] | rw [t2]); conv => whnf)); (first | exact Recast.refl _ | exact Frz.recast (Recast.refl _) rfl | (refine Frz.one rfl rfl ?_; skip) | (refine Frz.tup ?_; (repeat (first | exact FrzC.keyless rfl | exact FrzL.nil | refine FrzL.cons ?_ ?_ | exact FrzC.nilS))))

/-- The maximum norm. -/
def vmaxF : List Rat → Rat → Rat
  | [], m => m
  | x :: l, m => vmaxF l (if 0 < (rabs x - m).num.sign then rabs x else m)
def vmax (l : List Rat) : Rat := vmaxF l 0

theorem v_Max (l : List Rat) (hl : l.length < 1099511627776) (B : Nat) (hB : 2 ≤ B) (hB2 : B + B ≤ 1073741824) (h : ∀ i, i < l.length → fs (l.getD i 0) ≤ B) : CallOK Tryz.prog 28 [fvec l] [] (.frac (vmax l)) [] [] := by
  refine callV (Z := []) tabOK mixedOK Tryz.func28 rfl (by kernel_rfl) rfl rfl (by kernel_rfl) rfl ?_
  intro W0 w0 ρ0 hE
  conv => whnf
  (repeat (first | (refine g_o (op_lenM rfl rfl rfl (ev_ok rfl) (tgt rfl) rfl) ?_; conv => whnf)))
  refine SW_loopN hE (fun k => k) [0, 2, 5, 6, 7] [2] (fun m fr hp => ∃ i q, m = l.length - i ∧ i ≤ l.length ∧ vmaxF (l.drop i) q = vmax l ∧ fs q ≤ B ∧ fr = [(0, fvec l), (2, .ptr 2 0 0 0), (5, fvec l), (6, .val (.int .i64 (l.length : Nat))), (7, .val (.int .i64 (i : Nat)))] ∧
    hp = [(2, ⟨41, true, .one [.frac q]⟩)]) l.length ?_ ?_ ?_
  · kernel_rfl
  · exact ⟨0, 0, rfl, Nat.zero_le _, rfl, by rw [fs_zero]; exact hB, rfl, rfl⟩
  rintro m _ _ ⟨i, q, rfl, hi, hv, hq, rfl, rfl⟩
  conv => whnf
  by_cases hlt : i < l.length
  · have t1 := dlt hlt
    have t2 := winc (i := i) (by omega)
    have hx := h i hlt
    have hd : l.drop i = l.getD i 0 :: l.drop (i + 1) := by rw [List.drop_eq_getElem_cons hlt, List.getD_eq_getElem?_getD, List.getElem?_eq_getElem hlt]; rfl
    rw [hd, vmaxF] at hv
    have k1 := f_Abs (l.getD i 0)
    have hb : fs (rabs (l.getD i 0)) ≤ B := by rw [fs_abs]; exact hx
    generalize rabs (l.getD i 0) = x at *
    have k2 := f_Cmp x q (by omega)
    by_cases hc : 0 < (x - q).num.sign
    · have t3 : decide ((x - q).num.sign > 0) = true := decide_eq_true hc
      rw [if_pos hc] at hv
      (repeat ((first | refine step_w1 rfl rfl ?_ | refine g_c (by assumption) ?_ | refine g_o (op_indexN (α := Rat) (d := 0) rfl (ev_ok rfl) (ev_ok rfl) (tgt rfl) rfl (tgt rfl) rfl (by omega)) ?_ | refine g_o (op_loadA rfl (ev_ok rfl) (tgt rfl) rfl (Nat.succ_ne_zero _) rfl) ?_ | rw [t1] | rw [t3] | rw [t2]); conv => whnf))
      exact ⟨l.length - (i + 1), fun k => k, [0, 2, 5, 6, 7], [2], by omega, by kernel_rfl, i + 1, x, rfl, hlt, hv, hb, rfl, rfl⟩
    · have t3 : decide ((x - q).num.sign > 0) = false := decide_eq_false hc
      rw [if_neg hc] at hv
      (repeat ((first | refine step_w1 rfl rfl ?_ | refine step_w2 rfl rfl ?_ | refine g_c (by assumption) ?_ | refine g_o (op_indexN (α := Rat) (d := 0) rfl (ev_ok rfl) (ev_ok rfl) (tgt rfl) rfl (tgt rfl) rfl (by omega)) ?_ | refine g_o (op_loadA rfl (ev_ok rfl) (tgt rfl) rfl (Nat.succ_ne_zero _) rfl) ?_ | rw [t1] | rw [t3] | rw [t2]); conv => whnf))
      exact ⟨l.length - (i + 1), fun k => k, [0, 2, 5, 6, 7], [2], by omega, by kernel_rfl, i + 1, q, rfl, hlt, hv, hq, rfl, rfl⟩
  · have t1 := dge hlt
    have hI : i = l.length := by omega
    rw [hI, List.drop_length, vmaxF] at hv
    rw [hv]
    (repeat (first | (refine step_w2 rfl rfl ?_; conv => whnf) | (rw [t1]; conv => whnf))); (first | exact Recast.refl _ | exact Frz.recast (Recast.refl _) rfl | (refine Frz.one rfl rfl ?_; skip) | (refine Frz.tup ?_; skip))

theorem q_guard : Tryz.prog.eqGuardType Tryz.prog.depth 41 = false := by kernel_rfl
theorem q_same (a b : Rat) : eqTy tab good 10 41 (fracCells a) (fracCells b) = some (decide (a = b)) := by
  have e : eqTy tab good 10 41 (fracCells a) (fracCells b) = some (((((low a.num.natAbs == low b.num.natAbs) && (((big a.num.natAbs).toList == (big b.num.natAbs).toList) && true)) && true) && ((decide (a.num < 0) == decide (b.num < 0)) && true)) &&
    (((low (a.den - 1) == low (b.den - 1)) && (((big (a.den - 1)).toList == (big (b.den - 1)).toList) && true)) && true)) := rfl
  rw [e]
  simp only [Bool.and_true]
  rw [nat_eq_iff, nat_eq_iff]
  congr 1
  rw [Bool.eq_iff_iff]
  simp only [Bool.and_eq_true, decide_eq_true_eq, beq_iff_eq, decide_eq_decide]
  have h1 := a.den_pos
  have h2 := b.den_pos
  constructor
  · rintro ⟨⟨h3, h4⟩, h5⟩
    exact Rat.ext (by omega) (by omega)
  · rintro rfl
    exact ⟨⟨rfl, Iff.rfl⟩, rfl⟩

/-- slices.Equal at vectors. -/
theorem v_Equal (a b : List Rat) (ha : a.length < 1099511627776) (hb : b.length < 1099511627776) : CallOK Tryz.prog 64 [fvec a, fvec b] [] (.val (.bool (decide (a = b)))) [] [] := by
  refine callV (Z := []) tabOK mixedOK Tryz.func64 rfl (by kernel_rfl) rfl rfl (by kernel_rfl) rfl ?_
  intro W0 w0 ρ0 hE
  conv => whnf
  by_cases hab : a.length = b.length
  · have t0 : ((a.length : Int) != (b.length : Int)) = false := by rw [hab]; exact bne_self_eq_false _
    (repeat (first | (refine step_w2 rfl rfl ?_; conv => whnf) | (refine g_o (op_lenM rfl rfl rfl (ev_ok rfl) (tgt rfl) rfl) ?_; conv => whnf) | (rw [t0]; conv => whnf)))
    refine SW_loopN hE (fun k => k) [0, 1, 4, 11, 12, 13] [] (fun m fr hp => ∃ i, m = a.length - i ∧ i ≤ a.length ∧ a.take i = b.take i ∧ fr = [(0, fvec a), (1, fvec b), (4, .val (.bool false)), (11, fvec a), (12, .val (.int .i64 (a.length : Nat))), (13, .val (.int .i64 (i : Nat)))] ∧ hp = []) a.length ?_ ?_ ?_
    · kernel_rfl
    · exact ⟨0, rfl, Nat.zero_le _, rfl, rfl, rfl⟩
    rintro m _ _ ⟨i, rfl, hi, ht, rfl, rfl⟩
    conv => whnf
    by_cases hlt : i < a.length
    · have t1 := dlt hlt
      have t2 := winc (i := i) (by omega)
      by_cases hv : a.getD i 0 = b.getD i 0
      · have t3 : (!decide (a.getD i 0 = b.getD i 0)) = false := by rw [decide_eq_true hv]; rfl
        (repeat ((first | refine step_w1 rfl rfl ?_ | refine step_w2 rfl rfl ?_ | refine step_i (by kernel_rfl) ?_ | refine g_o (op_indexN (α := Rat) (d := 0) rfl (ev_ok rfl) (ev_ok rfl) (tgt rfl) rfl (tgt rfl) rfl (by omega)) ?_ | refine g_o (op_loadA rfl (ev_ok rfl) (tgt rfl) rfl (Nat.succ_ne_zero _) rfl) ?_ | refine ⟨_, op_neAgg tabOK goodOK rfl (ev_ok rfl) (ev_ok rfl) rfl rfl rfl rfl (q_same _ _) q_guard, ?_⟩ | rw [t1] | rw [t3] | rw [t2]); conv => whnf))
        exact ⟨a.length - (i + 1), fun k => k, [0, 1, 4, 11, 12, 13], [], by omega, by kernel_rfl, i + 1, rfl, hlt, by rw [take_snoc a i hlt, take_snoc b i (by omega), ht, hv], rfl, rfl⟩
      · have t3 : (!decide (a.getD i 0 = b.getD i 0)) = true := by rw [decide_eq_false hv]; rfl
        have e : decide (a = b) = false := decide_eq_false (fun h => hv (by rw [h]))
        rw [e]
        (repeat ((first | refine step_w1 rfl rfl ?_ | refine step_i (by kernel_rfl) ?_ | refine g_o (op_indexN (α := Rat) (d := 0) rfl (ev_ok rfl) (ev_ok rfl) (tgt rfl) rfl (tgt rfl) rfl (by omega)) ?_ | refine g_o (op_loadA rfl (ev_ok rfl) (tgt rfl) rfl (Nat.succ_ne_zero _) rfl) ?_ | refine ⟨_, op_neAgg tabOK goodOK rfl (ev_ok rfl) (ev_ok rfl) rfl rfl rfl rfl (q_same _ _) q_guard, ?_⟩ | rw [t1] | rw [t3]); conv => whnf)); (first | exact Recast.refl _ | exact Frz.recast (Recast.refl _) rfl | (refine Frz.one rfl rfl ?_; skip) | (refine Frz.tup ?_; skip))
    · have t1 := dge hlt
      have hI : i = a.length := by omega
      have e : decide (a = b) = true := decide_eq_true (by rw [hI, List.take_length] at ht; rw [ht, hab, List.take_length])
      rw [e]
      (repeat (first | (refine step_w2 rfl rfl ?_; conv => whnf) | (rw [t1]; conv => whnf))); (first | exact Recast.refl _ | exact Frz.recast (Recast.refl _) rfl | (refine Frz.one rfl rfl ?_; skip) | (refine Frz.tup ?_; skip))
  · have t0 : ((a.length : Int) != (b.length : Int)) = true := bne_iff_ne.2 (by omega)
    have e : decide (a = b) = false := decide_eq_false (fun h => hab (by rw [h]))
    rw [e]
    (repeat (first | (refine step_w1 rfl rfl ?_; conv => whnf) | (refine g_o (op_lenM rfl rfl rfl (ev_ok rfl) (tgt rfl) rfl) ?_; conv => whnf) | (rw [t0]; conv => whnf))); (first | exact Recast.refl _ | exact Frz.recast (Recast.refl _) rfl | (refine Frz.one rfl rfl ?_; skip) | (refine Frz.tup ?_; skip))

theorem v_Same (a b : List Rat) (ha : a.length < 1099511627776) (hb : b.length < 1099511627776) : CallOK Tryz.prog 24 [fvec a, fvec b] [] (.val (.bool (decide (a = b)))) [] [] := by
  have k1 := v_Equal a b ha hb
  refine callV (Z := []) tabOK mixedOK Tryz.func24 rfl (by kernel_rfl) rfl rfl (by kernel_rfl) rfl ?_
  intro W0 w0 ρ0 hE
  conv => whnf
  (repeat (first | (refine g_c (by assumption) ?_; conv => whnf))); (first | exact Recast.refl _ | exact Frz.recast (Recast.refl _) rfl | (refine Frz.one rfl rfl ?_; skip) | (refine Frz.tup ?_; skip))

end Go.Proofs.YtgodfkgocbppgaaGreatDoor

namespace Go.Proofs.YtgodfkgocbppgaaGreatDoor
open Go.Sx
set_option linter.unusedSimpArgs false
set_option linter.unusedVariables false
set_option maxRecDepth 100000
set_option maxHeartbeats 4000000

def ofInts (l : List Int) : List Rat := l.map fun (n : Int) => ((n : Int) : Rat)
theorem map_get {α β : Type} {f : α → β} {l : List α} {i : Nat} {d : α} {e : β} (h : i < l.length) : (l.map f).getD i e = f (l.getD i d) := by
  simp [List.getD_eq_getElem?_getD, List.getElem?_eq_getElem h]

theorem v_Of (l : List Int) (hl : l.length < 1099511627776) (h : ∀ i, i < l.length → -9223372036854775808 ≤ l.getD i 0 ∧ l.getD i 0 < 9223372036854775808) : CallOK Tryz.prog 51 [ivec .i64 l] [] (fvec (ofInts l)) [] [] := by
  refine callF (Z := []) tabOK mixedOK Tryz.func51 rfl (by kernel_rfl) (by first | rfl | (simp [keylessL, keyless, keylessL_map, *]; done)) (by first | rfl | (simp [keylessL, keyless, keylessL_map, *]; done)) (by kernel_rfl) rfl ?_
  intro w0 ρ0 hE
  conv => whnf
  (repeat (first | (refine And.intro (by first | decide | omega | (simp only [tiB5, tiB23, tiB3, tiB2, tiB9, tiB41, tiB72, tiB29, tiB30, tiB39, tiB33, tiB4, tiB68, tiB70, dlen, List.length_replicate, List.length_set, List.length_map, List.length_zipWith, List.length_take, List.length_append, List.length_cons, List.length_nil]; omega)) ?_; conv => whnf) | (refine g_o (op_lenM rfl rfl rfl (ev_ok rfl) (tgt rfl) rfl) ?_; conv => whnf) | (rw [Int.toNat_natCast]; conv => whnf)))
  have hz : (ofInts l).length = l.length := by simp [ofInts]
  refine SW_loopN hE (fun k => k) [0, 2, 3, 9, 10] [7] (fun m fr hp => ∃ i, m = l.length - i ∧ i ≤ l.length ∧ fr = [(0, ivec .i64 l), (2, .val (.slice none 0 0)), (3, .slc 7 5 0 l.length), (9, .val (.int .i64 (l.length : Nat))), (10, .val (.int .i64 (i : Nat)))] ∧
    hp = [(7, ⟨41, true, .fracs ((ofInts l).take i ++ List.replicate (l.length - i) 0)⟩)]) l.length ?_ ?_ ?_
  · kernel_rfl
  · exact ⟨0, rfl, Nat.zero_le _, rfl, rfl⟩
  rintro m _ _ ⟨i, rfl, hi, rfl, rfl⟩
  conv => whnf
  have hlen := fill_len (d := (0 : Rat)) hi hz
  by_cases hlt : i < l.length
  · have t1 := dlt hlt
    have t2 := winc (i := i) (by omega)
    obtain ⟨b1, b2⟩ := h i hlt
    have k1 := c_fInt (l.getD i 0) b1 b2
    rw [← map_get (f := fun (n : Int) => ((n : Int) : Rat)) (e := 0) hlt] at k1
    (repeat ((first | refine step_w1 rfl rfl ?_ | refine And.intro (by first | decide | omega | (simp only [tiB5, tiB23, tiB3, tiB2, tiB9, tiB41, tiB72, tiB29, tiB30, tiB39, tiB33, tiB4, tiB68, tiB70, dlen, List.length_replicate, List.length_set, List.length_map, List.length_zipWith, List.length_take, List.length_append, List.length_cons, List.length_nil]; omega)) ?_ | refine g_c (by assumption) ?_ | refine g_o (op_loadA rfl (ev_ok rfl) (tgt rfl) rfl (Nat.succ_ne_zero _) rfl) ?_ | refine g_o (op_indexN (α := Int) (d := 0) rfl (ev_ok rfl) (ev_ok rfl) (tgt rfl) rfl (tgt rfl) rfl (by omega)) ?_ | rw [t1] | rw [t2] | rw [Int.toNat_natCast] | rw [Nat.zero_add]); conv => whnf))
    refine ⟨l.length - (i + 1), fun k => k, [0, 2, 3, 9, 10], [7], by omega, by kernel_rfl, i + 1, rfl, hlt, rfl, ?_⟩
    rw [← fill_set (e := 0) hlt hz]
    rfl
  · have t1 := dge hlt
    have hI : i = l.length := by omega
    subst hI
    rw [fill_all hz]
    (repeat (first | (refine step_w2 rfl rfl ?_; conv => whnf) | (rw [t1]; conv => whnf))); (first | exact Recast.refl _ | exact Frz.recast (Recast.refl _) rfl | (refine Frz.one rfl rfl ?_; (repeat (first | (refine FrzC.fracs rfl ?_; (first | rfl | omega | (simp <;> fail) | (simp <;> omega)))))) | (refine Frz.tup ?_; skip))

/-- The elements at some places. -/
def vpart (a : List Rat) (p : List Int) : List Rat := p.map fun i => a.getD i.toNat 0
theorem v_Part (a : List Rat) (p : List Int) (ha : a.length ≤ 2048) (hp : p.length ≤ 2048) (h : ∀ i, i < p.length → 0 ≤ p.getD i 0 ∧ p.getD i 0 < a.length) : CallOK Tryz.prog 29 [fvec a, ivec .i64 p] [] (.tup [fvec (vpart a p), .val (.int .i64 0)]) [] [] := by
  have t0 : decide ((if (p.length : Int) > (a.length : Int) then (p.length : Int) else (a.length : Int)) > 2048) = false := decide_eq_false (by split <;> omega)
  refine callF (Z := []) tabOK mixedOK Tryz.func29 rfl (by kernel_rfl) (by first | rfl | (simp [keylessL, keyless, keylessL_map, *]; done)) (by first | rfl | (simp [keylessL, keyless, keylessL_map, *]; done)) (by kernel_rfl) rfl ?_
  intro w0 ρ0 hE
  conv => whnf
  (repeat ((first | refine step_w2 rfl rfl ?_ | refine And.intro (by first | decide | omega | (simp only [tiB5, tiB23, tiB3, tiB2, tiB9, tiB41, tiB72, tiB29, tiB30, tiB39, tiB33, tiB4, tiB68, tiB70, dlen, List.length_replicate, List.length_set, List.length_map, List.length_zipWith, List.length_take, List.length_append, List.length_cons, List.length_nil]; omega)) ?_ | refine g_o (op_lenM rfl rfl rfl (ev_ok rfl) (tgt rfl) rfl) ?_ | rw [t0] | rw [Int.toNat_natCast]); conv => whnf))
  have hz : (vpart a p).length = p.length := by simp [vpart]
  refine SW_loopN hE (fun k => k) [0, 1, 4, 5, 6, 18, 19, 20] [17] (fun m fr hp => ∃ i, m = p.length - i ∧ i ≤ p.length ∧ fr = [(0, fvec a), (1, ivec .i64 p), (4, .val (.slice none 0 0)), (5, .val (.int .i64 0)), (6, .slc 17 5 0 p.length), (18, ivec .i64 p), (19, .val (.int .i64 (p.length : Nat))), (20, .val (.int .i64 (i : Nat)))] ∧
    hp = [(17, ⟨41, true, .fracs ((vpart a p).take i ++ List.replicate (p.length - i) 0)⟩)]) p.length ?_ ?_ ?_
  · kernel_rfl
  · exact ⟨0, rfl, Nat.zero_le _, rfl, rfl⟩
  rintro m _ _ ⟨i, rfl, hi, rfl, rfl⟩
  conv => whnf
  have hlen := fill_len (d := (0 : Rat)) hi hz
  by_cases hlt : i < p.length
  · have t1 := dlt hlt
    have t2 := winc (i := i) (by omega)
    obtain ⟨b1, b2⟩ := h i hlt
    have e1 : a.getD (p.getD i 0).toNat 0 = (vpart a p).getD i 0 := (map_get (f := fun (i : Int) => a.getD i.toNat 0) hlt).symm
    have t3 : decide (p.getD i 0 < 0) = false := decide_eq_false (by omega)
    have t4 : decide (p.getD i 0 ≥ (a.length : Int)) = false := decide_eq_false (by omega)
    (repeat ((first | refine step_w1 rfl rfl ?_ | refine step_w2 rfl rfl ?_ | refine And.intro (by first | decide | omega | (simp only [tiB5, tiB23, tiB3, tiB2, tiB9, tiB41, tiB72, tiB29, tiB30, tiB39, tiB33, tiB4, tiB68, tiB70, dlen, List.length_replicate, List.length_set, List.length_map, List.length_zipWith, List.length_take, List.length_append, List.length_cons, List.length_nil]; omega)) ?_ | refine g_o (op_pickF rfl (ev_ok rfl) (ev_ok rfl)) ?_ | refine g_o (op_lenM rfl rfl rfl (ev_ok rfl) (tgt rfl) rfl) ?_ | refine g_o (op_loadA rfl (ev_ok rfl) (tgt rfl) rfl (Nat.succ_ne_zero _) rfl) ?_ | refine g_o (op_indexN (α := Int) (d := 0) rfl (ev_ok rfl) (ev_ok rfl) (tgt rfl) rfl (tgt rfl) rfl (by omega)) ?_ | refine g_o (op_indexM (α := Rat) (d := 0) rfl (ev_ok rfl) (ev_ok rfl) (tgt rfl) rfl (tgt rfl) rfl (by omega)) ?_ | rw [t1] | rw [t3] | rw [t4] | rw [e1] | rw [t2] | rw [Int.toNat_natCast] | rw [Nat.zero_add]); conv => whnf))
    refine ⟨p.length - (i + 1), fun k => k, [0, 1, 4, 5, 6, 18, 19, 20], [17], by omega, by kernel_rfl, i + 1, rfl, hlt, rfl, ?_⟩
    rw [← fill_set (e := 0) hlt hz]
    rfl
  · have t1 := dge hlt
    have hI : i = p.length := by omega
    subst hI
    rw [fill_all hz]
    (repeat (first | (refine step_w2 rfl rfl ?_; conv => whnf) | (rw [t1]; conv => whnf))); (first | exact Recast.refl _ | exact Frz.recast (Recast.refl _) rfl | (refine Frz.one rfl rfl ?_; skip) | (refine Frz.tup ?_; (repeat (first | exact FrzC.keyless rfl | exact FrzL.nil | refine FrzL.cons ?_ ?_ | (refine FrzC.fracs rfl ?_; (first | rfl | omega | (simp <;> fail) | (simp <;> omega)))))))

theorem alike_zero {ls : List (List Rat)} {n : Nat} (hl : ∀ v ∈ ls, v.length = n) (hn2 : n ≤ 2048) : alikeF ls = 0 := by
  rw [alikeF, if_neg, if_pos]
  · refine List.all_eq_true.2 fun v hv => ?_
    rw [hl v hv]
    cases ls with
    | nil => cases hv
    | cons x l => rw [List.headD_cons, hl x (List.mem_cons_self ..)]; exact beq_self_eq_true _
  · rw [Bool.not_eq_true, List.any_eq_false]
    intro v hv
    rw [hl v hv]
    simp; omega

/-- The first part of a linear combination. -/
def mixN (c : List Rat) (ls : List (List Rat)) (n : Nat) : Nat → List Rat
  | 0 => List.replicate n 0
  | i + 1 => vaxpy (c.getD i 0) (ls.getD i []) (mixN c ls n i)
theorem mixN_len {c : List Rat} {ls : List (List Rat)} {n : Nat} (hl : ∀ v ∈ ls, v.length = n) : ∀ i, i ≤ ls.length → (mixN c ls n i).length = n
  | 0, _ => by simp [mixN]
  | i + 1, h => by
    have h1 := mixN_len (c := c) hl i (by omega)
    have h2 := hl _ (getD_mem (d := []) (show i < ls.length by omega))
    rw [mixN]; exact zip_len h2 h1
theorem mixN_fs {c : List Rat} {ls : List (List Rat)} {n B : Nat} (hc : c.length = ls.length) (hl : ∀ v ∈ ls, v.length = n) (hb : ∀ v ∈ ls, ∀ k, k < n → fs (v.getD k 0) ≤ B) (hcb : ∀ q ∈ c, fs q ≤ B) : ∀ i, i ≤ ls.length → ∀ k, k < n → fs ((mixN c ls n i).getD k 0) ≤ 2 + i * (B + B)
  | 0, _, k, hk => by
    have : (List.replicate n (0 : Rat)).getD k 0 = 0 := by simp [List.getD_eq_getElem?_getD, hk]
    rw [mixN, this, fs_zero]; omega
  | i + 1, h, k, hk => by
    have h1 := mixN_fs hc hl hb hcb i (by omega) k hk
    have hm := getD_mem (d := []) (show i < ls.length by omega)
    have hmc := hcb _ (getD_mem (d := 0) (show i < c.length by omega))
    have h2 := hb _ hm k hk
    have h3 := mixN_len (c := c) hl i (by omega)
    rw [mixN, zip_get (d1 := 0) (d2 := 0) (by rw [hl _ hm]; exact hk) (by omega)]
    have h4 := fs_add (c.getD i 0 * (ls.getD i []).getD k 0) ((mixN c ls n i).getD k 0)
    have h5 := fs_mul (c.getD i 0) ((ls.getD i []).getD k 0)
    rw [Nat.succ_mul]; omega

theorem v_Mix (c : List Rat) (ls : List (List Rat)) (n B : Nat) (hc : c.length = ls.length) (hn : ls.length < 1048576) (h0 : ls ≠ []) (hl : ∀ v ∈ ls, v.length = n) (hn2 : n ≤ 2048) (hb : ∀ v ∈ ls, ∀ k, k < n → fs (v.getD k 0) ≤ B) (hcb : ∀ q ∈ c, fs q ≤ B)
    (hB : 2 + ls.length * (B + B) + (B + B) ≤ 1073741824) : CallOK Tryz.prog 23 [fvec c, mvec 1 fvec ls] [] (.tup [fvec (mixN c ls n ls.length), .val (.int .i64 0)]) [] [] := by
  have ka := v_alike ls (by omega) (fun v hv => by rw [hl v hv]; omega)
  rw [alike_zero hl hn2] at ka
  have hpos : 0 < ls.length := List.length_pos_iff.2 h0
  have t0 : ((ls.length : Int) == 0) = false := beq_false_of_ne (by omega)
  have t1 : ((c.length : Int) != (ls.length : Int)) = false := by rw [hc]; exact bne_self_eq_false _
  have hlen0 := hl _ (getD_mem (d := []) hpos)
  have t9 : (((ls.getD 0 []).length : Nat) : Int) = (n : Int) := by rw [hlen0]
  refine callF (Z := []) tabOK mixedOK Tryz.func23 rfl (by kernel_rfl) (by first | rfl | (simp [keylessL, keyless, keylessL_map, *]; done)) (by first | rfl | (simp [keylessL, keyless, keylessL_map, *]; done)) (by kernel_rfl) rfl ?_
  intro w0 ρ0 hE
  conv => whnf
  (repeat ((first | refine step_w1 rfl rfl ?_ | refine step_w2 rfl rfl ?_ | refine And.intro (by first | decide | omega | (simp only [tiB5, tiB23, tiB3, tiB2, tiB9, tiB41, tiB72, tiB29, tiB30, tiB39, tiB33, tiB4, tiB68, tiB70, dlen, List.length_replicate, List.length_set, List.length_map, List.length_zipWith, List.length_take, List.length_append, List.length_cons, List.length_nil]; omega)) ?_ | refine g_c (by assumption) ?_ | refine g_o (op_pickF rfl (ev_ok rfl) (ev_ok rfl)) ?_ | rw [bne_self_eq_false] | refine g_o (op_lenM rfl rfl rfl (ev_ok rfl) (tgt rfl) rfl) ?_ | refine g_o (op_loadA rfl (ev_ok rfl) (tgt rfl) rfl (Nat.succ_ne_zero _) rfl) ?_ | refine g_o (op_indexN (α := List Rat) (d := []) rfl (ev_ok rfl) (ev_ok rfl) (tgt rfl) rfl (tgt rfl) rfl (by omega)) ?_ | rw [t0] | rw [t1] | rw [t9] | rw [Int.toNat_natCast]); conv => whnf))
  refine SWx_freezeF 7 34 (fun _ h => h) rfl rfl (by simp) ?_
  refine SW_loopN hE (fun k => k) [0, 1, 4, 5, 7, 36, 37] [] (fun m fr hp => ∃ i, m = ls.length - i ∧ i ≤ ls.length ∧ fr = [(0, fvec c), (1, mvec 1 fvec ls), (4, .val (.slice none 0 0)), (5, .val (.int .i64 0)), (7, fvec (mixN c ls n i)), (36, .val (.int .i64 (ls.length : Nat))), (37, .val (.int .i64 (i : Nat)))] ∧ hp = []) ls.length ?_ ?_ ?_
  · kernel_rfl
  · exact ⟨0, rfl, Nat.zero_le _, rfl, rfl⟩
  rintro m _ _ ⟨i, rfl, hi, rfl, rfl⟩
  conv => whnf
  by_cases hlt : i < ls.length
  · have t1 := dlt hlt
    have t2 := winc (i := i) (by omega)
    have hm := getD_mem (d := []) hlt
    have hmc := hcb _ (getD_mem (d := 0) (show i < c.length by omega))
    have h3 := mixN_len (c := c) hl i hi
    have hi2 : i * (B + B) ≤ ls.length * (B + B) := Nat.mul_le_mul_right _ hi
    have k1 := v_Axpy (c.getD i 0) (ls.getD i []) (mixN c ls n i) (by rw [h3, hl _ hm]) (by rw [hl _ hm]; omega) (fun k hk => by
      rw [hl _ hm] at hk
      have h1 := mixN_fs hc hl hb hcb i hi k (by omega)
      have h2 := hb _ hm k (by omega)
      omega)
    (repeat ((first | refine step_w1 rfl rfl ?_ | refine step_i (by kernel_rfl) ?_ | refine g_c (by assumption) ?_ | refine g_o (op_indexN (α := Rat) (d := 0) rfl (ev_ok rfl) (ev_ok rfl) (tgt rfl) rfl (tgt rfl) rfl (by omega)) ?_ | refine g_o (op_loadA rfl (ev_ok rfl) (tgt rfl) rfl (Nat.succ_ne_zero _) rfl) ?_ | refine g_o (op_indexN (α := List Rat) (d := []) rfl (ev_ok rfl) (ev_ok rfl) (tgt rfl) rfl (tgt rfl) rfl (by omega)) ?_ | rw [t1] | rw [t2]); conv => whnf))
    exact ⟨ls.length - (i + 1), fun k => k, [0, 1, 4, 5, 7, 36, 37], [], by omega, by kernel_rfl, i + 1, rfl, hlt, rfl, rfl⟩
  · have t1 := dge hlt
    have hI : i = ls.length := by omega
    subst hI
    (repeat (first | (refine step_w2 rfl rfl ?_; conv => whnf) | (rw [t1]; conv => whnf))); (first | exact Recast.refl _ | exact Frz.recast (Recast.refl _) rfl | (refine Frz.one rfl rfl ?_; skip) | (refine Frz.tup ?_; skip))
end Go.Proofs.YtgodfkgocbppgaaGreatDoor

namespace Go.Proofs
open Go.Shelf
def Tryz.lays156_ren : Go.Shelf.Ren := ⟨fun | 156 => 88 | 165 => 122 | 166 => 123 | 169 => 124 | 240 => 146 | 241 => 147 | 276 => 161 | 277 => 162 | n => n, fun | 31 => 123 | 9 => 9 | 3 => 3 | 4 => 4 | 0 => 0 | 20 => 20 | 72 => 160 | 76 => 164 | 70 => 157 | 37 => 158 | 75 => 163 | 127 => 185 | 164 => 198 | 5 => 5 | 80 => 166 | n => n, fun | n => n⟩
theorem Tryz.lays156 : Go.Proofs.Lays.n156 Tryz.prog Tryz.lays156_ren := {
  mixed := by kernel_rfl
  f156 := Tryz.func88.trans (congrArg some (by kernel_rfl))
  f165 := Tryz.func122.trans (congrArg some (by kernel_rfl))
  f166 := Tryz.func123.trans (congrArg some (by kernel_rfl))
  f169 := Tryz.func124.trans (congrArg some (by kernel_rfl))
  f240 := Tryz.func146.trans (congrArg some (by kernel_rfl))
  f241 := Tryz.func147.trans (congrArg some (by kernel_rfl))
  f276 := Tryz.func161.trans (congrArg some (by kernel_rfl))
  f277 := Tryz.func162.trans (congrArg some (by kernel_rfl))
  t0 := Tryz.underlying0
  a0 := Tryz.isAgg0
  z0 := Tryz.sizeOf0
  v0 := Tryz.zeroValue0
  t3 := Tryz.underlying3
  a3 := Tryz.isAgg3
  z3 := Tryz.sizeOf3
  v3 := Tryz.zeroValue3
  t4 := Tryz.underlying4
  a4 := Tryz.isAgg4
  z4 := Tryz.sizeOf4
  v4 := Tryz.zeroValue4
  t9 := Tryz.underlying9
  a9 := Tryz.isAgg9
  z9 := Tryz.sizeOf9
  v9 := Tryz.zeroValue9
  t20 := Tryz.underlying20
  a20 := Tryz.isAgg20
  z20 := Tryz.sizeOf20
  v20 := Tryz.zeroValue20
  t31 := Tryz.underlying123
  a31 := Tryz.isAgg123
  z31 := Tryz.sizeOf123
  v31 := Tryz.zeroValue123
  t37 := Tryz.underlying158
  a37 := Tryz.isAgg158
  z37 := Tryz.sizeOf158
  v37 := Tryz.zeroValue158
  t70 := Tryz.underlying157
  a70 := Tryz.isAgg157
  z70 := Tryz.sizeOf157
  v70 := Tryz.zeroValue157
  t72 := Tryz.underlying160
  a72 := Tryz.isAgg160
  z72 := Tryz.sizeOf160
  v72 := Tryz.zeroValue160
  t75 := Tryz.underlying163
  a75 := Tryz.isAgg163
  z75 := Tryz.sizeOf163
  v75 := Tryz.zeroValue163
  t76 := Tryz.underlying164
  a76 := Tryz.isAgg164
  z76 := Tryz.sizeOf164
  v76 := Tryz.zeroValue164
  t127 := Tryz.underlying185
  a127 := Tryz.isAgg185
  z127 := Tryz.sizeOf185
  v127 := Tryz.zeroValue185
  t164 := Tryz.underlying198
  a164 := Tryz.isAgg198
  z164 := Tryz.sizeOf198
  v164 := Tryz.zeroValue198 }
theorem Tryz.Builder_Extra_156 : Builder.Extra Tryz.prog Tryz.lays156_ren := {
  sizeBuilder := by kernel_rfl
  liesBuilder := by kernel_rfl
  t5 := Tryz.underlying5
  a5 := Tryz.isAgg5
  z5 := Tryz.sizeOf5
  v5 := Tryz.zeroValue5
  infoByte := by kernel_rfl
  cellsByte := by kernel_rfl
  sizeByte := by kernel_rfl
  neB5 := by decide }
open Go.RowKit in
/-- No element: the empty string; the world is as it was. (Whatever the slice's address and capacity: a nil slice too.) (LAID: no walk: one application.) -/
theorem Tryz.strings_Join_none (a : Option Addr) (c : Nat) (sep : ByteArray) (w : World) :
    Calls Tryz.prog 88 #[.slice a 0 c, .string sep] w fun e w' => e = .returned (.string ⟨#[]⟩) ∧ w' = w := Any.strings_Join_none Tryz.lays156 Tryz.Builder_Extra_156 a c sep w
open Go.RowKit in
/-- strings.Join: "Join concatenates the elements of its first argument to create a single string. The separator string sep is placed between elements in the resulting string.": HOWEVER MANY ELEMENTS. Below the heap's end the world is as it was. (LAID: no walk: one application.) -/
theorem Tryz.strings_Join (bk o c : Nat) (xs : List ByteArray) (sep : ByteArray) (w : World) (hcells : ∀ (j : Nat) x, xs[j]? = some x → w.cell? ⟨bk, o + j, none⟩ = some (.string x)) (hbk : bk < w.heap.size) (hN : xs.length ≤ 140737488355328) (hcap : xs.length ≤ c) (hlen : (Lib.join (xs.map (·.data.toList)) sep.data.toList).length ≤ 140737488355328) :
    Calls Tryz.prog 88 #[.slice (some ⟨bk, o, none⟩) xs.length c, .string sep] w fun e w' => e = .returned (.string ⟨(Lib.join (xs.map (·.data.toList)) sep.data.toList).toArray⟩) ∧ Below w.heap.size w w' := Any.strings_Join Tryz.lays156 Tryz.Builder_Extra_156 bk o c xs sep w hcells hbk hN hcap hlen
def Tryz.lays283_ren : Go.Shelf.Ren := ⟨fun | 283 => 154 | n => n, fun | 3 => 3 | 9 => 9 | 4 => 4 | n => n, fun | n => n⟩
theorem Tryz.lays283 : Go.Proofs.Lays.n283 Tryz.prog Tryz.lays283_ren := {
  mixed := by kernel_rfl
  f283 := Tryz.func154.trans (congrArg some (by kernel_rfl))
  t3 := Tryz.underlying3
  a3 := Tryz.isAgg3
  z3 := Tryz.sizeOf3
  v3 := Tryz.zeroValue3
  t4 := Tryz.underlying4
  a4 := Tryz.isAgg4
  z4 := Tryz.sizeOf4
  v4 := Tryz.zeroValue4
  t9 := Tryz.underlying9
  a9 := Tryz.isAgg9
  z9 := Tryz.sizeOf9
  v9 := Tryz.zeroValue9 }
open Go.Lib in
/-- internal/strconv.small: "small returns the string for an i with 0 <= i < nSmalls.": i's decimal numeral. The world is as it was. (LAID: no walk: one application.) -/
theorem Tryz.internal_strconv_small (i : Nat) (h : i < 100) (w : World) :
    Calls Tryz.prog 154 #[.int .i64 i] w fun e w' => e = .returned (.string ⟨(Lib.decDigits i).toArray⟩) ∧ w' = w := Any.internal_strconv_small Tryz.lays283 i h w
end Go.Proofs

namespace Go.Proofs.YtgodfkgocbppgaaGreatDoor
open Go.Sx
set_option linter.unusedSimpArgs false
set_option linter.unusedVariables false
set_option maxRecDepth 100000
set_option maxHeartbeats 4000000

/-- The decimal text of a number. -/
def decF : Nat → Nat → List UInt8
  | 0, _ => []
  | f + 1, n => if n < 10 then [UInt8.ofNat (48 + n)] else decF f (n / 10) ++ [UInt8.ofNat (48 + n % 10)]
theorem decF_eq : ∀ f n, n < f → decF f n = Lib.decDigits n
  | 0, n, h => by omega
  | f + 1, n, h => by
    rw [decF, Lib.decDigits]
    by_cases h1 : n < 10
    · rw [if_pos h1, dif_pos h1]
    · rw [if_neg h1, dif_neg h1, decF_eq f (n / 10) (by omega)]
def tN (n : Nat) : ByteArray := ⟨(decF (n + 1) n).toArray⟩
theorem tN_eq (n : Nat) : tN n = ⟨(Lib.decDigits n).toArray⟩ := by rw [tN, decF_eq _ _ (Nat.lt_succ_self n)]
def tZ (z : Int) : ByteArray := if z < 0 then "-".toUTF8 ++ tN z.natAbs else tN z.natAbs
def tQ (q : Rat) : ByteArray := if q.den = 1 then tZ q.num else tZ q.num ++ "/".toUTF8 ++ tN q.den

theorem t_small (i : Nat) (h : i < 100) : CallOK Tryz.prog 154 [.val (.int .i64 (i : Nat))] [] (.val (.string (tN i))) [] [] :=
  call_vals' (vs := [.int .i64 (i : Nat)]) ⟨Tryz.f154, Tryz.func154, rfl, by kernel_rfl⟩ rfl (fun w => by rw [tN_eq]; exact Tryz.internal_strconv_small i h w)

theorem t_iFormat (n : Nat) (h : n < 100) : CallOK Tryz.prog 139 [.val (.int .u64 (n : Nat)), .val (.int .i64 10)] [] (.val (.string (tN n))) [] [] := by
  have k1 := t_small n h
  have t1 : decide ((n : Int) < 100) = true := decide_eq_true (by omega)
  have t2 : IntKind.i64.wrap (n : Int) = n := wrap_i64 (by omega) (by omega)
  refine callV (Z := []) tabOK mixedOK Tryz.func139 rfl (by kernel_rfl) rfl rfl (by kernel_rfl) rfl ?_
  intro W0 w0 ρ0 hE
  conv => whnf
  (repeat ((first | refine step_w1 rfl rfl ?_ | refine g_c (by assumption) ?_ | rw [beq_self_eq_true] | rw [t1] | rw [t2]); conv => whnf)); (first | exact Recast.refl _ | exact Frz.recast (Recast.refl _) rfl | (refine Frz.one rfl rfl ?_; skip) | (refine Frz.tup ?_; skip))
theorem t_Format (n : Nat) (h : n < 100) : CallOK Tryz.prog 111 [.val (.int .u64 (n : Nat)), .val (.int .i64 10)] [] (.val (.string (tN n))) [] [] := by
  have k1 := t_iFormat n h
  refine callV (Z := []) tabOK mixedOK Tryz.func111 rfl (by kernel_rfl) rfl rfl (by kernel_rfl) rfl ?_
  intro W0 w0 ρ0 hE
  conv => whnf
  (repeat (first | (refine g_c (by assumption) ?_; conv => whnf))); (first | exact Recast.refl _ | exact Frz.recast (Recast.refl _) rfl | (refine Frz.one rfl rfl ?_; skip) | (refine Frz.tup ?_; skip))
theorem t_Nat (n : Nat) (h : n < 100) : CallOK Tryz.prog 79 [.nat n] [] (.val (.string (tN n))) [] [] := by
  have k1 := t_Format n h
  have e1 : low n = (n : Int) := low_small (by omega)
  have e2 : ((big n).toList == (ByteArray.mk #[]).toList) = true := by rw [big_eq]; exact decide_eq_true (by omega)
  refine callV (Z := []) tabOK mixedOK Tryz.func79 rfl (by kernel_rfl) rfl rfl (by kernel_rfl) rfl ?_
  intro W0 w0 ρ0 hE
  conv => whnf
  (repeat ((first | refine step_w1 rfl rfl ?_ | refine g_c (by assumption) ?_ | rw [e2] | rw [e1]); conv => whnf)); (first | exact Recast.refl _ | exact Frz.recast (Recast.refl _) rfl | (refine Frz.one rfl rfl ?_; skip) | (refine Frz.tup ?_; skip))

theorem tN_size : ∀ n, n < 100 → (tN n).size ≤ 2 := by
  intro n h
  rw [tN_eq]
  show (Lib.decDigits n).toArray.size ≤ 2
  by_cases h1 : n < 10
  · rw [Lib.decDigits_one h1]; simp
  · rw [Lib.decDigits_two h1 h]; simp
theorem t_Int (z : Int) (h : z.natAbs < 100) : CallOK Tryz.prog 78 [.int z] [] (.val (.string (tZ z))) [] [] := by
  have k1 := t_Nat z.natAbs h
  have hs := tN_size _ h
  have h1 : (ByteArray.mk #[45]).size = 1 := rfl
  have h2 : (ByteArray.mk #[45]).size + (tN z.natAbs).size ≤ 9223372036854775807 := by omega
  unfold tZ
  refine callV (Z := []) tabOK mixedOK Tryz.func78 rfl (by kernel_rfl) rfl rfl (by kernel_rfl) rfl ?_
  intro W0 w0 ρ0 hE
  conv => whnf
  by_cases hz : z < 0
  · have t1 : decide (z < 0) = true := decide_eq_true hz
    rw [if_pos hz]
    (repeat ((first | refine step_w1 rfl rfl ?_ | refine And.intro (by first | decide | omega | (simp only [tiB5, tiB23, tiB3, tiB2, tiB9, tiB41, tiB72, tiB29, tiB30, tiB39, tiB33, tiB4, tiB68, tiB70, dlen, List.length_replicate, List.length_set, List.length_map, List.length_zipWith, List.length_take, List.length_append, List.length_cons, List.length_nil]; omega)) ?_ | refine g_c (by assumption) ?_ | rw [t1]); conv => whnf)); (first | exact Recast.refl _ | exact Frz.recast (Recast.refl _) rfl | (refine Frz.one rfl rfl ?_; skip) | (refine Frz.tup ?_; skip))
  · have t1 : decide (z < 0) = false := decide_eq_false hz
    rw [if_neg hz]
    (repeat (first | (refine step_w2 rfl rfl ?_; conv => whnf) | (refine g_c (by assumption) ?_; conv => whnf) | (rw [t1]; conv => whnf))); (first | exact Recast.refl _ | exact Frz.recast (Recast.refl _) rfl | (refine Frz.one rfl rfl ?_; skip) | (refine Frz.tup ?_; skip))
theorem tZ_size {z : Int} (h : z.natAbs < 100) : (tZ z).size ≤ 3 := by
  have hs := tN_size _ h
  unfold tZ
  split
  · rw [ByteArray.size_append]; have : ("-".toUTF8).size = 1 := rfl; omega
  · omega
theorem t_Frac (q : Rat) (h : q.num.natAbs < 100) (h' : q.den < 100) : CallOK Tryz.prog 44 [.frac q] [] (.val (.string (tQ q))) [] [] := by
  have kw := c_Whole q
  have k1 := t_Int q.num h
  have k2 := t_Nat q.den h'
  have k3 := c_den natBig q (Nat.le_trans (sz_le.2 (show q.den < 2 ^ 64 by omega)) (by decide))
  have hs := tZ_size h
  have hs2 := tN_size _ h'
  have h1 : (ByteArray.mk #[47]).size = 1 := rfl
  have h2 : (tZ q.num).size + (ByteArray.mk #[47]).size ≤ 9223372036854775807 := by omega
  have h3 : (tZ q.num ++ (ByteArray.mk #[47])).size + (tN q.den).size ≤ 9223372036854775807 := by rw [ByteArray.size_append]; omega
  unfold tQ
  refine callV (Z := []) tabOK mixedOK Tryz.func44 rfl (by kernel_rfl) rfl rfl (by kernel_rfl) rfl ?_
  intro W0 w0 ρ0 hE
  conv => whnf
  by_cases hd : q.den = 1
  · rw [decide_eq_true hd] at kw
    rw [if_pos hd]
    (repeat (first | (refine step_w1 rfl rfl ?_; conv => whnf) | (refine g_c (by assumption) ?_; conv => whnf))); (first | exact Recast.refl _ | exact Frz.recast (Recast.refl _) rfl | (refine Frz.one rfl rfl ?_; skip) | (refine Frz.tup ?_; skip))
  · rw [decide_eq_false hd] at kw
    rw [if_neg hd]
    (repeat ((first | refine step_w2 rfl rfl ?_ | refine step_i (by kernel_rfl) ?_ | refine And.intro (by first | decide | omega | (simp only [tiB5, tiB23, tiB3, tiB2, tiB9, tiB41, tiB72, tiB29, tiB30, tiB39, tiB33, tiB4, tiB68, tiB70, dlen, List.length_replicate, List.length_set, List.length_map, List.length_zipWith, List.length_take, List.length_append, List.length_cons, List.length_nil]; omega)) ?_ | refine g_c (by assumption) ?_); conv => whnf)); (first | exact Recast.refl _ | exact Frz.recast (Recast.refl _) rfl | (refine Frz.one rfl rfl ?_; skip) | (refine Frz.tup ?_; skip))

/-- The text of a vector. -/
def tV (a : List Rat) : ByteArray := "[".toUTF8 ++ ⟨(Lib.join ((a.map tQ).map (·.data.toList)) [32]).toArray⟩ ++ "]".toUTF8

theorem t_Join (ss : List ByteArray) (hN : ss.length ≤ 1099511627776) (hlen : (Lib.join (ss.map (·.data.toList)) [32]).length ≤ 140737488355328) :
    CallOK Tryz.prog 88 [mvec 1 sel ss, .val (.string ⟨#[32]⟩)] [] (.val (.string ⟨(Lib.join (ss.map (·.data.toList)) [32]).toArray⟩)) [] [] := by
  refine call_strs ⟨Tryz.f88, Tryz.func88, rfl, by kernel_rfl⟩ rfl ?_ ?_
  · rintro rfl a w
    exact Tryz.strings_Join_none a 0 ⟨#[32]⟩ w
  · intro bk o c w hc hb hcap
    exact Tryz.strings_Join bk o c ss ⟨#[32]⟩ w hc hb (by omega) hcap hlen

theorem t_Vec (a : List Rat) (hl : a.length ≤ 2048) (h : ∀ i, i < a.length → (a.getD i 0).num.natAbs < 100 ∧ (a.getD i 0).den < 100) (hJ : (Lib.join ((a.map tQ).map (·.data.toList)) [32]).length ≤ 140737488355328) : CallOK Tryz.prog 52 [fvec a] [] (.val (.string (tV a))) [] [] := by
  have hz : ((a.map tQ).map sel).length = a.length := by simp
  have hget : ∀ i, i < a.length → ((a.map tQ).map sel).getD i .any = .val (.string (tQ (a.getD i 0))) := fun i hi => by rw [map_get (d := ByteArray.empty) (by simpa using hi), map_get (d := 0) hi]; rfl
  have kj := t_Join (a.map tQ) (by simp; omega) hJ
  refine callF (Z := []) tabOK mixedOK Tryz.func52 rfl (by kernel_rfl) (by first | rfl | (simp [keylessL, keyless, keylessL_map, *]; done)) (by first | rfl | (simp [keylessL, keyless, keylessL_map, *]; done)) (by kernel_rfl) rfl ?_
  intro w0 ρ0 hE
  conv => whnf
  (repeat (first | (refine And.intro (by first | decide | omega | (simp only [tiB5, tiB23, tiB3, tiB2, tiB9, tiB41, tiB72, tiB29, tiB30, tiB39, tiB33, tiB4, tiB68, tiB70, dlen, List.length_replicate, List.length_set, List.length_map, List.length_zipWith, List.length_take, List.length_append, List.length_cons, List.length_nil]; omega)) ?_; conv => whnf) | (refine g_o (op_lenM rfl rfl rfl (ev_ok rfl) (tgt rfl) rfl) ?_; conv => whnf) | (rw [Int.toNat_natCast]; conv => whnf)))
  refine SW_loopS hE (fun k => k) [0, 2, 3, 9, 10, 11] [8] (fun m fr hp => ∃ i, m = a.length - i ∧ i ≤ a.length ∧ fr = [(0, fvec a), (2, .val (.string ⟨#[]⟩)), (3, .slc 8 1 0 a.length), (9, fvec a), (10, .val (.int .i64 (a.length : Nat))), (11, .val (.int .i64 (i : Nat)))] ∧
    hp = [(8, ⟨9, true, .seq 1 (((a.map tQ).map sel).take i ++ List.replicate (a.length - i) (.val (.string .empty)))⟩)]) a.length ?_ ?_ ?_
  · kernel_rfl
  · exact ⟨0, rfl, Nat.zero_le _, rfl, rfl⟩
  rintro m _ _ ⟨i, rfl, hi, rfl, rfl⟩
  have hlen := fill_len (d := SV.val (.string .empty)) hi hz
  by_cases hlt : i < a.length
  · have t1 := dlt hlt
    have t2 := winc (i := i) (by omega)
    obtain ⟨b1, b2⟩ := h i hlt
    have k1 := t_Frac (a.getD i 0) b1 b2
    refine SWx.of hE ?_
    conv => whnf
    have e3 := fill_get (d := SV.val (.string .empty)) (e := SV.any) hlt hz
    (repeat ((first | refine step_w1 rfl rfl ?_ | refine And.intro (by first | decide | omega | (simp only [tiB5, tiB23, tiB3, tiB2, tiB9, tiB41, tiB72, tiB29, tiB30, tiB39, tiB33, tiB4, tiB68, tiB70, dlen, List.length_replicate, List.length_set, List.length_map, List.length_zipWith, List.length_take, List.length_append, List.length_cons, List.length_nil]; omega)) ?_ | refine g_c (by assumption) ?_ | refine g_o (op_indexN (α := Rat) (d := 0) rfl (ev_ok rfl) (ev_ok rfl) (tgt rfl) rfl (tgt rfl) rfl (by omega)) ?_ | refine g_o (op_loadA rfl (ev_ok rfl) (tgt rfl) rfl (Nat.succ_ne_zero _) rfl) ?_ | rw [t1] | rw [e3] | rw [t2] | rw [Int.toNat_natCast] | rw [Nat.zero_add]); conv => whnf))
    refine ⟨a.length - (i + 1), fun k => k, [0, 2, 3, 9, 10, 11], [8], by omega, by kernel_rfl, i + 1, rfl, hlt, rfl, ?_⟩
    rw [← fill_set (e := .any) hlt hz, hget i hlt]
    rfl
  · have t1 := dge hlt
    have hI : i = a.length := by omega
    subst hI
    rw [fill_all hz]
    refine SWx_freezeM 3 8 (fun _ h => h) (fun _ => rfl) rfl rfl (by simp) ?_
    refine SWx.of hE ?_
    conv => whnf
    have h91 : (ByteArray.mk #[91]).size = 1 := rfl
    have h93 : (ByteArray.mk #[93]).size = 1 := rfl
    have hjs : (ByteArray.mk (Lib.join ((a.map tQ).map (·.data.toList)) [32]).toArray).size = (Lib.join ((a.map tQ).map (·.data.toList)) [32]).length := by show (Lib.join ((a.map tQ).map (·.data.toList)) [32]).toArray.size = _; simp
    have o1 : (ByteArray.mk #[91]).size + (ByteArray.mk (Lib.join ((a.map tQ).map (·.data.toList)) [32]).toArray).size ≤ 9223372036854775807 := by omega
    have o2 : (ByteArray.mk #[91] ++ ByteArray.mk (Lib.join ((a.map tQ).map (·.data.toList)) [32]).toArray).size + (ByteArray.mk #[93]).size ≤ 9223372036854775807 := by rw [ByteArray.size_append]; omega
    (repeat ((first | refine step_w2 rfl rfl ?_ | refine And.intro (by first | decide | omega | (simp only [tiB5, tiB23, tiB3, tiB2, tiB9, tiB41, tiB72, tiB29, tiB30, tiB39, tiB33, tiB4, tiB68, tiB70, dlen, List.length_replicate, List.length_set, List.length_map, List.length_zipWith, List.length_take, List.length_append, List.length_cons, List.length_nil]; omega)) ?_ | refine g_c (by assumption) ?_ | rw [t1]); conv => whnf)); (first | exact Recast.refl _ | exact Frz.recast (Recast.refl _) rfl | (refine Frz.one rfl rfl ?_; skip) | (refine Frz.tup ?_; skip))
end Go.Proofs.YtgodfkgocbppgaaGreatDoor

namespace Go.Proofs.YtgodfkgocbppgaaGreatDoor
open Go.Sx
set_option linter.unusedSimpArgs false
set_option linter.unusedVariables false
set_option maxRecDepth 100000
set_option maxHeartbeats 4000000

/-- A fraction as plain data, its value. -/
abbrev qA : Int × Int → SV := ag2 (iel .i64) (iel .u32)
def qV (q : Int × Int) : Rat := (q.1 : Rat) / ((if q.2 < 1 then 1 else q.2 : Int) : Rat)
/-- Its bounds. -/
def qOK (q : Int × Int) : Prop := (-9223372036854775808 ≤ q.1 ∧ q.1 < 9223372036854775808) ∧ (0 ≤ q.2 ∧ q.2 < 4294967296)

theorem fs_qV {q : Int × Int} (h : qOK q) : fs (qV q) ≤ 130 := by
  have h1 := fs_div (q.1 : Rat) ((if q.2 < 1 then 1 else q.2 : Int) : Rat)
  have h2 := fs_int h.1.1 h.1.2
  have h3 : fs ((if q.2 < 1 then 1 else q.2 : Int) : Rat) ≤ 65 := fs_int (by have := h.2; split <;> omega) (by have := h.2; split <;> omega)
  unfold qV
  omega

theorem c_QOf (q : Int × Int) (h : qOK q) : CallOK Tryz.prog 16 [qA q] [] (.frac (qV q)) [] [] := by
  have hd : (if q.2 < 1 then 1 else q.2) ≠ 0 := by have := h.2; split <;> omega
  have e1 : (if (1 : Int) > q.2 then 1 else q.2) = (if q.2 < 1 then 1 else q.2) := rfl
  have e2 : IntKind.i64.wrap (if (1 : Int) > q.2 then 1 else q.2) = (if q.2 < 1 then 1 else q.2) := wrap_i64 (by have := h.2; split <;> omega) (by have := h.2; split <;> omega)
  have g2 := fs_int h.1.1 h.1.2
  have g3 : fs ((if q.2 < 1 then 1 else q.2 : Int) : Rat) ≤ 65 := fs_int (by have := h.2; split <;> omega) (by have := h.2; split <;> omega)
  have k1 := c_fOf natBig q.1 (if q.2 < 1 then 1 else q.2) (by unfold fs at g2 g3; omega) h.1.1 h.1.2 (by have := h.2; split <;> omega) (by have := h.2; split <;> omega) hd
  refine callV (Z := []) tabOK mixedOK Tryz.func16 rfl (by kernel_rfl) rfl rfl (by kernel_rfl) rfl ?_
  intro W0 w0 ρ0 hE
  conv => whnf
  (repeat (first | (refine g_c (by assumption) ?_; conv => whnf) | (rw [e2]; conv => whnf))); (first | exact Recast.refl _ | exact Frz.recast (Recast.refl _) rfl | (refine Frz.one rfl rfl ?_; skip) | (refine Frz.tup ?_; skip))

theorem app_snoc {α : Type} {l : List α} {i : Nat} {d : α} (h : i < l.length) : (l.take i).take i ++ (([l.getD i d] : List α).drop 0).take 1 = l.take (i + 1) := by
  have e : l.take (i + 1) = l.take i ++ [l.getD i d] := by rw [List.take_add_one, List.getD_eq_getElem?_getD, List.getElem?_eq_getElem h]; rfl
  rw [List.take_take, Nat.min_self, e]; rfl

theorem c_V (l : List (Int × Int)) (hl : l.length < 1048576) (h : ∀ q ∈ l, qOK q) : CallOK Tryz.prog 14 [mvec 2 qA l] [] (fvec (l.map qV)) [] [] := by
  have hz : (l.map qV).length = l.length := by simp
  refine callF (Z := []) tabOK mixedOK Tryz.func14 rfl (by kernel_rfl) (by first | rfl | (simp [keylessL, keyless, keylessL_map, *]; done)) (by first | rfl | (simp [keylessL, keyless, keylessL_map, *]; done)) (by kernel_rfl) rfl ?_
  intro w0 ρ0 hE
  conv => whnf
  skip
  refine SWx_adopt (t := 3) (k := 2001) (s := 5) (blk := ⟨41, true, .fracs []⟩) rfl rfl rfl ?_
  refine SW_loopN hE (fun k => k) [0, 2, 3, 4] [2001] (fun m fr hp => ∃ i, m = l.length - i ∧ i ≤ l.length ∧ fr = [(0, mvec 2 qA l), (2, .val (.slice none 0 0)), (3, .slc 2001 5 0 i), (4, .val (.int .i64 (i : Nat)))] ∧ hp = [(2001, ⟨41, true, .fracs ((l.map qV).take i)⟩)]) l.length ?_ ?_ ?_
  · kernel_rfl
  · exact ⟨0, rfl, Nat.zero_le _, rfl, rfl⟩
  rintro m _ _ ⟨i, rfl, hi, rfl, rfl⟩
  have hlen : ((l.map qV).take i).length = i := by simp; omega
  conv => whnf
  by_cases hlt : i < l.length
  · have t1 := dlt hlt
    have t2 := winc (i := i) (by omega)
    have k1 := c_QOf (l.getD i (0, 0)) (h _ (getD_mem hlt))
    rw [← map_get (f := qV) (e := 0) hlt] at k1
    (repeat ((first | refine step_w1 rfl rfl ?_ | refine And.intro (by first | decide | omega | (simp only [tiB5, tiB23, tiB3, tiB2, tiB9, tiB41, tiB72, tiB29, tiB30, tiB39, tiB33, tiB4, tiB68, tiB70, dlen, List.length_replicate, List.length_set, List.length_map, List.length_zipWith, List.length_take, List.length_append, List.length_cons, List.length_nil]; omega)) ?_ | refine g_c (by assumption) ?_ | refine g_o (op_lenM rfl rfl rfl (ev_ok rfl) (tgt rfl) rfl) ?_ | refine g_o (op_loadA rfl (ev_ok rfl) (tgt rfl) rfl (Nat.succ_ne_zero _) rfl) ?_ | refine g_o (op_indexN (α := Int × Int) (d := (0, 0)) rfl (ev_ok rfl) (ev_ok rfl) (tgt rfl) rfl (tgt rfl) rfl (by omega)) ?_ | rw [t1] | rw [t2]); conv => whnf))
    refine ⟨l.length - (i + 1), renBy [(18, 2001)], [0, 2, 3, 4], [18], by omega, by kernel_rfl, i + 1, rfl, hlt, rfl, ?_⟩
    rw [← app_snoc (d := 0) (show i < (l.map qV).length by rw [hz]; exact hlt)]
    rfl
  · have t1 := dge hlt
    have hI : i = l.length := by omega
    subst hI
    rw [List.take_of_length_le (by simp)]
    (repeat (first | (refine step_w2 rfl rfl ?_; conv => whnf) | (refine g_o (op_lenM rfl rfl rfl (ev_ok rfl) (tgt rfl) rfl) ?_; conv => whnf) | (rw [t1]; conv => whnf))); (first | exact Recast.refl _ | exact Frz.recast (Recast.refl _) rfl | (refine Frz.one rfl rfl ?_; (repeat (first | (refine FrzC.fracs rfl ?_; (first | rfl | omega | (simp <;> fail) | (simp <;> omega)))))) | (refine Frz.tup ?_; skip))
end Go.Proofs.YtgodfkgocbppgaaGreatDoor

namespace Go.Proofs.YtgodfkgocbppgaaGreatDoor
open Go.Sx
set_option linter.unusedSimpArgs false
set_option linter.unusedVariables false

section
variable (x y : Nat → Rat)
end

end Go.Proofs.YtgodfkgocbppgaaGreatDoor

namespace Go.Proofs.YtgodfkgocbppgaaGreatDoor
open Go.Sx
set_option linter.unusedSimpArgs false
set_option linter.unusedVariables false
set_option maxRecDepth 100000
set_option maxHeartbeats 4000000

/-- Vectors that are refused. -/
theorem v_eachE (a b : List Rat) (g : FuncId) (ha : a.length < 1099511627776) (hb : b.length < 1099511627776) (h : alikeF [a, b] ≠ 0) : CallOK Tryz.prog 70 [fvec a, fvec b, .clo g [] []] [] (.tup [fvec [], .val (.int .i64 (alikeF [a, b]))]) [] [] := by
  have k1 := v_alike [a, b] (by simp) (by simp; omega)
  have t1 : (alikeF [a, b] != 0) = true := bne_iff_ne.2 h
  refine callF (Z := [13]) tabOK mixedOK Tryz.func70 rfl (by kernel_rfl) (by first | rfl | (simp [keylessL, keyless, keylessL_map, *]; done)) (by first | rfl | (simp [keylessL, keyless, keylessL_map, *]; done)) (by kernel_rfl) rfl ?_
  intro w0 ρ0 hE
  conv => whnf
  (repeat (first | (refine step_w1 rfl rfl ?_; conv => whnf) | (refine g_c (by assumption) ?_; conv => whnf) | (rw [t1]; conv => whnf))); (first | exact Recast.refl _ | exact Frz.recast (Recast.refl _) rfl | (refine Frz.one rfl rfl ?_; skip) | (refine Frz.tup ?_; (repeat (first | exact FrzC.keyless rfl | exact FrzL.nil | refine FrzL.cons ?_ ?_ | exact FrzC.nilS))))
theorem v_AddE (a b : List Rat) (ha : a.length < 1099511627776) (hb : b.length < 1099511627776) (h : alikeF [a, b] ≠ 0) : CallOK Tryz.prog 35 [fvec a, fvec b] [] (.tup [fvec [], .val (.int .i64 (alikeF [a, b]))]) [] [] := by
  have k1 := v_eachE a b 31 ha hb h
  refine callV (Z := []) tabOK mixedOK Tryz.func35 rfl (by kernel_rfl) rfl rfl (by kernel_rfl) rfl ?_
  intro W0 w0 ρ0 hE
  conv => whnf
  (repeat (first | (refine g_c (by assumption) ?_; conv => whnf))); (first | exact Recast.refl _ | exact Frz.recast (Recast.refl _) rfl | (refine Frz.one rfl rfl ?_; skip) | (refine Frz.tup ?_; skip))

abbrev h12 : Rat := ((1 : Int) : Rat) / ((2 : Int) : Rat)
theorem l_works : CallOK Tryz.prog 12 [] [] (.val (.bool true)) [] [] := by
  have k1 := c_fOf natBig 1 2 (by decide +kernel) (by decide) (by decide) (by decide) (by decide) (by decide)
  have o1 := v_Of [1, -2] (by decide) (by decide)
  have o2 := v_Of [0, 3] (by decide) (by decide)
  have o3 := v_Of [1, 2, 3] (by decide) (by decide)
  have o4 := v_Of [4, 5, 6] (by decide) (by decide)
  have o5 := v_Of [2, 3] (by decide) (by decide)
  have o6 := v_Of [1, 0] (by decide) (by decide)
  have o7 := v_Of [0, 1] (by decide) (by decide)
  have o8 := v_Of [5, 6, 7] (by decide) (by decide)
  have o9 := v_Of [1] (by decide) (by decide)
  have o10 := v_Of [1, 2] (by decide) (by decide)
  have o11 := v_Of [2, -7] (by decide) (by decide)
  have k2 := v_Axpy h12 (ofInts [1, -2]) (ofInts [0, 3]) rfl (by decide) (by decide +kernel)
  have k3 := v_Dot (ofInts [1, 2, 3]) (ofInts [4, 5, 6]) rfl (by decide) (by unfold Fit; decide +kernel) (by decide +kernel)
  have k4 := v_Mix (ofInts [2, 3]) [ofInts [1, 0], ofInts [0, 1]] 2 10 rfl (by decide) (by decide) (by decide) (by decide) (by decide +kernel) (by decide +kernel) (by decide)
  have k5 := v_Part (ofInts [5, 6, 7]) [2, 0, 2] (by decide) (by decide) (by decide)
  have k6 := v_AddE (ofInts [1]) (ofInts [1, 2]) (by decide) (by decide) (by decide)
  have t1 := t_Vec (ofInts [1, -2]) (by decide) (by decide +kernel) (by decide +kernel)
  have t2 := t_Vec (vaxpy h12 (ofInts [1, -2]) (ofInts [0, 3])) (by decide) (by decide +kernel) (by decide +kernel)
  have t3 := t_Vec (mixN (ofInts [2, 3]) [ofInts [1, 0], ofInts [0, 1]] 2 [ofInts [1, 0], ofInts [0, 1]].length) (by decide) (by decide +kernel) (by decide +kernel)
  have t4 := t_Vec (vpart (ofInts [5, 6, 7]) [2, 0, 2]) (by decide) (by decide +kernel) (by decide +kernel)
  have t5 := (t_Vec [] (by decide) (by decide) (by decide)).nil1 (a := none)
  have k7 := c_fInt 32 (by decide) (by decide)
  have k8 := c_fInt 7 (by decide) (by decide)
  have k9 := v_UnitI 2 2 (by decide) (by decide)
  have k10 := v_ZeroE (-1) (by decide)
  have k11 := v_ZeroE 2049 (by decide)
  have k12 := v_Max (ofInts [2, -7]) (by decide) 100 (by decide) (by decide) (by decide +kernel)
  have k13 := (v_Max [] (by decide) 100 (by decide) (by decide) (by decide)).nil1 (a := none)
  have q1 : (!(tV (ofInts [1, -2])).toList == (ByteArray.mk #[91, 49, 32, 45, 50, 93]).toList) = false := by decide +kernel
  have q2 : (!(tV (vaxpy h12 (ofInts [1, -2]) (ofInts [0, 3]))).toList == (ByteArray.mk #[91, 49, 47, 50, 32, 50, 93]).toList) = false := by decide +kernel
  have q3 : (!(tV (mixN (ofInts [2, 3]) [ofInts [1, 0], ofInts [0, 1]] 2 [ofInts [1, 0], ofInts [0, 1]].length)).toList == (ByteArray.mk #[91, 50, 32, 51, 93]).toList) = false := by decide +kernel
  have q4 : (!(tV (vpart (ofInts [5, 6, 7]) [2, 0, 2])).toList == (ByteArray.mk #[91, 55, 32, 53, 32, 55, 93]).toList) = false := by decide +kernel
  have q5 : (!decide (vdot (ofInts [1, 2, 3]) (ofInts [4, 5, 6]) = ((32 : Int) : Rat))) = false := by decide +kernel
  have q6 : (alikeF [ofInts [1], ofInts [1, 2]] != 1) = false := by decide +kernel
  have q7 : (decide (vmax (ofInts [2, -7]) = ((7 : Int) : Rat))) = true := by decide +kernel
  have q8 : (decide (vmax [] = (0 : Rat))) = true := by decide +kernel
  have q9 : ((tV []).toList == (ByteArray.mk #[91, 93]).toList) = true := by decide +kernel
  refine callV (Z := [24, 29, 35, 37, 43, 45, 47, 49, 54, 56, 61, 63, 134]) tabOK mixedOK Tryz.func12 rfl (by kernel_rfl) rfl rfl (by kernel_rfl) rfl ?_
  intro W0 w0 ρ0 hE
  conv => whnf
  (repeat ((first | refine step_w1 rfl rfl ?_ | refine step_w2 rfl rfl ?_ | refine step_i (by kernel_rfl) ?_ | refine g_c (by assumption) ?_ | refine g_o (op_pickT rfl (ev_ok rfl) (ev_ok rfl)) ?_ | refine g_o (op_pickF rfl (ev_ok rfl) (ev_ok rfl)) ?_ | rw [beq_self_eq_true] | rw [bne_self_eq_false] | refine ⟨_, op_eqAgg tabOK goodOK rfl (ev_ok rfl) (ev_ok rfl) rfl rfl rfl rfl (q_same _ _) q_guard, ?_⟩ | refine ⟨_, op_neAgg tabOK goodOK rfl (ev_ok rfl) (ev_ok rfl) rfl rfl rfl rfl (q_same _ _) q_guard, ?_⟩ | rw [q1] | rw [q2] | rw [q3] | rw [q4] | rw [q5] | rw [q6] | rw [q7] | rw [q9]); conv => whnf)); (first | exact Recast.refl _ | exact Frz.recast (Recast.refl _) rfl | (refine Frz.one rfl rfl ?_; skip) | (refine Frz.tup ?_; skip))
end Go.Proofs.YtgodfkgocbppgaaGreatDoor

namespace Go.Proofs.YtgodfkgocbppgaaGreatDoor
open Go.Sx
set_option linter.unusedSimpArgs false
set_option linter.unusedVariables false
set_option maxRecDepth 100000
set_option maxHeartbeats 4000000

/-- All elements have at most B bits. -/
def Sm (B : Nat) (l : List Rat) : Prop := ∀ i, i < l.length → fs (l.getD i 0) ≤ B
theorem Sm_V {l : List (Int × Int)} (h : ∀ q ∈ l, qOK q) : Sm 130 (l.map qV) := by
  intro i hi
  rw [List.length_map] at hi
  rw [map_get (f := qV) (d := (0, 0)) hi]
  exact fs_qV (h _ (getD_mem hi))
theorem Fit_Sm {a b : List Rat} {A B : Nat} (ha : Sm A a) (hb : Sm B b) (hab : a.length = b.length) (h : A + B ≤ 1073741824) : Fit a b := by
  intro i hi
  have h1 := ha i hi
  have h2 := hb i (by omega)
  omega
/-- Bounds of plain data. -/
abbrev QWf (l : List (Int × Int)) : Prop := l.length ≤ maxLen ∧ ∀ x ∈ l, ((Lit.int .i64 x.1).wf = true) ∧ ((Lit.int .u32 x.2).wf = true)
theorem qOK_of {l : List (Int × Int)} (w : l.length ≤ maxLen ∧ ∀ x ∈ l, ((Lit.int .i64 x.1).wf = true) ∧ ((Lit.int .u32 x.2).wf = true)) : ∀ q ∈ l, qOK q := fun q hq => ⟨wf_i64 (w.2 q hq).1, wf_u32 (w.2 q hq).2⟩
theorem qOK_one {q : Int × Int} (w : ((Lit.int .i64 q.1).wf = true) ∧ ((Lit.int .u32 q.2).wf = true)) : qOK q := ⟨wf_i64 w.1, wf_u32 w.2⟩
theorem Sm_take {l : List (Int × Int)} (h : ∀ q ∈ l, qOK q) (n : Nat) : Sm 130 ((l.take n).map qV) := Sm_V (l := l.take n) (fun q hq => h q (List.mem_of_mem_take hq))
theorem len_take {l : List (Int × Int)} {n : Nat} (hn : n ≤ l.length) : ((l.take n).map qV).length = n := by rw [List.length_map, List.length_take]; omega
theorem c_Vt {l : List (Int × Int)} (h : ∀ q ∈ l, qOK q) {n : Nat} (hn : n ≤ 2048) : CallOK Tryz.prog 14 [mvec 2 qA (l.take n)] [] (fvec ((l.take n).map qV)) [] [] :=
  c_V (l.take n) (by rw [List.length_take]; omega) (fun q hq => h q (List.mem_of_mem_take hq))
section
variable {a b z : List Rat} {n i : Nat} {c : Rat}
theorem vec_ext (ha : a.length = n) (hb : b.length = n) (h : ∀ i, i < n → a.getD i 0 = b.getD i 0) : a = b := by
  refine List.ext_getElem (ha.trans hb.symm) fun i h1 h2 => ?_
  have := h i (by omega)
  rwa [List.getD_eq_getElem?_getD, List.getD_eq_getElem?_getD, List.getElem?_eq_getElem h1, List.getElem?_eq_getElem h2] at this
theorem get_add (ha : a.length = n) (hb : b.length = n) (hi : i < n) : (vadd a b).getD i 0 = a.getD i 0 + b.getD i 0 := zip_get (by omega) (by omega)
theorem get_zero (hi : i < n) : (List.replicate n (0 : Rat)).getD i 0 = 0 := by simp [List.getD_eq_getElem?_getD, hi]
end

theorem l_cut (a b : List (Int × Int)) (ha : a.length < 1099511627776) (hb : b.length < 1099511627776) : CallOK Tryz.prog 13 [mvec 2 qA a, mvec 2 qA b] [] (.tup [mvec 2 qA (a.take (min a.length b.length)), mvec 2 qA (b.take (min a.length b.length))]) [] [] := by
  have e1 : (if (b.length : Int) < (a.length : Int) then (b.length : Int) else (a.length : Int)) = ((min a.length b.length : Nat) : Int) := by split <;> omega
  refine callV (Z := []) tabOK mixedOK Tryz.func13 rfl (by kernel_rfl) rfl rfl (by kernel_rfl) rfl ?_
  intro W0 w0 ρ0 hE
  conv => whnf
  (repeat ((first | refine step_i (by kernel_rfl) ?_ | refine g_o (op_lenM rfl rfl rfl (ev_ok rfl) (tgt rfl) rfl) ?_ | refine g_o (op_sliceM rfl (ev_ok rfl) (bound_spec rfl) (bound_spec rfl) (.inl rfl) (tgt rfl) rfl (tgt rfl) rfl (by omega)) ?_ | rw [e1] | rw [Int.toNat_natCast]); conv => whnf)); (first | exact Recast.refl _ | exact Frz.recast (Recast.refl _) rfl | (refine Frz.one rfl rfl ?_; skip) | (refine Frz.tup ?_; skip))
end Go.Proofs.YtgodfkgocbppgaaGreatDoor

namespace Go.Proofs.YtgodfkgocbppgaaGreatDoor
open Go.Sx
set_option linter.unusedSimpArgs false
set_option linter.unusedVariables false
set_option maxRecDepth 100000
set_option maxHeartbeats 4000000

/-- A contract with memory that writes into none of its arguments'. -/
theorem callKN {P : Program} {T : List (TypeId × TI)} {Z : List Nat} (hT : TabOK P T) (hm : P.follows .mixedOrders = true) {f : FuncId} {fn' : Func} {code : Code} (hf : P.funcs[f]? = some fn') (hb : fn'.body = some code)
    (hn : (fn'.name == "runtime.NumGoroutine") = false) {args : List SV} {fk : List (Nat × Blk)} {c : SV} {new upd : List (Nat × Blk)} (hs : ShapeOK args fk c new upd) (hnt : Nat.ble args.length fn'.ntmps = true)
    (σ : Nat → Nat) (hσ : NamesOK fk new σ) (hu : upd = [])
    (h : ∀ W0 w0 ρ0, (∀ b, ¬ W0 b) → Env.OK ⟨P, T, W0, w0, fn'.ntmps, ρ0, keysOf fk, Z⟩ → cwp ⟨P, T, W0, w0, fn'.ntmps, ρ0, keysOf fk, Z⟩ code (Ret T fn'.results.toList (Fin c new upd)) (enum 0 args) fk) :
    CallOK P f (renL σ args) (renH σ fk) (renS σ c) (renH σ new) (renH σ upd) := by
  have hnt' := Nat.le_of_ble_eq_true hnt
  refine .inl ⟨⟨fn', hf, hn, by rw [hb]; rfl⟩, fun ρ w z hz hpw => ?_⟩
  have hnd := nodupN_spec hs.nd
  have hndf : (keysOf fk).Nodup := (List.nodup_append.1 hnd).1
  have hndn : (keysOf new).Nodup := (List.nodup_append.1 hnd).2.1
  have hdisj : ∀ m ∈ keysOf new, m ∉ keysOf fk := fun m hm hq => (List.nodup_append.1 hnd).2.2 m hq m hm rfl
  let ρ1 : Rho := ⟨fun q => if q ∈ keysOf fk then ρ.key (σ q) else none, ρ.imm, ρ.glob⟩
  have hρ1 : ∀ q ∈ keysOf fk, ρ.key (σ q) = ρ1.key q := fun q hq => by
    show _ = if q ∈ keysOf fk then _ else _
    rw [if_pos hq]
  have hρ1' : ∀ q x, ρ1.key q = some x → q ∈ keysOf fk := fun q x hx => by
    have hx : (if q ∈ keysOf fk then ρ.key (σ q) else none) = some x := hx
    by_cases hq : q ∈ keysOf fk
    · exact hq
    · rw [if_neg hq] at hx; cases hx
  let W0 : Nat → Prop := fun b => ∃ q blk t, (q, blk) ∈ upd ∧ ρ1.key q = some (b, t)
  let E : Env := ⟨P, T, W0, w, fn'.ntmps, ρ1, keysOf fk, Z⟩
  have hE : E.OK := ⟨hT, hm, hρ1'⟩
  have hargr := subN_spec hs.argr
  have hz1 : HasZ ρ1 args z := (renL_iff (ρ := ρ1) (ρ' := ρ) (σ := σ) rfl args z (fun k hk => hρ1 k (hargr k hk))).1 hz
  have hzl : z.length = args.length := HasZ_length hz1
  have hget : ∀ (l : List SV) (y : List (List Value)), HasZ ρ1 l y → l.all passable = true → ∀ (j : Nat) (c : SV), l[j]? = some c → ∃ v, (List.zipWith mkV l y)[j]? = some v ∧ Has ρ1 c v := by
    intro l
    induction l with
    | nil => intro y _ _ j c h; simp at h
    | cons d l ih =>
      intro y hy hp j c hj
      simp only [HasZ] at hy
      obtain ⟨x, r, rfl, g1, g2⟩ := hy
      simp only [List.all_cons, Bool.and_eq_true] at hp
      cases j with
      | zero =>
        simp at hj
        subst hj
        exact ⟨mkV d x, by simp, (Has_iff hp.1).2 ⟨x, g1, rfl⟩⟩
      | succ j => simpa using ih r g2 hp.2 j c (by simpa using hj)
  have hsize : ((List.zipWith mkV args z).toArray ++ Array.replicate (fn'.ntmps - (List.zipWith mkV args z).toArray.size) undef).size = fn'.ntmps := by
    simp [hzl]
    omega
  have hfkr := subN_spec hs.fkr
  have hmemf : ∀ k b, find fk k = some b → (k, b) ∈ fk := fun k b hb => find_mem hb
  have hR : R E.W0 E.w0 E.n ρ1 (fn (enum 0 args) fk) { tmps := (List.zipWith mkV args z).toArray ++ Array.replicate (fn'.ntmps - (List.zipWith mkV args z).toArray.size) undef, defers := [] } w := {
    defers := rfl
    size := hsize
    fr := fun t sv ht => by
      simp only [fn, LV.sv] at ht
      obtain ⟨_, h2⟩ := lk_enum args 0 t sv ht
      obtain ⟨v, h3, h4⟩ := hget args z hz1 hs.pass t sv (by simpa using h2)
      have hlt : t < (List.zipWith mkV args z).length := (List.getElem?_eq_some_iff.1 h3).1
      have : ((List.zipWith mkV args z).toArray ++ Array.replicate (fn'.ntmps - (List.zipWith mkV args z).toArray.size) undef).getD t undef = v := by
        rw [Array.getD_eq_getD_getElem?, Array.getElem?_append_left (by simpa using hlt)]
        simp [h3]
      rw [this]; exact h4
    pres := .refl _ _
    hp := {
      blk := fun k b hb => by
        have hm := hmemf k b hb
        have := hpw.hfk (σ k) (renB σ b) (renH_mem.2 ⟨k, b, hm, rfl, rfl⟩)
        exact (renB_iff (ρ := ρ1) (ρ' := ρ) (σ := σ) rfl k b (hρ1 k (keysOf_mem.2 ⟨b, hm⟩)) (fun j hj => hρ1 j (hfkr j (refsB_mem hm j hj)))).1 this
      sep := fun k k' x x' b b' hx hx' hne he hb hb' hl hl' => by
        have hm := hmemf k b hb
        have hm' := hmemf k' b' hb'
        have hkx : ρ.key (σ k) = some x := by rw [hρ1 k (keysOf_mem.2 ⟨b, hm⟩)]; exact hx
        have hkx' : ρ.key (σ k') = some x' := by rw [hρ1 k' (keysOf_mem.2 ⟨b', hm'⟩)]; exact hx'
        cases hw : b.wr with
        | false => rfl
        | true =>
          have := hpw.sep (σ k) (σ k') x x' (renB σ b) (renB σ b') (renH_mem.2 ⟨k, b, hm, rfl, rfl⟩) (renH_mem.2 ⟨k', b', hm', rfl, rfl⟩) hkx hkx' (hσ.inj k k' b b' hm hm' hne hw) he (by rw [renB, renD_live]; exact hl) (by rw [renB, renD_live]; exact hl')
          rw [renB] at this
          rw [hw] at this; exact this
      own := fun k b x hb hw hl hx => by
        have hm := hmemf k b hb
        obtain ⟨b', hu⟩ := hs.updAll k b hm hw hl
        exact .inr ⟨k, b', x.2, hu, hx⟩
      dom := fun k x hx => by
        obtain ⟨b, hb⟩ := keysOf_mem.1 (hρ1' k x hx)
        exact ⟨b, by simp only [fn, LV.blk]; exact find_of_mem hndf hb⟩
      imm := hpw.imm
      immw := fun k b x hb hw hl hx => by
        have hm := hmemf k b hb
        have hkx : ρ.key (σ k) = some x := by rw [hρ1 k (keysOf_mem.2 ⟨b, hm⟩)]; exact hx
        exact hpw.immw (σ k) (renB σ b) x (renH_mem.2 ⟨k, b, hm, rfl, rfl⟩) hw (by rw [renB, renD_live]; exact hl) hkx } }
  have hwp := cwp_sound hE code _ _ _ (h E.W0 w ρ1 (fun b hb => by obtain ⟨q, blk, t, hm, _⟩ := (show ∃ q blk t, (q, blk) ∈ upd ∧ ρ1.key q = some (b, t) from hb); rw [hu] at hm; cases hm) hE) _ w ⟨ρ1, ⟨.refl _, (fun b o hb => .inl hb), (fun _ _ => rfl)⟩, (fun k hk => by
    obtain ⟨b, hb⟩ := keysOf_mem.1 hk
    simp only [fn, LV.blk, find_of_mem hndf hb]
    simp), hR⟩
  rw [zip_ren]
  refine calls_of_wp hf hb (Code.wp_mono ?_ hwp)
  rintro e a' w' ⟨fr', hp', hK, ρ', hext, _, hR'⟩
  have fin : ∀ ob l, retAll T fr' hp' fn'.results.toList = some (ob, l) → obP ob → Fin c new upd (retSV l) hp' → a'.defers = [] ∧ ∃ v, (results fn' a'.tmps).run P w' = .ok v w' ∧ ∃ v' ρ'', Ending.returned v = .returned v' ∧ Post ρ w (renS σ c) (renH σ new) (renH σ upd) v' ρ'' w' := by
    rintro ob l h1 h2 ⟨h3, hnew, hupd⟩
    obtain ⟨v, r1, r2⟩ := results_run hE hR' h1 h2
    let ρ2 : Rho := ⟨fun k => match (keysOf new).find? (fun m => σ m == k) with
      | some m => ρ'.key m
      | none => ρ.key k, ρ'.imm, ρ'.glob⟩
    have k2new : ∀ m ∈ keysOf new, ρ2.key (σ m) = ρ'.key m := by
      intro m hm
      show (match (keysOf new).find? (fun j => σ j == σ m) with | some m => ρ'.key m | none => ρ.key (σ m)) = ρ'.key m
      cases hfd : (keysOf new).find? (fun j => σ j == σ m) with
      | none => have := List.find?_eq_none.1 hfd m hm; simp at this
      | some j =>
        have hj := List.mem_of_find?_eq_some hfd
        have hjs := List.find?_some hfd
        have : j = m := Classical.byContradiction fun hne => hσ.newInj j m hj hm hne (by simpa using hjs)
        rw [this]
    have k2old : ∀ k, (∀ m ∈ keysOf new, σ m ≠ k) → ρ2.key k = ρ.key k := by
      intro k hk
      show (match (keysOf new).find? (fun j => σ j == k) with | some m => ρ'.key m | none => ρ.key k) = ρ.key k
      cases hfd : (keysOf new).find? (fun j => σ j == k) with
      | none => rfl
      | some j => exact absurd (by simpa using List.find?_some hfd) (hk j (List.mem_of_find?_eq_some hfd))
    have k2 : ∀ q ∈ keysOf fk ++ keysOf new, ρ2.key (σ q) = ρ'.key q := by
      intro q hq
      rcases List.mem_append.1 hq with hq | hq
      · rw [k2old (σ q) (fun m hm => hσ.newOld m q hm hq), hρ1 q hq, hext.fix q hq]
      · exact k2new q hq
    have hfresh : ∀ m ∈ keysOf new, ρ.key (σ m) = none := by
      intro m hm
      obtain ⟨b, hb⟩ := keysOf_mem.1 hm
      exact hpw.fresh (σ m) (renB σ b) (renH_mem.2 ⟨m, b, hb, rfl, rfl⟩)
    have hnewW := allWr_spec hs.newW
    have hupdW := allWr_spec hs.updW
    have hnr := subN_spec hs.nr
    have hur := subN_spec hs.ur
    have hcr := subN_spec hs.cr
    have updlive : ∀ q b, (q, b) ∈ upd → q ∈ keysOf fk := fun q b hq => by
      obtain ⟨b0, h1, _⟩ := hs.updK q b hq
      exact keysOf_mem.2 ⟨b0, h1⟩
    refine ⟨hR'.defers, v, r1, v, ρ2, rfl, ⟨⟨fun k x hx => ?_, fun b o hb => hext.le.imm b o hb⟩, ?_, fun k hk => ?_, ?_, ?_, ?_, ?_, ?_, ?_⟩⟩
    · rw [k2old k]
      · exact hx
      · rintro m hm rfl
        rw [hfresh m hm] at hx; cases hx
    · exact (ren_has (ρ := ρ') (ρ' := ρ2) (σ := σ) rfl c v (fun k hk => k2 k (hcr k hk))).2 (h3 ρ' v r2)
    · refine k2old k fun m hm he => ?_
      obtain ⟨b, hb⟩ := keysOf_mem.1 hm
      exact hk (renB σ b) (renH_mem.2 ⟨m, b, hb, he.symm, rfl⟩)
    · refine hR'.pres.mono (fun b _ hb => ?_)
      obtain ⟨q, blk, t, hq, hx⟩ := hb
      refine ⟨σ q, renB σ blk, t, renH_mem.2 ⟨q, blk, hq, rfl, rfl⟩, ?_⟩
      rw [hρ1 q (updlive q blk hq)]; exact hx
    · intro k b hk
      rcases hk with hk | hk
      · obtain ⟨q, b0, hq, rfl, rfl⟩ := renH_mem.1 hk
        exact (renB_iff (ρ := ρ') (ρ' := ρ2) (σ := σ) rfl q b0 (k2 q (List.mem_append.2 (.inl (updlive q b0 hq)))) (fun j hj => k2 j (hur j (refsB_mem hq j hj)))).2 (hR'.hp.blk q b0 (by simp only [fn, LV.blk]; exact hupd q b0 hq))
      · obtain ⟨q, b0, hq, rfl, rfl⟩ := renH_mem.1 hk
        exact (renB_iff (ρ := ρ') (ρ' := ρ2) (σ := σ) rfl q b0 (k2 q (List.mem_append.2 (.inr (keysOf_mem.2 ⟨b0, hq⟩)))) (fun j hj => k2 j (hnr j (refsB_mem hq j hj)))).2 (hR'.hp.blk q b0 (by simp only [fn, LV.blk]; exact hnew q b0 hq))
    · intro k b b' hk _ hl _
      obtain ⟨q, b0, hq, rfl, rfl⟩ := renH_mem.1 hk
      rw [renB, renD_live] at hl
      rw [(hupdW q b0 hq).2] at hl; cases hl
    · intro k b x hk hx
      obtain ⟨m, b0, hm, rfl, rfl⟩ := renH_mem.1 hk
      rw [k2new m (keysOf_mem.2 ⟨b0, hm⟩)] at hx
      have hfm : (fn fr' hp' (.k m)).blk = some b0 := by simp only [fn, LV.blk]; exact hnew m b0 hm
      rcases hR'.hp.own m b0 x hfm (hnewW m b0 hm).1 (hnewW m b0 hm).2 hx with h4 | ⟨q, bu, t, hq, hxq⟩
      · exact .inl h4
      · exfalso
        have hqf := updlive q bu hq
        have hne : m ≠ q := fun he => hdisj m (keysOf_mem.2 ⟨b0, hm⟩) (he ▸ hqf)
        have hxq' : ρ'.key q = some (x.1, t) := by rw [hext.fix q hqf]; exact hxq
        have := hR'.hp.sep m q x (x.1, t) b0 bu hx hxq' hne rfl hfm (by simp only [fn, LV.blk]; exact hupd q bu hq) (hnewW m b0 hm).2 (hupdW q bu hq).2
        rw [(hnewW m b0 hm).1] at this; cases this
    · intro k b k' b' x x' hk hk' hne hx hx' he
      obtain ⟨m, b0, hm, rfl, rfl⟩ := renH_mem.1 hk
      obtain ⟨m', b0', hm', rfl, rfl⟩ := renH_mem.1 hk'
      rw [k2new m (keysOf_mem.2 ⟨b0, hm⟩)] at hx
      rw [k2new m' (keysOf_mem.2 ⟨b0', hm'⟩)] at hx'
      have := hR'.hp.sep m m' x x' b0 b0' hx hx' (fun h => hne (by rw [h])) he (by simp only [fn, LV.blk]; exact hnew m b0 hm) (by simp only [fn, LV.blk]; exact hnew m' b0' hm') (hnewW m b0 hm).2 (hnewW m' b0' hm').2
      rw [(hnewW m b0 hm).1] at this; cases this
    · intro b o hb
      rcases hext.imm b o hb with h4 | h4
      · exact .inl h4
      · refine .inr ⟨h4, hR'.hp.imm b o hb, fun k blk x hk hx he => ?_⟩
        obtain ⟨m, b0, hm, rfl, rfl⟩ := renH_mem.1 hk
        rw [k2new m (keysOf_mem.2 ⟨b0, hm⟩)] at hx
        have := hR'.hp.immw m b0 x (by simp only [fn, LV.blk]; exact hnew m b0 hm) (hnewW m b0 hm).1 (hnewW m b0 hm).2 hx
        rw [he] at this
        have hb' : ρ'.imm b = some o := hb
        rw [hb'] at this; cases this
  cases e <;> simp only [Ret] at hK <;> simp only [bodyPost]
  · split at hK
    · rename_i ob l hl; exact fin ob l hl (req_spec hK).1 (req_spec hK).2
    · exact hK.elim
  · split at hK
    · rename_i ob l hl; exact fin ob l hl (req_spec hK).1 (req_spec hK).2
    · exact hK.elim


theorem one_all {x : List Rat} {P : List Rat → Prop} (h : P x) : ∀ v ∈ [x], P v := fun v hv => by
  rcases List.mem_cons.1 hv with rfl | hv
  · exact h
  · cases hv
/-- A block of fractions. -/
abbrev fblk (l : List Rat) : Blk := ⟨41, true, .fracs l⟩
theorem v_eachM0 (F : Rat → Rat → Rat) (g : FuncId)  (a b : List Rat) (hab : a.length = b.length) (hl : a.length ≤ 2048)
    (hf : ∀ i, i < a.length → CallOK Tryz.prog g ([] ++ ([.frac (a.getD i 0), .frac (b.getD i 0)] ++ [])) [] (.frac (F (a.getD i 0) (b.getD i 0))) [] []) (K : Nat) :
    CallOK Tryz.prog 70 [fvec a, fvec b, .clo g [] []] [] (.tup [.slc K 5 0 a.length, .val (.int .i64 0)]) [(K, fblk (List.zipWith F a b))] [] := by
  have k1 := v_alike [a, b] (by simp) (by simp; omega)
  rw [alike_two, if_neg (by omega), if_pos hab] at k1
  refine callK (Z := [13]) tabOK mixedOK Tryz.func70 rfl (by kernel_rfl) (args := [fvec a, fvec b, .clo g [] []]) (fk := []) (c := .tup [.slc 20 5 0 a.length, .val (.int .i64 0)]) (new := [(20, fblk (List.zipWith F a b))]) (upd := []) (ShapeOK.of rfl rfl rfl rfl rfl rfl rfl rfl rfl rfl rfl) rfl (fun _ => K) NamesOK.one ?_
  intro W0 w0 ρ0 hE
  conv => whnf
  (repeat ((first | refine step_w2 rfl rfl ?_ | refine And.intro (by first | decide | omega | (simp only [tiB5, tiB23, tiB3, tiB2, tiB9, tiB41, tiB72, tiB29, tiB30, tiB39, tiB33, tiB4, tiB68, tiB70, dlen, List.length_replicate, List.length_set, List.length_map, List.length_zipWith, List.length_take, List.length_append, List.length_cons, List.length_nil]; omega)) ?_ | refine g_c (by assumption) ?_ | rw [bne_self_eq_false] | refine g_o (op_lenM rfl rfl rfl (ev_ok rfl) (tgt rfl) rfl) ?_ | rw [Int.toNat_natCast]); conv => whnf))
  have hz := zip_len (f := F) rfl hab.symm
  refine SW_loopN hE (fun k => k) [0, 1, 2, 6, 7, 9, 22, 23] [20] (fun m fr hp => ∃ i, m = a.length - i ∧ i ≤ a.length ∧ fr = [(0, fvec a), (1, fvec b), (2, .clo g [] []), (6, .val (.slice none 0 0)), (7, .val (.int .i64 0)), (9, .slc 20 5 0 a.length), (22, .val (.int .i64 (a.length : Nat))), (23, .val (.int .i64 (i : Nat)))] ∧
    hp = [(20, fblk ((List.zipWith F a b).take i ++ List.replicate (a.length - i) 0))]) a.length ?_ ?_ ?_
  · kernel_rfl
  · exact ⟨0, rfl, Nat.zero_le _, rfl, rfl⟩
  rintro m _ _ ⟨i, rfl, hi, rfl, rfl⟩
  conv => whnf
  have hlen := fill_len (d := (0 : Rat)) hi hz
  by_cases hlt : i < a.length
  · have t1 := dlt hlt
    have t2 := winc (i := i) (by omega)
    have k2 := hf i hlt
    rw [← zip_get (f := F) (d3 := 0) hlt (by omega)] at k2
    (repeat ((first | refine step_w1 rfl rfl ?_ | refine step_i (by kernel_rfl) ?_ | refine And.intro (by first | decide | omega | (simp only [tiB5, tiB23, tiB3, tiB2, tiB9, tiB41, tiB72, tiB29, tiB30, tiB39, tiB33, tiB4, tiB68, tiB70, dlen, List.length_replicate, List.length_set, List.length_map, List.length_zipWith, List.length_take, List.length_append, List.length_cons, List.length_nil]; omega)) ?_ | refine g_c (by assumption) ?_ | refine g_o (op_indexN (α := Rat) (d := 0) rfl (ev_ok rfl) (ev_ok rfl) (tgt rfl) rfl (tgt rfl) rfl (by omega)) ?_ | refine g_o (op_loadA rfl (ev_ok rfl) (tgt rfl) rfl (Nat.succ_ne_zero _) rfl) ?_ | rw [t1] | rw [t2] | rw [Int.toNat_natCast] | rw [Nat.zero_add]); conv => whnf))
    refine ⟨a.length - (i + 1), fun k => k, [0, 1, 2, 6, 7, 9, 22, 23], [20], by omega, by kernel_rfl, i + 1, rfl, hlt, rfl, ?_⟩
    rw [← fill_set (e := 0) hlt hz]
    rfl
  · have t1 := dge hlt
    have hI : i = a.length := by omega
    subst hI
    rw [fill_all hz]
    (repeat (first | (refine step_w2 rfl rfl ?_; conv => whnf) | (rw [t1]; conv => whnf)))
    exact ⟨Recast.refl _, (fun k b hm => by simp only [List.mem_singleton, Prod.mk.injEq] at hm; obtain ⟨rfl, rfl⟩ := hm; rfl), (fun _ _ h => by cases h)⟩
theorem v_eachM1 (F : Rat → Rat → Rat) (g : FuncId) (p : Pred) (a b : List Rat) (hab : a.length = b.length) (hl : a.length ≤ 2048)
    (hf : ∀ i, i < a.length → CallOK Tryz.prog g ([] ++ ([.frac (a.getD i 0), .frac (b.getD i 0)] ++ [.atom p])) [] (.frac (F (a.getD i 0) (b.getD i 0))) [] []) (K : Nat) :
    CallOK Tryz.prog 70 [fvec a, fvec b, .clo g [] [.atom p]] [] (.tup [.slc K 5 0 a.length, .val (.int .i64 0)]) [(K, fblk (List.zipWith F a b))] [] := by
  have k1 := v_alike [a, b] (by simp) (by simp; omega)
  rw [alike_two, if_neg (by omega), if_pos hab] at k1
  refine callK (Z := [13]) tabOK mixedOK Tryz.func70 rfl (by kernel_rfl) (args := [fvec a, fvec b, .clo g [] [.atom p]]) (fk := []) (c := .tup [.slc 20 5 0 a.length, .val (.int .i64 0)]) (new := [(20, fblk (List.zipWith F a b))]) (upd := []) (ShapeOK.of rfl rfl rfl rfl rfl rfl rfl rfl rfl rfl rfl) rfl (fun _ => K) NamesOK.one ?_
  intro W0 w0 ρ0 hE
  conv => whnf
  (repeat ((first | refine step_w2 rfl rfl ?_ | refine And.intro (by first | decide | omega | (simp only [tiB5, tiB23, tiB3, tiB2, tiB9, tiB41, tiB72, tiB29, tiB30, tiB39, tiB33, tiB4, tiB68, tiB70, dlen, List.length_replicate, List.length_set, List.length_map, List.length_zipWith, List.length_take, List.length_append, List.length_cons, List.length_nil]; omega)) ?_ | refine g_c (by assumption) ?_ | rw [bne_self_eq_false] | refine g_o (op_lenM rfl rfl rfl (ev_ok rfl) (tgt rfl) rfl) ?_ | rw [Int.toNat_natCast]); conv => whnf))
  have hz := zip_len (f := F) rfl hab.symm
  refine SW_loopN hE (fun k => k) [0, 1, 2, 6, 7, 9, 22, 23] [20] (fun m fr hp => ∃ i, m = a.length - i ∧ i ≤ a.length ∧ fr = [(0, fvec a), (1, fvec b), (2, .clo g [] [.atom p]), (6, .val (.slice none 0 0)), (7, .val (.int .i64 0)), (9, .slc 20 5 0 a.length), (22, .val (.int .i64 (a.length : Nat))), (23, .val (.int .i64 (i : Nat)))] ∧
    hp = [(20, fblk ((List.zipWith F a b).take i ++ List.replicate (a.length - i) 0))]) a.length ?_ ?_ ?_
  · kernel_rfl
  · exact ⟨0, rfl, Nat.zero_le _, rfl, rfl⟩
  rintro m _ _ ⟨i, rfl, hi, rfl, rfl⟩
  conv => whnf
  have hlen := fill_len (d := (0 : Rat)) hi hz
  by_cases hlt : i < a.length
  · have t1 := dlt hlt
    have t2 := winc (i := i) (by omega)
    have k2 := hf i hlt
    rw [← zip_get (f := F) (d3 := 0) hlt (by omega)] at k2
    (repeat ((first | refine step_w1 rfl rfl ?_ | refine step_i (by kernel_rfl) ?_ | refine And.intro (by first | decide | omega | (simp only [tiB5, tiB23, tiB3, tiB2, tiB9, tiB41, tiB72, tiB29, tiB30, tiB39, tiB33, tiB4, tiB68, tiB70, dlen, List.length_replicate, List.length_set, List.length_map, List.length_zipWith, List.length_take, List.length_append, List.length_cons, List.length_nil]; omega)) ?_ | refine g_c (by assumption) ?_ | refine g_o (op_indexN (α := Rat) (d := 0) rfl (ev_ok rfl) (ev_ok rfl) (tgt rfl) rfl (tgt rfl) rfl (by omega)) ?_ | refine g_o (op_loadA rfl (ev_ok rfl) (tgt rfl) rfl (Nat.succ_ne_zero _) rfl) ?_ | rw [t1] | rw [t2] | rw [Int.toNat_natCast] | rw [Nat.zero_add]); conv => whnf))
    refine ⟨a.length - (i + 1), fun k => k, [0, 1, 2, 6, 7, 9, 22, 23], [20], by omega, by kernel_rfl, i + 1, rfl, hlt, rfl, ?_⟩
    rw [← fill_set (e := 0) hlt hz]
    rfl
  · have t1 := dge hlt
    have hI : i = a.length := by omega
    subst hI
    rw [fill_all hz]
    (repeat (first | (refine step_w2 rfl rfl ?_; conv => whnf) | (rw [t1]; conv => whnf)))
    exact ⟨Recast.refl _, (fun k b hm => by simp only [List.mem_singleton, Prod.mk.injEq] at hm; obtain ⟨rfl, rfl⟩ := hm; rfl), (fun _ _ h => by cases h)⟩

theorem v_AddM (a b : List Rat) (hab : a.length = b.length) (hl : a.length ≤ 2048) (h : Fit a b) (K : Nat) : CallOK Tryz.prog 35 [fvec a, fvec b] [] (.tup [.slc K 5 0 a.length, .val (.int .i64 0)]) [(K, fblk (vadd a b))] [] := by
  have k1 := v_eachM0 (· + ·) 31 a b hab hl (fun i hi => f_Add _ _ (h i hi)) 1001
  refine callK (Z := []) tabOK mixedOK Tryz.func35 rfl (by kernel_rfl) (args := [fvec a, fvec b]) (fk := []) (c := .tup [.slc 1001 5 0 a.length, .val (.int .i64 0)]) (new := [(1001, fblk (vadd a b))]) (upd := []) (ShapeOK.of rfl rfl rfl rfl rfl rfl rfl rfl rfl rfl rfl) rfl (fun _ => K) NamesOK.one ?_
  intro W0 w0 ρ0 hE
  conv => whnf
  (repeat (first | (refine g_cn (by assumption) rfl ?_; conv => whnf)))
  exact ⟨Recast.refl _, (fun k b hm => by simp only [List.mem_singleton, Prod.mk.injEq] at hm; obtain ⟨rfl, rfl⟩ := hm; rfl), (fun _ _ h => by cases h)⟩
theorem v_AxpyM (c : Rat) (a b : List Rat) (hab : a.length = b.length) (hl : a.length ≤ 2048) (h : ∀ i, i < a.length → fs c + fs (a.getD i 0) + fs (b.getD i 0) ≤ 1073741824) (K : Nat) : CallOK Tryz.prog 38 [.frac c, fvec a, fvec b] [] (.tup [.slc K 5 0 a.length, .val (.int .i64 0)]) [(K, fblk (vaxpy c a b))] [] := by
  have k1 := v_eachM1 (fun x y => c * x + y) 73 (ptrP [.frac c]) a b hab hl (fun i hi => v_Axpy1 _ _ _ (h i hi)) 1001
  refine callK (Z := [3]) tabOK mixedOK Tryz.func38 rfl (by kernel_rfl) (args := [.frac c, fvec a, fvec b]) (fk := []) (c := .tup [.slc 1001 5 0 a.length, .val (.int .i64 0)]) (new := [(1001, fblk (vaxpy c a b))]) (upd := []) (ShapeOK.of rfl rfl rfl rfl rfl rfl rfl rfl rfl rfl rfl) rfl (fun _ => K) NamesOK.one ?_
  intro W0 w0 ρ0 hE
  conv => whnf
  (repeat (first | (refine g_cn (by assumption) rfl ?_; conv => whnf) | (refine g_o (op_makeFunc rfl rfl rfl) ?_; conv => whnf)))
  exact ⟨Recast.refl _, (fun k b hm => by simp only [List.mem_singleton, Prod.mk.injEq] at hm; obtain ⟨rfl, rfl⟩ := hm; rfl), (fun _ _ h => by cases h)⟩

/-- The sum of one vector, as a block of its own. -/
theorem v_SumM (x : List Rat) (hl : x.length ≤ 2048) (h : Sm 130 x) (K : Nat) : CallOK Tryz.prog 49 [mvec 1 fvec [x]] [] (.tup [.slc K 5 0 x.length, .val (.int .i64 0)]) [(K, fblk x)] [] := by
  have ka := v_alike [x] (show 1 < 1099511627776 by decide) (one_all (P := fun v => v.length < 1099511627776) (by omega))
  rw [alike_zero (n := x.length) (one_all (P := fun v => v.length = x.length) rfl) hl] at ka
  have hz0 : (List.replicate x.length (0 : Rat)).length = x.length := List.length_replicate
  have k1 := v_AddM (List.replicate x.length 0) x hz0 (by omega) (fun i hi => by rw [hz0] at hi; rw [get_zero hi, fs_zero]; have := h i hi; omega) 1002
  have e0 : vadd (List.replicate x.length 0) x = x := vec_ext (zip_len hz0 rfl) rfl fun i hi => by rw [get_add hz0 rfl hi, get_zero hi]; grind
  rw [e0, hz0] at k1
  refine callKN (Z := []) tabOK mixedOK Tryz.func49 rfl (by kernel_rfl) (args := [mvec 1 fvec [x]]) (fk := []) (c := .tup [.slc 1001 5 0 x.length, .val (.int .i64 0)]) (new := [(1001, fblk x)]) (upd := []) (ShapeOK.of rfl rfl rfl rfl rfl rfl rfl rfl rfl rfl rfl) rfl (fun _ => K) NamesOK.one rfl ?_
  intro W0 w0 ρ0 hW0 hE
  conv => whnf
  have e1 : (([x] : List (List Rat)).getD 0 []) = x := rfl
  (repeat ((first | refine step_w1 rfl rfl ?_ | refine step_w2 rfl rfl ?_ | refine And.intro (by first | decide | omega | (simp only [tiB5, tiB23, tiB3, tiB2, tiB9, tiB41, tiB72, tiB29, tiB30, tiB39, tiB33, tiB4, tiB68, tiB70, dlen, List.length_replicate, List.length_set, List.length_map, List.length_zipWith, List.length_take, List.length_append, List.length_cons, List.length_nil]; omega)) ?_ | refine g_c (by assumption) ?_ | refine g_o (op_pickF rfl (ev_ok rfl) (ev_ok rfl)) ?_ | rw [bne_self_eq_false] | refine g_o (op_lenM rfl rfl rfl (ev_ok rfl) (tgt rfl) rfl) ?_ | refine g_o (op_loadA rfl (ev_ok rfl) (tgt rfl) rfl (Nat.succ_ne_zero _) rfl) ?_ | refine g_o (op_indexA rfl (ev_ok rfl) (ev_ok rfl) (tgt rfl) rfl (tgt rfl) rfl (by omega) (by first | decide | (simp; done) | omega) rfl) ?_ | rw [Int.toNat_natCast]); conv => whnf))
  refine SWx_freezeF 2 21 hW0 rfl rfl (by simp) ?_
  refine SW_loopN hE (fun k => k) [0, 2, 3, 4, 22, 23, 24] [] (fun m fr hp => (m = 1 ∧ fr = [(0, mvec 1 fvec [x]), (2, fvec (List.replicate x.length 0)), (3, .val (.int .i64 0)), (4, .val (.int .i64 0)), (22, mvec 1 fvec [x]), (23, .val (.int .i64 1)), (24, .val (.int .i64 0))] ∧ hp = []) ∨
    (m = 0 ∧ fr = [(0, mvec 1 fvec [x]), (2, .slc 1001 5 0 x.length), (3, .val (.int .i64 0)), (4, .val (.int .i64 0)), (22, mvec 1 fvec [x]), (23, .val (.int .i64 1)), (24, .val (.int .i64 1))] ∧ hp = [(1001, fblk x)])) 1 ?_ ?_ ?_
  · kernel_rfl
  · exact .inl ⟨rfl, rfl, rfl⟩
  rintro m _ _ (⟨rfl, rfl, rfl⟩ | ⟨rfl, rfl, rfl⟩)
  · conv => whnf
    (repeat ((first | refine step_w1 rfl rfl ?_ | refine g_cn (by assumption) rfl ?_ | refine g_o (op_loadA rfl (ev_ok rfl) (tgt rfl) rfl (Nat.succ_ne_zero _) rfl) ?_ | refine g_o (op_indexA rfl (ev_ok rfl) (ev_ok rfl) (tgt rfl) rfl (tgt rfl) rfl (by omega) (by first | decide | (simp; done) | omega) rfl) ?_); conv => whnf))
    exact ⟨0, renBy [(1002, 1001)], [0, 2, 3, 4, 22, 23, 24], [1002], by omega, by kernel_rfl, .inr ⟨rfl, rfl, rfl⟩⟩
  · conv => whnf
    (repeat (first | (refine step_w2 rfl rfl ?_; conv => whnf)))
    exact ⟨Recast.refl _, (fun k b hm => by simp only [List.mem_singleton, Prod.mk.injEq] at hm; obtain ⟨rfl, rfl⟩ := hm; rfl), (fun _ _ h => by cases h)⟩

/-- A multiple of one vector, as a block of its own. -/
theorem v_MixM (c : Rat) (x : List Rat) (hl : x.length ≤ 2048) (hc : fs c ≤ 130) (h : Sm 130 x) (K : Nat) : CallOK Tryz.prog 23 [fvec [c], mvec 1 fvec [x]] [] (.tup [.slc K 5 0 x.length, .val (.int .i64 0)]) [(K, fblk (vaxpy c x (List.replicate x.length 0)))] [] := by
  have ka := v_alike [x] (show 1 < 1099511627776 by decide) (one_all (P := fun v => v.length < 1099511627776) (by omega))
  rw [alike_zero (n := x.length) (one_all (P := fun v => v.length = x.length) rfl) hl] at ka
  have hz0 : (List.replicate x.length (0 : Rat)).length = x.length := List.length_replicate
  have k1 := v_AxpyM c x (List.replicate x.length 0) hz0.symm hl (fun i hi => by rw [get_zero hi, fs_zero]; have := h i hi; omega) 1002
  refine callKN (Z := []) tabOK mixedOK Tryz.func23 rfl (by kernel_rfl) (args := [fvec [c], mvec 1 fvec [x]]) (fk := []) (c := .tup [.slc 1001 5 0 x.length, .val (.int .i64 0)]) (new := [(1001, fblk (vaxpy c x (List.replicate x.length 0)))]) (upd := []) (ShapeOK.of rfl rfl rfl rfl rfl rfl rfl rfl rfl rfl rfl) rfl (fun _ => K) NamesOK.one rfl ?_
  intro W0 w0 ρ0 hW0 hE
  conv => whnf
  have e1 : (([x] : List (List Rat)).getD 0 []) = x := rfl
  have e2 : (([c] : List Rat).getD 0 0) = c := rfl
  (repeat ((first | refine step_w1 rfl rfl ?_ | refine step_w2 rfl rfl ?_ | refine And.intro (by first | decide | omega | (simp only [tiB5, tiB23, tiB3, tiB2, tiB9, tiB41, tiB72, tiB29, tiB30, tiB39, tiB33, tiB4, tiB68, tiB70, dlen, List.length_replicate, List.length_set, List.length_map, List.length_zipWith, List.length_take, List.length_append, List.length_cons, List.length_nil]; omega)) ?_ | refine g_c (by assumption) ?_ | refine g_o (op_pickF rfl (ev_ok rfl) (ev_ok rfl)) ?_ | rw [bne_self_eq_false] | refine g_o (op_lenM rfl rfl rfl (ev_ok rfl) (tgt rfl) rfl) ?_ | refine g_o (op_loadA rfl (ev_ok rfl) (tgt rfl) rfl (Nat.succ_ne_zero _) rfl) ?_ | refine g_o (op_indexA rfl (ev_ok rfl) (ev_ok rfl) (tgt rfl) rfl (tgt rfl) rfl (by omega) (by first | decide | (simp; done) | omega) rfl) ?_ | rw [Int.toNat_natCast]); conv => whnf))
  refine SWx_freezeF 7 34 hW0 rfl rfl (by simp) ?_
  refine SW_loopN hE (fun k => k) [0, 1, 4, 5, 7, 36, 37] [] (fun m fr hp => (m = 1 ∧ fr = [(0, fvec [c]), (1, mvec 1 fvec [x]), (4, .val (.slice none 0 0)), (5, .val (.int .i64 0)), (7, fvec (List.replicate x.length 0)), (36, .val (.int .i64 1)), (37, .val (.int .i64 0))] ∧ hp = []) ∨
    (m = 0 ∧ fr = [(0, fvec [c]), (1, mvec 1 fvec [x]), (4, .val (.slice none 0 0)), (5, .val (.int .i64 0)), (7, .slc 1001 5 0 x.length), (36, .val (.int .i64 1)), (37, .val (.int .i64 1))] ∧ hp = [(1001, fblk (vaxpy c x (List.replicate x.length 0)))])) 1 ?_ ?_ ?_
  · kernel_rfl
  · exact .inl ⟨rfl, rfl, rfl⟩
  rintro m _ _ (⟨rfl, rfl, rfl⟩ | ⟨rfl, rfl, rfl⟩)
  · conv => whnf
    (repeat ((first | refine step_w1 rfl rfl ?_ | refine step_i (by kernel_rfl) ?_ | refine g_cn (by assumption) rfl ?_ | refine g_o (op_loadA rfl (ev_ok rfl) (tgt rfl) rfl (Nat.succ_ne_zero _) rfl) ?_ | refine g_o (op_indexA rfl (ev_ok rfl) (ev_ok rfl) (tgt rfl) rfl (tgt rfl) rfl (by omega) (by first | decide | (simp; done) | omega) rfl) ?_); conv => whnf))
    exact ⟨0, renBy [(1002, 1001)], [0, 1, 4, 5, 7, 36, 37], [1002], by omega, by kernel_rfl, .inr ⟨rfl, rfl, rfl⟩⟩
  · conv => whnf
    (repeat (first | (refine step_w2 rfl rfl ?_; conv => whnf)))
    exact ⟨Recast.refl _, (fun k b hm => by simp only [List.mem_singleton, Prod.mk.injEq] at hm; obtain ⟨rfl, rfl⟩ := hm; rfl), (fun _ _ h => by cases h)⟩

theorem v_PartM (a : List Rat) (p : List Int) (ha : a.length ≤ 2048) (hp : p.length ≤ 2048) (h : ∀ i, i < p.length → 0 ≤ p.getD i 0 ∧ p.getD i 0 < a.length) (K : Nat) : CallOK Tryz.prog 29 [fvec a, ivec .i64 p] [] (.tup [.slc K 5 0 p.length, .val (.int .i64 0)]) [(K, fblk (vpart a p))] [] := by
  have t0 : decide ((if (p.length : Int) > (a.length : Int) then (p.length : Int) else (a.length : Int)) > 2048) = false := decide_eq_false (by split <;> omega)
  refine callK (Z := []) tabOK mixedOK Tryz.func29 rfl (by kernel_rfl) (args := [fvec a, ivec .i64 p]) (fk := []) (c := .tup [.slc 17 5 0 p.length, .val (.int .i64 0)]) (new := [(17, fblk (vpart a p))]) (upd := []) (ShapeOK.of rfl rfl rfl rfl rfl rfl rfl rfl rfl rfl rfl) rfl (fun _ => K) NamesOK.one ?_
  intro W0 w0 ρ0 hE
  conv => whnf
  (repeat ((first | refine step_w2 rfl rfl ?_ | refine And.intro (by first | decide | omega | (simp only [tiB5, tiB23, tiB3, tiB2, tiB9, tiB41, tiB72, tiB29, tiB30, tiB39, tiB33, tiB4, tiB68, tiB70, dlen, List.length_replicate, List.length_set, List.length_map, List.length_zipWith, List.length_take, List.length_append, List.length_cons, List.length_nil]; omega)) ?_ | refine g_o (op_lenM rfl rfl rfl (ev_ok rfl) (tgt rfl) rfl) ?_ | rw [t0] | rw [Int.toNat_natCast]); conv => whnf))
  have hz : (vpart a p).length = p.length := by simp [vpart]
  refine SW_loopN hE (fun k => k) [0, 1, 4, 5, 6, 18, 19, 20] [17] (fun m fr hp => ∃ i, m = p.length - i ∧ i ≤ p.length ∧ fr = [(0, fvec a), (1, ivec .i64 p), (4, .val (.slice none 0 0)), (5, .val (.int .i64 0)), (6, .slc 17 5 0 p.length), (18, ivec .i64 p), (19, .val (.int .i64 (p.length : Nat))), (20, .val (.int .i64 (i : Nat)))] ∧
    hp = [(17, fblk ((vpart a p).take i ++ List.replicate (p.length - i) 0))]) p.length ?_ ?_ ?_
  · kernel_rfl
  · exact ⟨0, rfl, Nat.zero_le _, rfl, rfl⟩
  rintro m _ _ ⟨i, rfl, hi, rfl, rfl⟩
  conv => whnf
  have hlen := fill_len (d := (0 : Rat)) hi hz
  by_cases hlt : i < p.length
  · have t1 := dlt hlt
    have t2 := winc (i := i) (by omega)
    obtain ⟨b1, b2⟩ := h i hlt
    have e1 : a.getD (p.getD i 0).toNat 0 = (vpart a p).getD i 0 := (map_get (f := fun (i : Int) => a.getD i.toNat 0) hlt).symm
    have t3 : decide (p.getD i 0 < 0) = false := decide_eq_false (by omega)
    have t4 : decide (p.getD i 0 ≥ (a.length : Int)) = false := decide_eq_false (by omega)
    (repeat ((first | refine step_w1 rfl rfl ?_ | refine step_w2 rfl rfl ?_ | refine And.intro (by first | decide | omega | (simp only [tiB5, tiB23, tiB3, tiB2, tiB9, tiB41, tiB72, tiB29, tiB30, tiB39, tiB33, tiB4, tiB68, tiB70, dlen, List.length_replicate, List.length_set, List.length_map, List.length_zipWith, List.length_take, List.length_append, List.length_cons, List.length_nil]; omega)) ?_ | refine g_o (op_pickF rfl (ev_ok rfl) (ev_ok rfl)) ?_ | refine g_o (op_lenM rfl rfl rfl (ev_ok rfl) (tgt rfl) rfl) ?_ | refine g_o (op_loadA rfl (ev_ok rfl) (tgt rfl) rfl (Nat.succ_ne_zero _) rfl) ?_ | refine g_o (op_indexN (α := Int) (d := 0) rfl (ev_ok rfl) (ev_ok rfl) (tgt rfl) rfl (tgt rfl) rfl (by omega)) ?_ | refine g_o (op_indexM (α := Rat) (d := 0) rfl (ev_ok rfl) (ev_ok rfl) (tgt rfl) rfl (tgt rfl) rfl (by omega)) ?_ | rw [t1] | rw [t3] | rw [t4] | rw [e1] | rw [t2] | rw [Int.toNat_natCast] | rw [Nat.zero_add]); conv => whnf))
    refine ⟨p.length - (i + 1), fun k => k, [0, 1, 4, 5, 6, 18, 19, 20], [17], by omega, by kernel_rfl, i + 1, rfl, hlt, rfl, ?_⟩
    rw [← fill_set (e := 0) hlt hz]
    rfl
  · have t1 := dge hlt
    have hI : i = p.length := by omega
    subst hI
    rw [fill_all hz]
    (repeat (first | (refine step_w2 rfl rfl ?_; conv => whnf) | (rw [t1]; conv => whnf)))
    exact ⟨Recast.refl _, (fun k b hm => by simp only [List.mem_singleton, Prod.mk.injEq] at hm; obtain ⟨rfl, rfl⟩ := hm; rfl), (fun _ _ h => by cases h)⟩

/-- slices.Equal at a vector that is a block. -/
theorem v_EqualM (a : List Rat) (ha : a.length < 1099511627776) (K : Nat) : CallOK Tryz.prog 64 [.slc K 5 0 a.length, fvec a] [(K, fblk a)] (.val (.bool true)) [] [(K, fblk a)] := by
  refine callK (Z := []) tabOK mixedOK Tryz.func64 rfl (by kernel_rfl) (args := [.slc 1001 5 0 a.length, fvec a]) (fk := [(1001, fblk a)]) (c := .val (.bool true)) (new := []) (upd := [(1001, fblk a)]) (ShapeOK.of rfl rfl rfl rfl rfl rfl rfl rfl rfl rfl rfl) rfl (fun _ => K) NamesOK.upd ?_
  intro W0 w0 ρ0 hE
  conv => whnf
  have t0 : ((a.length : Int) != (a.length : Int)) = false := bne_self_eq_false _
  (repeat (first | (refine step_w2 rfl rfl ?_; conv => whnf) | (rw [bne_self_eq_false]; conv => whnf) | (refine g_o (op_lenM rfl rfl rfl (ev_ok rfl) (tgt rfl) rfl) ?_; conv => whnf)))
  refine SW_loopN hE (fun k => k) [0, 1, 4, 11, 12, 13] [1001] (fun m fr hp => ∃ i, m = a.length - i ∧ i ≤ a.length ∧ fr = [(0, .slc 1001 5 0 a.length), (1, fvec a), (4, .val (.bool false)), (11, .slc 1001 5 0 a.length), (12, .val (.int .i64 (a.length : Nat))), (13, .val (.int .i64 (i : Nat)))] ∧ hp = [(1001, fblk a)]) a.length ?_ ?_ ?_
  · kernel_rfl
  · exact ⟨0, rfl, Nat.zero_le _, rfl, rfl⟩
  rintro m _ _ ⟨i, rfl, hi, rfl, rfl⟩
  conv => whnf
  by_cases hlt : i < a.length
  · have t1 := dlt hlt
    have t2 := winc (i := i) (by omega)
    have t3 : (!decide (a.getD i 0 = a.getD i 0)) = false := by rw [decide_eq_true rfl]; rfl
    (repeat ((first | refine step_w1 rfl rfl ?_ | refine step_w2 rfl rfl ?_ | refine step_i (by kernel_rfl) ?_ | refine And.intro (by first | decide | omega | (simp only [tiB5, tiB23, tiB3, tiB2, tiB9, tiB41, tiB72, tiB29, tiB30, tiB39, tiB33, tiB4, tiB68, tiB70, dlen, List.length_replicate, List.length_set, List.length_map, List.length_zipWith, List.length_take, List.length_append, List.length_cons, List.length_nil]; omega)) ?_ | refine g_o (op_indexN (α := Rat) (d := 0) rfl (ev_ok rfl) (ev_ok rfl) (tgt rfl) rfl (tgt rfl) rfl (by omega)) ?_ | refine g_o (op_loadA rfl (ev_ok rfl) (tgt rfl) rfl (Nat.succ_ne_zero _) rfl) ?_ | refine ⟨_, op_neAgg tabOK goodOK rfl (ev_ok rfl) (ev_ok rfl) rfl rfl rfl rfl (q_same _ _) q_guard, ?_⟩ | rw [t1] | rw [t3] | rw [t2] | rw [Int.toNat_natCast] | rw [Nat.zero_add]); conv => whnf))
    exact ⟨a.length - (i + 1), fun k => k, [0, 1, 4, 11, 12, 13], [1001], by omega, by kernel_rfl, i + 1, rfl, hlt, rfl, rfl⟩
  · have t1 := dge hlt
    (repeat (first | (refine step_w2 rfl rfl ?_; conv => whnf) | (rw [t1]; conv => whnf)))
    exact ⟨Recast.refl _, (fun _ _ h => by cases h), fun k b hm => by simp only [List.mem_singleton, Prod.mk.injEq] at hm; obtain ⟨rfl, rfl⟩ := hm; rfl⟩
theorem v_SameM (a : List Rat) (ha : a.length < 1099511627776) (K : Nat) : CallOK Tryz.prog 24 [.slc K 5 0 a.length, fvec a] [(K, fblk a)] (.val (.bool true)) [] [(K, fblk a)] := by
  have k1 := v_EqualM a ha 1001
  refine callK (Z := []) tabOK mixedOK Tryz.func24 rfl (by kernel_rfl) (args := [.slc 1001 5 0 a.length, fvec a]) (fk := [(1001, fblk a)]) (c := .val (.bool true)) (new := []) (upd := [(1001, fblk a)]) (ShapeOK.of rfl rfl rfl rfl rfl rfl rfl rfl rfl rfl rfl) rfl (fun _ => K) NamesOK.upd ?_
  intro W0 w0 ρ0 hE
  conv => whnf
  (repeat (first | (refine g_c1u (by assumption) rfl rfl ?_; conv => whnf)))
  exact ⟨Recast.refl _, (fun _ _ h => by cases h), fun k b hm => by simp only [List.mem_singleton, Prod.mk.injEq] at hm; obtain ⟨rfl, rfl⟩ := hm; rfl⟩
end Go.Proofs.YtgodfkgocbppgaaGreatDoor

namespace Go.Proofs.YtgodfkgocbppgaaGreatDoor
open Go.Sx
set_option linter.unusedSimpArgs false
set_option linter.unusedVariables false
set_option maxRecDepth 100000
set_option maxHeartbeats 8000000

theorem c_Keeps (c : Int × Int) (la lb : List (Int × Int)) (hc : qOK c) (hoa : ∀ q ∈ la, qOK q) (hob : ∀ q ∈ lb, qOK q) :
    CallOK Tryz.prog 10 [qA c, mvec 2 qA la, mvec 2 qA lb] [] (.val (.bool true)) [] [] := by
  have kw := l_works
  refine callV (Z := [3, 51, 58, 60, 66]) tabOK mixedOK Tryz.func10 rfl (by kernel_rfl) rfl rfl (by kernel_rfl) rfl ?_
  intro W0 w0 ρ0 hE
  conv => whnf
  by_cases h1 : la.length > 12
  · have t1 : Hid (decide ((la.length : Int) > 12) = true) := show decide ((la.length : Int) > 12) = true from decide_eq_true (by omega)
    (repeat ((first | refine step_w1 rfl rfl ?_ | refine step_w2 rfl rfl ?_ | refine g_c (by assumption) ?_ | refine g_o (op_pickT rfl (ev_ok rfl) (ev_ok rfl)) ?_ | refine g_o (op_lenM rfl rfl rfl (ev_ok rfl) (tgt rfl) rfl) ?_ | rw [t1.out]); conv => whnf)); (first | exact Recast.refl _ | exact Frz.recast (Recast.refl _) rfl | (refine Frz.one rfl rfl ?_; skip) | (refine Frz.tup ?_; skip))
  have t1 : Hid (decide ((la.length : Int) > 12) = false) := show decide ((la.length : Int) > 12) = false from decide_eq_false (by omega)
  by_cases h2 : lb.length > 12
  · have t2 : Hid (decide ((lb.length : Int) > 12) = true) := show decide ((lb.length : Int) > 12) = true from decide_eq_true (by omega)
    (repeat ((first | refine step_w1 rfl rfl ?_ | refine g_c (by assumption) ?_ | refine g_o (op_pickF rfl (ev_ok rfl) (ev_ok rfl)) ?_ | refine g_o (op_lenM rfl rfl rfl (ev_ok rfl) (tgt rfl) rfl) ?_ | rw [t1.out] | rw [t2.out]); conv => whnf)); (first | exact Recast.refl _ | exact Frz.recast (Recast.refl _) rfl | (refine Frz.one rfl rfl ?_; skip) | (refine Frz.tup ?_; skip))
  have t2 : Hid (decide ((lb.length : Int) > 12) = false) := show decide ((lb.length : Int) > 12) = false from decide_eq_false (by omega)
  have kc := l_cut la lb (by omega) (by omega)
  generalize hn : min la.length lb.length = n at kc
  have n12 : n ≤ 12 := by omega
  have nla : n ≤ la.length := by omega
  have nlb : n ≤ lb.length := by omega
  have n2 : n ≤ 2048 := by omega
  clear hn
  have hx := len_take (l := la) nla
  have hy := len_take (l := lb) nlb
  have k1 := c_Vt hoa n2
  have k2 := c_Vt hob n2
  have sx := Sm_take hoa n
  have sy := Sm_take hob n
  have k3 := c_QOf c hc
  have fp := fs_qV hc
  generalize qV c = p at *
  generalize (la.take n).map qV = x at *
  generalize (lb.take n).map qV = y at *
  generalize la.take n = a' at *
  generalize lb.take n = b' at *
  have hyx : y.length = x.length := hy.trans hx.symm
  subst hx
  have o1 := v_AddM x y hyx.symm (by omega) (Fit_Sm sx sy hyx.symm (by decide)) 3001
  have o2 := v_SumM x (by omega) sx 3002
  have o3 := v_MixM p x (by omega) fp sx 3003
  have e1 : (if (x.length : Int) < (2 : Int) then (x.length : Int) else (2 : Int)) = ((min 2 x.length : Nat) : Int) := by split <;> omega
  have o4 := v_PartM x (([0, 0] : List Int).take (min 2 x.length)) (by omega) (by simp; omega) (fun i hi => by
    have : i < 2 ∧ i < x.length := by simp at hi; omega
    have e : (([0, 0] : List Int).take (min 2 x.length)).getD i 0 = 0 := by
      rw [List.getD_eq_getElem?_getD, List.getElem?_take]
      split
      · rcases Nat.lt_or_ge i 1 with h | h
        · obtain rfl : i = 0 := by omega
          rfl
        · obtain rfl : i = 1 := by omega
          rfl
      · rfl
    rw [e]; omega) 3004
  have o5 := v_Same x x (by omega) (by omega)
  have o6 := v_Same y y (by omega) (by omega)
  rw [decide_eq_true rfl] at o5 o6
  have o7 := v_SameM x (by omega) 3002
  have o8 := c_fInt 77 (by decide) (by decide)
  have o9 := c_fInt 78 (by decide) (by decide)
  have o10 := c_fInt 79 (by decide) (by decide)
  have o11 := c_fInt 80 (by decide) (by decide)
  have l1 : (vadd x y).length = x.length := zip_len rfl hyx
  have l2 : (vaxpy p x (List.replicate x.length 0)).length = x.length := zip_len rfl (by simp)
  have l3 : (vpart x (([0, 0] : List Int).take (min 2 x.length))).length = (([0, 0] : List Int).take (min 2 x.length)).length := by simp [vpart]
  have l4 : (([0, 0] : List Int).take (min 2 x.length)).length ≤ 2 := by simp; omega
  (repeat ((first | refine step_w1 rfl rfl ?_ | refine step_w2 rfl rfl ?_ | refine g_c (by assumption) ?_ | refine g_o (op_pickF rfl (ev_ok rfl) (ev_ok rfl)) ?_ | refine g_o (op_lenM rfl rfl rfl (ev_ok rfl) (tgt rfl) rfl) ?_ | rw [t1.out] | rw [t2.out]); conv => whnf))
  refine SW_loopN hE (fun k => k) [1, 2, 3, 7, 8, 9] [] (fun m fr hp => ∃ k : Nat, m = 2 - k ∧ k ≤ 2 ∧ fr = [(1, mvec 2 qA a'), (2, mvec 2 qA b'), (3, ptrA [iel .i64 c.1, iel .u32 c.2]), (7, fvec x), (8, fvec y), (9, .val (.int .i64 (k : Nat)))] ∧ hp = []) 2 ?_ ?_ ?_
  · kernel_rfl
  · exact ⟨0, rfl, Nat.zero_le _, rfl, rfl⟩
  rintro m _ _ ⟨k, rfl, hk, rfl, rfl⟩
  conv => whnf
  by_cases hlt : k < 2
  · have t3 : decide ((k : Int) < 2) = true := decide_eq_true (by omega)
    have t4 := winc (i := k) (by omega)
    have hc1 : CallOK Tryz.prog 16 [.agg [iel .i64 c.1, iel .u32 c.2]] [] (.frac p) [] [] := k3
    (repeat ((first | refine step_w1 rfl rfl ?_ | refine step_w2 rfl rfl ?_ | refine g_c (by assumption) ?_ | refine g_cn (by assumption) rfl ?_ | refine g_c1u (by assumption) rfl rfl ?_ | refine g_o (op_pickF rfl (ev_ok rfl) (ev_ok rfl)) ?_ | rw [bne_self_eq_false] | refine g_o (op_lenM rfl rfl rfl (ev_ok rfl) (tgt rfl) rfl) ?_ | refine g_o (op_loadA rfl (ev_ok rfl) (tgt rfl) rfl (Nat.succ_ne_zero _) rfl) ?_ | refine g_o (op_sliceM (f := iel .i64) (xs := [0, 0]) rfl (ev_ok rfl) (bound_spec rfl) (bound_spec rfl) (.inl rfl) (tgt rfl) rfl (tgt rfl) rfl (by simp; omega)) ?_ | rw [t3] | rw [e1] | rw [Int.toNat_natCast]); conv => whnf))
    generalize hpp : vpart x (([0, 0] : List Int).take (min 2 x.length)) = pp at *
    generalize hp2 : (([0, 0] : List Int).take (min 2 x.length)).length = p2 at *
    refine SW_loopN hE (fun k => k) [1, 2, 3, 7, 8, 9, 10, 12, 14, 16, 18] [3001, 3002, 3003, 3004] (fun m fr hp => ∃ (i : Nat) (s1 s2 s3 : List Rat), m = x.length - i ∧ i ≤ x.length ∧ s1.length = x.length ∧ s2.length = x.length ∧ s3.length = x.length ∧
      fr = [(1, mvec 2 qA a'), (2, mvec 2 qA b'), (3, ptrA [iel .i64 c.1, iel .u32 c.2]), (7, fvec x), (8, fvec y), (9, .val (.int .i64 (k : Nat))), (10, .slc 3001 5 0 x.length), (12, .slc 3002 5 0 x.length), (14, .slc 3003 5 0 x.length), (16, .slc 3004 5 0 p2), (18, .val (.int .i64 (i : Nat)))] ∧
      hp = [(3001, fblk s1), (3002, fblk s2), (3003, fblk s3), (3004, fblk pp)]) x.length ?_ ?_ ?_
    · kernel_rfl
    · exact ⟨0, _, _, _, rfl, Nat.zero_le _, l1, rfl, l2, rfl, rfl⟩
    rintro m _ _ ⟨i, s1, s2, s3, rfl, hi, g1, g2, g3, rfl, rfl⟩
    conv => whnf
    by_cases hlt2 : i < x.length
    · have t5 := dlt hlt2
      have t6 := winc (i := i) (by omega)
      (repeat ((first | refine step_w1 rfl rfl ?_ | refine And.intro (by first | decide | omega | (simp only [tiB5, tiB23, tiB3, tiB2, tiB9, tiB41, tiB72, tiB29, tiB30, tiB39, tiB33, tiB4, tiB68, tiB70, dlen, List.length_replicate, List.length_set, List.length_map, List.length_zipWith, List.length_take, List.length_append, List.length_cons, List.length_nil]; omega)) ?_ | refine g_c (by assumption) ?_ | refine g_o (op_lenM rfl rfl rfl (ev_ok rfl) (tgt rfl) rfl) ?_ | rw [t5] | rw [t6] | rw [Int.toNat_natCast] | rw [Nat.zero_add]); conv => whnf))
      exact ⟨x.length - (i + 1), fun k => k, [1, 2, 3, 7, 8, 9, 10, 12, 14, 16, 18], [3001, 3002, 3003, 3004], by omega, by kernel_rfl, i + 1, _, _, _, rfl, hlt2, (by rw [List.length_set]; exact g1), (by rw [List.length_set]; exact g2), (by rw [List.length_set]; exact g3), rfl, rfl⟩
    · have t5 := dge hlt2
      (repeat (first | (refine step_w2 rfl rfl ?_; conv => whnf) | (refine g_o (op_lenM rfl rfl rfl (ev_ok rfl) (tgt rfl) rfl) ?_; conv => whnf) | (rw [t5]; conv => whnf)))
      refine SW_loopN hE (fun k => k) [1, 2, 3, 7, 8, 9, 16, 19] [3004] (fun m fr hp => ∃ (i : Nat) (s1 : List Rat), m = p2 - i ∧ i ≤ p2 ∧ s1.length = p2 ∧
        fr = [(1, mvec 2 qA a'), (2, mvec 2 qA b'), (3, ptrA [iel .i64 c.1, iel .u32 c.2]), (7, fvec x), (8, fvec y), (9, .val (.int .i64 (k : Nat))), (16, .slc 3004 5 0 p2), (19, .val (.int .i64 (i : Nat)))] ∧
        hp = [(3004, fblk s1)]) p2 ?_ ?_ ?_
      · kernel_rfl
      · exact ⟨0, _, rfl, Nat.zero_le _, l3, rfl, rfl⟩
      rintro m _ _ ⟨i, s1, rfl, hi, g1, rfl, rfl⟩
      conv => whnf
      by_cases hlt3 : i < p2
      · have t7 := dlt hlt3
        have t8 := winc (i := i) (by omega)
        (repeat ((first | refine step_w1 rfl rfl ?_ | refine And.intro (by first | decide | omega | (simp only [tiB5, tiB23, tiB3, tiB2, tiB9, tiB41, tiB72, tiB29, tiB30, tiB39, tiB33, tiB4, tiB68, tiB70, dlen, List.length_replicate, List.length_set, List.length_map, List.length_zipWith, List.length_take, List.length_append, List.length_cons, List.length_nil]; omega)) ?_ | refine g_c (by assumption) ?_ | rw [t7] | rw [t8] | rw [Int.toNat_natCast] | rw [Nat.zero_add]); conv => whnf))
        exact ⟨p2 - (i + 1), fun k => k, [1, 2, 3, 7, 8, 9, 16, 19], [3004], by omega, by kernel_rfl, i + 1, _, rfl, hlt3, (by rw [List.length_set]; exact g1), rfl, rfl⟩
      · have t7 := dge hlt3
        (repeat (first | (refine step_w2 rfl rfl ?_; conv => whnf) | (rw [t7]; conv => whnf) | (rw [t4]; conv => whnf)))
        exact ⟨2 - (k + 1), fun k => k, [1, 2, 3, 7, 8, 9], [], by omega, by kernel_rfl, k + 1, rfl, hlt, rfl, rfl⟩
  · have t3 : decide ((k : Int) < 2) = false := decide_eq_false (by omega)
    (repeat ((first | refine step_w1 rfl rfl ?_ | refine step_w2 rfl rfl ?_ | refine g_c (by assumption) ?_ | refine g_o (op_pickT rfl (ev_ok rfl) (ev_ok rfl)) ?_ | rw [t3]); conv => whnf)); (first | exact Recast.refl _ | exact Frz.recast (Recast.refl _) rfl | (refine Frz.one rfl rfl ?_; skip) | (refine Frz.tup ?_; skip))

theorem law_VecsKeeps (a0 : Int × Int) (a1 a2 : List (Int × Int)) (w0 : ((Lit.int .i64 a0.1).wf = true) ∧ ((Lit.int .u32 a0.2).wf = true)) (w1 : QWf a1) (w2 : QWf a2) :
    CallOK Tryz.prog 10 [qA a0, mvec 2 qA a1, mvec 2 qA a2] [] (.val (.bool true)) [] [] :=
  c_Keeps a0 a1 a2 (qOK_one w0) (qOK_of w1) (qOK_of w2)
end Go.Proofs.YtgodfkgocbppgaaGreatDoor

namespace Go.Proofs.YtgodfkgocbppgaaGreatDoor.vecsKeeps
open Go.ChangeShapes Go.WideShapes Go.ChangeAt Go.RowKit Go.Sx
set_option maxRecDepth 100000
set_option linter.unusedSimpArgs false

theorem own : ownKnob Tryz.prog.godebug = none := by kernel_rfl
theorem laidOut : laidOutB Tryz.prog = true := by kernel_rfl
theorem params : Tryz.f10.params.toList.all (fun t => Tryz.prog.readableRec t && decide (t < Tryz.prog.types.size)) = true := by kernel_rfl
theorem gTab0 : Tryz.prog.globalNamed "math/bits.deBruijn32tab" = some 3 := by kernel_rfl
theorem gTabType0 : (Tryz.prog.globals[3]?).map (·.type) = some 207 := by kernel_rfl
theorem cellsA0 : Tryz.prog.cellsOf 207 = 32 := by kernel_rfl
theorem cellsE0 : Tryz.prog.cellsOf 5 = 1 := by kernel_rfl
theorem gTab1 : Tryz.prog.globalNamed "math/bits.deBruijn64tab" = some 4 := by kernel_rfl
theorem gTabType1 : (Tryz.prog.globals[4]?).map (·.type) = some 208 := by kernel_rfl
theorem cellsA1 : Tryz.prog.cellsOf 208 = 64 := by kernel_rfl
theorem cellsE1 : Tryz.prog.cellsOf 5 = 1 := by kernel_rfl
theorem gTab2 : Tryz.prog.globalNamed "internal/strconv.uint64pow10" = some 1 := by kernel_rfl
theorem gTabType2 : (Tryz.prog.globals[1]?).map (·.type) = some 203 := by kernel_rfl
theorem cellsA2 : Tryz.prog.cellsOf 203 = 20 := by kernel_rfl
theorem cellsE2 : Tryz.prog.cellsOf 33 = 1 := by kernel_rfl
/-- What the row's list gives: the tables' cells hold their numbers. -/
theorem table {W : World} (h : laidMetH Tryz.prog Rows.vecsKeepsRow.laid W) : ∀ g kd l, (g, kd, l) ∈ globTabs → l ≠ [] ∧ ∀ j x, l[j]? = some x → W.cell? ⟨g, j, none⟩ = some (.int kd x) := by
  intro g kd l hm
  have h0 : laidMet Tryz.prog Rows.vecsKeepsRow.laid W := h
  have ht0 : Lib.TabIs Tryz.prog W "math/bits.deBruijn32tab" .u8 [0, 1, 28, 2, 29, 14, 24, 3, 30, 22, 20, 15, 25, 17, 4, 8, 31, 27, 13, 23, 21, 19, 16, 7, 26, 12, 18, 6, 11, 5, 10, 9] := Lib.tabIs_of_head gTab0 gTabType0 Tryz.underlying207 Tryz.underlying5 cellsE0 cellsA0 h0
  have h1 := laid_tail h0
  have ht1 : Lib.TabIs Tryz.prog W "math/bits.deBruijn64tab" .u8 [0, 1, 56, 2, 57, 49, 28, 3, 61, 58, 42, 50, 38, 29, 17, 4, 62, 47, 59, 36, 45, 43, 51, 22, 53, 39, 33, 30, 24, 18, 12, 5, 63, 55, 48, 27, 60, 41, 37, 16, 46, 35, 44, 21, 52, 32, 23, 11, 54, 26, 40, 15, 34, 20, 31, 10, 25, 14, 19, 9, 13, 8, 7, 6] := Lib.tabIs_of_head gTab1 gTabType1 Tryz.underlying208 Tryz.underlying5 cellsE1 cellsA1 h1
  have h2 := laid_tail h1
  have ht2 : Lib.TabIs Tryz.prog W "internal/strconv.uint64pow10" .u64 [1, 10, 100, 1000, 10000, 100000, 1000000, 10000000, 100000000, 1000000000, 10000000000, 100000000000, 1000000000000, 10000000000000, 100000000000000, 1000000000000000, 10000000000000000, 100000000000000000, 1000000000000000000, 10000000000000000000] := Lib.tabIs_of_head gTab2 gTabType2 Tryz.underlying203 Tryz.underlying33 cellsE2 cellsA2 h2
  simp only [globTabs, List.mem_cons, List.not_mem_nil, or_false, Prod.mk.injEq] at hm
  rcases hm with ⟨rfl, rfl, rfl⟩ | ⟨rfl, rfl, rfl⟩ | ⟨rfl, rfl, rfl⟩
  · exact ⟨by simp, fun j x hx => by rw [ht0.cell gTab0 j (List.getElem?_eq_some_iff.1 hx).1, List.getD_eq_getElem?_getD, hx]; rfl⟩
  · exact ⟨by simp, fun j x hx => by rw [ht1.cell gTab1 j (List.getElem?_eq_some_iff.1 hx).1, List.getD_eq_getElem?_getD, hx]; rfl⟩
  · exact ⟨by simp, fun j x hx => by rw [ht2.cell gTab2 j (List.getElem?_eq_some_iff.1 hx).1, List.getD_eq_getElem?_getD, hx]; rfl⟩

/-- The contract, over values. -/
theorem called (a0 : (Int) × (Int)) (a1 : List ((Int) × (Int))) (a2 : List ((Int) × (Int))) (w0 : ((Lit.int .i64 a0.1).wf = true) ∧ ((Lit.int .u32 a0.2).wf = true)) (w1 : (a1).length ≤ maxLen ∧ ∀ x ∈ a1, ((Lit.int .i64 x.1).wf = true) ∧ ((Lit.int .u32 x.2).wf = true)) (w2 : (a2).length ≤ maxLen ∧ ∀ x ∈ a2, ((Lit.int .i64 x.1).wf = true) ∧ ((Lit.int .u32 x.2).wf = true)) : CallOK Tryz.prog 10 [(ag2 (iel .i64) (iel .u32)) a0, (mvec 2 (ag2 (iel .i64) (iel .u32))) a1, (mvec 2 (ag2 (iel .i64) (iel .u32))) a2] [] (.val (.bool true)) [] [] := law_VecsKeeps a0 a1 a2 w0 w1 w2

theorem contract (H : Type) (enc : TypeId × Value → H) (W : World) (base : Nat) (args : Array Value) (ds gs : List (DataW H)) (before : List MemPlace)
    (hval : ∀ (j : Nat) t v, Tryz.f10.params[j]? = some t → args[j]? = some v → Value.okWide Tryz.prog W .any base t v)
    (hW : DataW.Whole enc Tryz.prog Tryz.f10.params.toList Rows.vecsKeepsSpec.vars false W args.toList ds gs before) (hL : laidMetH Tryz.prog Rows.vecsKeepsRow.laid W) :
    Calls Tryz.prog 10 args W fun e W' => ∃ v, e = .returned v ∧ Rows.vecsKeepsSpec.post enc Tryz.prog Tryz.f10 false true false false W args v W' := by
  have hW' := hW
  obtain ⟨p, q, hA0, hV, rfl, hfz, hnd⟩ := hW
  have hA : DataW.TrodAll enc Tryz.prog W 0 (fun _ => true) true Tryz.f10.params.toList args.toList ds p := hA0
  rw [Tryz.params10] at hA hval
  obtain ⟨v0, vs0, d0, ds0, p0, q0, hargs, rfl, rfl, h0, r0⟩ := trodAll_cons hA
  obtain ⟨v1, vs1, d1, ds1, p1, q1, rfl, rfl, rfl, h1, r1⟩ := trodAll_cons r0
  obtain ⟨v2, vs2, d2, ds2, p2, q2, rfl, rfl, rfl, h2, r2⟩ := trodAll_cons r1
  obtain ⟨rfl, rfl, rfl⟩ := trodAll_nil r2
  obtain rfl : args = #[v0, v1, v2] := by cases args; simp_all
  obtain ⟨rfl, rfl⟩ := trodVars_none hV
  have hg := table hL
  obtain ⟨n0, t0⟩ := h0
  obtain ⟨a0, w0, c0⟩ := (show Opens enc Tryz.prog hg 25 (ag2 (iel .i64) (iel .u32)) (fun a => ((Lit.int .i64 a.1).wf = true) ∧ ((Lit.int .u32 a.2).wf = true)) from Opens.struct2 Tryz.underlying25 rfl (by kernel_rfl) (by kernel_rfl) (Opens.int Tryz.underlying2) (Opens.int Tryz.underlying23)) _ _ _ t0
  have e0 : mkV ((ag2 (iel .i64) (iel .u32)) a0) v0.cells.toList = v0 := by obtain ⟨cs, hc, _⟩ := okWide_struct Tryz.underlying25 (hval 0 25 v0 rfl rfl); exact mkV_agg rfl hc
  obtain ⟨n1, t1⟩ := h1
  obtain ⟨a1, w1, c1⟩ := (show Opens enc Tryz.prog hg 22 (mvec 2 (ag2 (iel .i64) (iel .u32))) (fun a => (a).length ≤ maxLen ∧ ∀ x ∈ a, ((Lit.int .i64 x.1).wf = true) ∧ ((Lit.int .u32 x.2).wf = true)) from Opens.slice (w := 2) Tryz.underlying22 (by kernel_rfl) (by decide) (fun _ => rfl) (Opens.struct2 Tryz.underlying25 rfl (by kernel_rfl) (by kernel_rfl) (Opens.int Tryz.underlying2) (Opens.int Tryz.underlying23))) _ _ _ t1
  have e1 : mkV ((mvec 2 (ag2 (iel .i64) (iel .u32))) a1) v1.cells.toList = v1 := by obtain ⟨_, _, _, rfl⟩ := okWide_slice Tryz.underlying22 (hval 1 22 v1 rfl rfl); exact mkV_one rfl (by simp [Value.cells])
  obtain ⟨n2, t2⟩ := h2
  obtain ⟨a2, w2, c2⟩ := (show Opens enc Tryz.prog hg 22 (mvec 2 (ag2 (iel .i64) (iel .u32))) (fun a => (a).length ≤ maxLen ∧ ∀ x ∈ a, ((Lit.int .i64 x.1).wf = true) ∧ ((Lit.int .u32 x.2).wf = true)) from Opens.slice (w := 2) Tryz.underlying22 (by kernel_rfl) (by decide) (fun _ => rfl) (Opens.struct2 Tryz.underlying25 rfl (by kernel_rfl) (by kernel_rfl) (Opens.int Tryz.underlying2) (Opens.int Tryz.underlying23))) _ _ _ t2
  have e2 : mkV ((mvec 2 (ag2 (iel .i64) (iel .u32))) a2) v2.cells.toList = v2 := by obtain ⟨_, _, _, rfl⟩ := okWide_slice Tryz.underlying22 (hval 2 22 v2 rfl rfl); exact mkV_one rfl (by simp [Value.cells])
  have hz : HasZ (allRho hg) [(ag2 (iel .i64) (iel .u32)) a0, (mvec 2 (ag2 (iel .i64) (iel .u32))) a1, (mvec 2 (ag2 (iel .i64) (iel .u32))) a2] [v0.cells.toList, v1.cells.toList, v2.cells.toList] := by simp only [HasZ]; exact ⟨_, _, rfl, c0, _, _, rfl, c1, _, _, rfl, c2, rfl⟩
  have hr := law_runA ⟨Tryz.f10, Tryz.func10, rfl, by kernel_rfl⟩ (called a0 a1 a2 w0 w1 w2) hg hz
  simp only [List.zipWith_cons_cons, List.zipWith_nil_left, List.zipWith_nil_right, e0, e1, e2] at hr
  refine hr.mono fun e W' ⟨he, hb⟩ => ?_
  subst he
  exact ⟨_, rfl, law_post laidOut params rfl rfl Tryz.underlying4 hW' ⟨rfl, rfl, rfl⟩ hb⟩

/-- A world for the witness: the settled one, the tables holding what their texts lay. -/
noncomputable def laidWorld (os : Os) : World :=
  { World.holding Tryz.prog os ⟨#[], #[], []⟩ with heap := ((World.holding Tryz.prog os ⟨#[], #[], []⟩).heap |>.modify 3 (fun | .cells _ t frozen => .cells #[.int .u8 0, .int .u8 1, .int .u8 28, .int .u8 2, .int .u8 29, .int .u8 14, .int .u8 24, .int .u8 3, .int .u8 30, .int .u8 22, .int .u8 20, .int .u8 15, .int .u8 25, .int .u8 17, .int .u8 4, .int .u8 8, .int .u8 31, .int .u8 27, .int .u8 13, .int .u8 23, .int .u8 21, .int .u8 19, .int .u8 16, .int .u8 7, .int .u8 26, .int .u8 12, .int .u8 18, .int .u8 6, .int .u8 11, .int .u8 5, .int .u8 10, .int .u8 9] t frozen | o => o) |>.modify 4 (fun | .cells _ t frozen => .cells #[.int .u8 0, .int .u8 1, .int .u8 56, .int .u8 2, .int .u8 57, .int .u8 49, .int .u8 28, .int .u8 3, .int .u8 61, .int .u8 58, .int .u8 42, .int .u8 50, .int .u8 38, .int .u8 29, .int .u8 17, .int .u8 4, .int .u8 62, .int .u8 47, .int .u8 59, .int .u8 36, .int .u8 45, .int .u8 43, .int .u8 51, .int .u8 22, .int .u8 53, .int .u8 39, .int .u8 33, .int .u8 30, .int .u8 24, .int .u8 18, .int .u8 12, .int .u8 5, .int .u8 63, .int .u8 55, .int .u8 48, .int .u8 27, .int .u8 60, .int .u8 41, .int .u8 37, .int .u8 16, .int .u8 46, .int .u8 35, .int .u8 44, .int .u8 21, .int .u8 52, .int .u8 32, .int .u8 23, .int .u8 11, .int .u8 54, .int .u8 26, .int .u8 40, .int .u8 15, .int .u8 34, .int .u8 20, .int .u8 31, .int .u8 10, .int .u8 25, .int .u8 14, .int .u8 19, .int .u8 9, .int .u8 13, .int .u8 8, .int .u8 7, .int .u8 6] t frozen | o => o) |>.modify 1 (fun | .cells _ t frozen => .cells #[.int .u64 1, .int .u64 10, .int .u64 100, .int .u64 1000, .int .u64 10000, .int .u64 100000, .int .u64 1000000, .int .u64 10000000, .int .u64 100000000, .int .u64 1000000000, .int .u64 10000000000, .int .u64 100000000000, .int .u64 1000000000000, .int .u64 10000000000000, .int .u64 100000000000000, .int .u64 1000000000000000, .int .u64 10000000000000000, .int .u64 100000000000000000, .int .u64 1000000000000000000, .int .u64 10000000000000000000] t frozen | o => o)) }
theorem laid_met (os : Os) : laidMet Tryz.prog Rows.vecsKeepsRow.laid ((laidWorld os).forCall (fun _ _ => 0) ⟨#[], #[.agg #[.int .i64 0, .int .u32 0], .slice none 0 0, .slice none 0 0], []⟩).memory :=
  laidMet_of_run' 8 (by kernel_rfl) (by kernel_rfl)
theorem reads (os : Os) {H : Type} (enc : TypeId × Value → H) : ∃ places, DataW.whole enc Tryz.prog ((laidWorld os).forCall (fun _ _ => 0) ⟨#[], #[.agg #[.int .i64 0, .int .u32 0], .slice none 0 0, .slice none 0 0], []⟩).memory Tryz.f10.params.toList Rows.vecsKeepsSpec.vars false #[.agg #[.int .i64 0, .int .u32 0], .slice none 0 0, .slice none 0 0].toList 8 = some ([.agg [.lit (.int .i64 0), .lit (.int .u32 0)], .nil, .nil], [], places) :=
  ⟨[], by kernel_rfl⟩

theorem lifted (os : Os) (started : os.Started) (H : Type) (enc : TypeId × Value → H) (F : Stop.Interp) :
    ReturnsInHanded {} Tryz.checked os 10 .any ((OpenSpec.ofChange Rows.vecsKeepsSpec).preRow enc Tryz.prog Tryz.f10 Rows.vecsKeepsRow.domain false Rows.vecsKeepsRow.laid) (((OpenSpec.ofChange Rows.vecsKeepsSpec).at F).post enc Tryz.prog Tryz.f10 false true false false) := by
  obtain ⟨places, hx⟩ := reads os enc
  refine returnsInHanded_of_row (C := Tryz.checked) (s := OpenSpec.ofChange Rows.vecsKeepsSpec) own started (by kernel_rfl) Tryz.func10
    (witness_row_at (enc := enc) (C := Tryz.checked) false (laidWorld os) #[.agg #[.int .i64 0, .int .u32 0], .slice none 0 0, .slice none 0 0] rfl (by kernel_rfl) (by kernel_rfl) (by kernel_rfl)
      (OpenSpec.preRow_of_cond 8 hx (by kernel_rfl) (fun k hk => by cases hk) (by kernel_rfl) (laid_met os))) ?_
  intro W base args ds gs before hval hW _ _ _ hL _ _
  exact contract H enc W base args ds gs before hval hW hL

theorem said : Rows.VecsKeepsSaid :=
  OpenClaim.holds_of_cond 10 Tryz.f10 rfl rfl rfl rfl rfl rfl rfl ⟨rfl, rfl, rfl, rfl, rfl⟩ rfl rfl rfl rfl rfl (by kernel_rfl) Tryz.func10 (by kernel_rfl)
    (of_decide_eq_true (by kernel_rfl)) (by unfold Func.isWrapper; first | (rw [if_pos (by decide +kernel)]; kernel_rfl) | (rw [if_neg (by decide +kernel)]; exact ⟨rfl, rfl⟩))
    (fun os started H enc _ F => by rw [OpenClaim.pre_eq_preRow]; exact lifted os started H enc F)

/-- No parameter wants a stand-in; the program's own looks are off. -/
theorem plain (f : FuncId) (fn : Func) (hf : Tryz.pinned.checked.prog.funcNamed "gusset/gussetlaw12.VecsKeeps" = some f) (hfn : Tryz.pinned.checked.prog.funcs[f]? = some fn) :
    false = Tryz.pinned.checked.prog.looks [] ∧ ∀ (j : Nat) t, fn.params[j]? = some t → Tryz.pinned.checked.prog.wantsStandIn t = false := by
  obtain rfl : f = 10 := Option.some.inj ((show Tryz.prog.funcNamed "gusset/gussetlaw12.VecsKeeps" = some 10 by kernel_rfl).symm.trans hf) |>.symm
  obtain rfl : fn = Tryz.f10 := (Option.some.inj (Tryz.func10.symm.trans hfn)).symm
  refine ⟨by kernel_rfl, fun j t ht => ?_⟩
  have hall : (Tryz.f10.params.toList.all fun t => !Tryz.prog.wantsStandIn t) = true := by kernel_rfl
  have := List.all_eq_true.1 hall t (by simpa using Array.mem_of_getElem? ht)
  exact (show Tryz.prog.wantsStandIn t = false by simpa using this)

/-- The card. -/
theorem card : Rows.VecsKeepsCardSaid :=
  Claim7.holds_tied_plain_at .later [] _ _ _ _ said (fun _ h => by cases h) (by kernel_rfl) (fun _ h => by cases h) vecsKeeps_row_tie rfl ⟨rfl, rfl⟩ (by kernel_rfl) rfl plain (by kernel_rfl)
#print axioms card
end Go.Proofs.YtgodfkgocbppgaaGreatDoor.vecsKeeps
