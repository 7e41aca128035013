/- ShapesMade returns true for every input and leaves its arguments as they were: the row, and the card that ties its tables to the program's text. -/
import Derived.Shelf.Strings.Builder1
import Derived.Shelf.Strings.Builder2
import Derived.Shelf.Strings.OnBuilder
import Derived.Shelf.Small.Bits
import Derived.Shelf.Strings.BuilderF
import Derived.Shelf.Strings.Builder2Cap
import Derived.Shelf.Strconv.Itoa0
import Derived.Shelf.Strconv.Itoa1
import Derived.Shelf.LaysM
import Derived.Shelf.Strconv.Itoa2
import Derived.Shelf.Strconv.Itoa3
import Derived.Shelf.Strings.Prefix
import Derived.Shelf.Bits.Mul64
import Derived.Shelf.Strings.Repeat
import Derived.Ground.Names2Prog
import Derived.Shelf.Slices.ReverseS
import Derived.Shelf.Slices.Cells
import Derived.Test.YtdcaodkjofkmgaaGreatDoorProg
import Derived.Lib.Walk
import Derived.Lib.ItoaMem
import Derived.Lib.AppendIntMem
import Derived.WalkKit
import Derived.BigCall
import Derived.BigGuard
import Derived.Lib.LaidTab
import Derived.WideShapes
import Derived.Test.YtdcaodkjofkmgaaGreatDoorCards
import Derived.Test.YtdcaodkjofkmgaaGreatDoorTie
import Derived.ProofKit
import Derived.OpenShut
import Derived.Deep.DeepHandedRow
import Derived.Test.YtdcaodkjofkmgaaGreatDoorQLShapesMade4
namespace Go.Proofs.YtdcaodkjofkmgaaGreatDoor
open Go.Sx
set_option linter.unusedSimpArgs false
set_option linter.unusedVariables false
set_option maxRecDepth 100000
set_option maxHeartbeats 4000000

def errF (o n : Int) : Int := if thereF o n then 0 else 1
theorem c_Powers (o n : Int) : CallOK Tryz.prog 33 [.val (.int .i64 o), .val (.int .i64 n)] [] (.tup [mvec 8 Pw.sv (powersF o n), .val (.int .i64 (errF o n))]) [] [] := by
  cases h : thereF o n with
  | true =>
    rw [show errF o n = 0 from by simp [errF, h]]
    exact c_PowersYes o n h
  | false =>
    rw [show errF o n = 1 from by simp [errF, h], show powersF o n = [] from by simp [powersF, h]]
    exact c_PowersNo o n h
theorem unitP_ok {c : Int} (h0 : -100 ≤ c) (h1 : c ≤ 100) {l : List Int} (hl : l.length ≤ 2) : (unitP c l).i ≤ 2 ∧ (unitP c l).j ≤ 2 ∧ (unitP c l).k ≤ 2 ∧ fs (unitP c l).c ≤ 65 := by
  have a0 := List.count_le_length (a := 0) (l := l)
  have a1 := List.count_le_length (a := 1) (l := l)
  have a2 := List.count_le_length (a := 2) (l := l)
  exact ⟨by unfold unitP; simp only; omega, by unfold unitP; simp only; omega, by unfold unitP; simp only; omega, fs_int (by omega) (by omega)⟩
theorem ends_len (n : Int) : (endsF n).length ≤ 2 := by unfold endsF; split <;> simp
theorem powersF_small (o n : Int) : (powersF o n).length ≤ 2 ∧ ∀ p ∈ powersF o n, p.i ≤ 2 ∧ p.j ≤ 2 ∧ p.k ≤ 2 ∧ fs p.c ≤ 65 := by
  unfold powersF
  split
  · split
    · refine ⟨by simp, fun p hp => ?_⟩
      simp only [List.mem_singleton] at hp
      subst hp; exact unitP_ok (by decide) (by decide) (by simp)
    · split
      · refine ⟨by simp, fun p hp => ?_⟩
        simp only [List.mem_cons, List.not_mem_nil, or_false] at hp
        rcases hp with rfl | rfl <;> exact unitP_ok (by decide) (by decide) (by simp)
      · refine ⟨by simp, fun p hp => ?_⟩
        simp only [List.mem_singleton] at hp
        subst hp; exact unitP_ok (by decide) (by decide) (ends_len n)
  · exact ⟨by simp, fun p hp => by cases hp⟩
theorem powersF_ok (o n : Int) : ∀ p ∈ powersF o n, p.ok := fun p hp => by
  have := (powersF_small o n).2 p hp
  exact ⟨by omega, by omega, by omega, by omega⟩
theorem slope_small (b : Nat) (l : List Pw) (h : ∀ p ∈ l, p.i ≤ 2 ∧ p.j ≤ 2 ∧ p.k ≤ 2 ∧ fs p.c ≤ 65) : (slopeL b l).length ≤ l.length ∧ ∀ p ∈ slopeL b l, p.i ≤ 2 ∧ p.j ≤ 2 ∧ p.k ≤ 2 ∧ fs p.c ≤ 130 := by
  refine ⟨by unfold slopeL; rw [List.length_map]; exact List.length_filter_le _ _, fun p hp => ?_⟩
  obtain ⟨q, hq, rfl⟩ := List.mem_map.1 hp
  obtain ⟨h1, h2, h3, h4⟩ := h q (List.mem_filter.1 hq).1
  have g : ∀ e : Nat, e ≤ 2 → fs (q.c * (((e : Nat) : Int) : Rat)) ≤ 130 := fun e he => by
    have := fs_mul q.c (((e : Nat) : Int) : Rat)
    have := fs_int (n := ((e : Nat) : Int)) (by omega) (by omega)
    omega
  unfold slopeP
  split <;> exact ⟨by simp only; omega, by simp only; omega, by simp only; omega, g _ (by omega)⟩
theorem slope_ok (b : Nat) (o n : Int) : ∀ p ∈ slopeL b (powersF o n), p.ok := fun p hp => by
  have := (slope_small b _ (powersF_small o n).2).2 p hp
  exact ⟨by omega, by omega, by omega, by omega⟩
theorem slope_len (b : Nat) (o n : Int) : (slopeL b (powersF o n)).length ≤ 2 := Nat.le_trans (slope_small b _ (powersF_small o n).2).1 (powersF_small o n).1

theorem c_Value (o n : Int) (a b c : Rat) (B : Nat) (hB : B ≤ 100000) (ha : fs a ≤ B) (hb : fs b ≤ B) (hc : fs c ≤ B) :
    CallOK Tryz.prog 11 [.val (.int .i64 o), .val (.int .i64 n), .agg [.frac a, .frac b, .frac c]] [] (.tup [.frac (atF (powersF o n) a b c), .val (.int .i64 (errF o n))]) [] [] := by
  have k1 := c_Powers o n
  have hl := (powersF_small o n).1
  have hL := powersF_ok o n
  generalize powersF o n = l at *
  generalize errF o n = e at *
  have k2 := c_Values l
  have k3 := c_atV l (by omega) hL [mvec 8 Pw.sv l] a b c B hB ha hb hc (it_Values l (by omega))
  refine callV (Z := [5]) tabOK mixedOK Tryz.func11 rfl (by kernel_rfl) rfl rfl (by kernel_rfl) rfl ?_
  intro W0 w0 ρ0 hE
  conv => whnf
  (repeat (first | (refine step_i (by kernel_rfl) ?_; conv => whnf) | (refine g_c (by assumption) ?_; conv => whnf) | (refine g_o (op_loadA rfl (ev_ok rfl) (tgt rfl) rfl (Nat.succ_ne_zero _) rfl) ?_; conv => whnf)))
  exact Recast.refl _

theorem c_Slopes (o n : Int) (a b c : Rat) (B : Nat) (hB : B ≤ 100000) (ha : fs a ≤ B) (hb : fs b ≤ B) (hc : fs c ≤ B) :
    CallOK Tryz.prog 13 [.val (.int .i64 o), .val (.int .i64 n), .agg [.frac a, .frac b, .frac c]] []
      (.tup [.agg [.frac (atF (slopeL 0 (powersF o n)) a b c), .frac (atF (slopeL 1 (powersF o n)) a b c), .frac (atF (slopeL 2 (powersF o n)) a b c)], .val (.int .i64 (errF o n))]) [] [] := by
  have k1 := c_Powers o n
  have hl := (powersF_small o n).1
  have hL := powersF_ok o n
  have m0 := slope_len 0 o n
  have m1 := slope_len 1 o n
  have m2 := slope_len 2 o n
  have o0 := slope_ok 0 o n
  have o1 := slope_ok 1 o n
  have o2 := slope_ok 2 o n
  generalize powersF o n = l at *
  generalize errF o n = e at *
  have s0 := c_slope l 0
  have s1 := c_slope l 1
  have s2 := c_slope l 2
  have q0 := c_atS (slopeL 0 l) (by omega) o0 [mvec 8 Pw.sv l] [.val (.int .i64 0)] a b c B hB ha hb hc (it_slope0 l (by omega) hL)
  have q1 := c_atS (slopeL 1 l) (by omega) o1 [mvec 8 Pw.sv l] [.val (.int .i64 1)] a b c B hB ha hb hc (it_slope1 l (by omega) hL)
  have q2 := c_atS (slopeL 2 l) (by omega) o2 [mvec 8 Pw.sv l] [.val (.int .i64 2)] a b c B hB ha hb hc (it_slope2 l (by omega) hL)
  generalize atF (slopeL 0 l) a b c = d0 at *
  generalize atF (slopeL 1 l) a b c = d1 at *
  generalize atF (slopeL 2 l) a b c = d2 at *
  refine callV (Z := [5]) tabOK mixedOK Tryz.func13 rfl (by kernel_rfl) rfl rfl (by kernel_rfl) rfl ?_
  intro W0 w0 ρ0 hE
  conv => whnf
  (repeat (first | (refine g_c (by assumption) ?_; conv => whnf)))
  refine SW_loopN hE (fun k => k) [5, 6, 7, 8, 16] [6] (fun m fr hp => ∃ (r : Nat) (x0 x1 x2 : Rat), m = 3 - r ∧ r ≤ 3 ∧ ((0 < r → x0 = d0) ∧ (1 < r → x1 = d1) ∧ (2 < r → x2 = d2)) ∧ fr = [(5, ptrA [.frac a, .frac b, .frac c]), (6, .ptr 6 0 0 0), (7, .val (.int .i64 e)), (8, mvec 8 Pw.sv l), (16, .val (.int .i64 (r : Int)))] ∧
    hp = [(6, ⟨40, true, .one [.frac x0, .frac x1, .frac x2]⟩)]) 3 ?_ ?_ ?_
  · kernel_rfl
  · exact ⟨0, 0, 0, 0, rfl, by decide, ⟨fun h => by omega, fun h => by omega, fun h => by omega⟩, rfl, rfl⟩
  rintro m _ _ ⟨r, x0, x1, x2, rfl, hr, ⟨g0, g1, g2⟩, rfl, rfl⟩
  obtain rfl | rfl | rfl | rfl : r = 0 ∨ r = 1 ∨ r = 2 ∨ r = 3 := by omega
  · have t0 : decide (((0 : Nat) : Int) < 3) = true := by decide
    have t4 := winc (i := 0) (by decide)
    conv => whnf
    (repeat ((first | refine step_w1 rfl rfl ?_ | refine step_i (by kernel_rfl) ?_ | refine And.intro (by first | decide | omega | (simp only [tiB5, tiB23, tiB3, tiB2, tiB9, tiB36, tiB54, tiB121, tiB34, tiB28, tiB4, tiB50, tiB52, dlen, List.length_replicate, List.length_set, List.length_map, List.length_zipWith, List.length_take, List.length_append, List.length_cons, List.length_nil]; omega)) ?_ | refine g_c (by assumption) ?_ | refine g_o (op_loadA rfl (ev_ok rfl) (tgt rfl) rfl (Nat.succ_ne_zero _) rfl) ?_ | rw [t0] | rw [t4] | rw [Int.toNat_natCast] | rw [Nat.zero_add]); conv => whnf))
    exact ⟨2, fun k => k, [5, 6, 7, 8, 16], [6], by decide, by kernel_rfl, 1, _, _, _, rfl, by decide, ⟨fun _ => rfl, fun h => by omega, fun h => by omega⟩, rfl, rfl⟩
  · have t0 : decide (((1 : Nat) : Int) < 3) = true := by decide
    have t4 := winc (i := 1) (by decide)
    conv => whnf
    (repeat ((first | refine step_w1 rfl rfl ?_ | refine step_i (by kernel_rfl) ?_ | refine And.intro (by first | decide | omega | (simp only [tiB5, tiB23, tiB3, tiB2, tiB9, tiB36, tiB54, tiB121, tiB34, tiB28, tiB4, tiB50, tiB52, dlen, List.length_replicate, List.length_set, List.length_map, List.length_zipWith, List.length_take, List.length_append, List.length_cons, List.length_nil]; omega)) ?_ | refine g_c (by assumption) ?_ | refine g_o (op_loadA rfl (ev_ok rfl) (tgt rfl) rfl (Nat.succ_ne_zero _) rfl) ?_ | rw [t0] | rw [t4] | rw [Int.toNat_natCast] | rw [Nat.zero_add]); conv => whnf))
    exact ⟨1, fun k => k, [5, 6, 7, 8, 16], [6], by decide, by kernel_rfl, 2, _, _, _, rfl, by decide, ⟨fun _ => g0 (by decide), fun _ => rfl, fun h => by omega⟩, rfl, rfl⟩
  · have t0 : decide (((2 : Nat) : Int) < 3) = true := by decide
    have t4 := winc (i := 2) (by decide)
    conv => whnf
    (repeat ((first | refine step_w1 rfl rfl ?_ | refine step_i (by kernel_rfl) ?_ | refine And.intro (by first | decide | omega | (simp only [tiB5, tiB23, tiB3, tiB2, tiB9, tiB36, tiB54, tiB121, tiB34, tiB28, tiB4, tiB50, tiB52, dlen, List.length_replicate, List.length_set, List.length_map, List.length_zipWith, List.length_take, List.length_append, List.length_cons, List.length_nil]; omega)) ?_ | refine g_c (by assumption) ?_ | refine g_o (op_loadA rfl (ev_ok rfl) (tgt rfl) rfl (Nat.succ_ne_zero _) rfl) ?_ | rw [t0] | rw [t4] | rw [Int.toNat_natCast] | rw [Nat.zero_add]); conv => whnf))
    exact ⟨0, fun k => k, [5, 6, 7, 8, 16], [6], by decide, by kernel_rfl, 3, _, _, _, rfl, by decide, ⟨fun _ => g0 (by decide), fun _ => g1 (by decide), fun _ => rfl⟩, rfl, rfl⟩
  · have t0 : decide (((3 : Nat) : Int) < 3) = false := by decide
    conv => whnf
    rw [g0 (by decide), g1 (by decide), g2 (by decide)]
    (repeat (first | (refine step_w2 rfl rfl ?_; conv => whnf)))
    exact Recast.refl _
end Go.Proofs.YtdcaodkjofkmgaaGreatDoor

namespace Go.Proofs.YtdcaodkjofkmgaaGreatDoor
open Go.Sx
set_option linter.unusedSimpArgs false
set_option linter.unusedVariables false
set_option maxRecDepth 100000
set_option maxHeartbeats 4000000

def mulUp (v : Rat) : Nat → Rat
  | 0 => v
  | m + 1 => mulUp v m * (((m + 1 : Nat) : Int) : Rat)
def divDown (v : Rat) : Nat → Rat
  | 0 => v
  | m + 1 => divDown v m / (((m + 1 : Nat) : Int) : Rat)
def ratioF (n : Nat) (l : List Nat) : Rat := divDown (l.foldl mulUp 1) n
theorem fs_nat {n : Nat} (h : n ≤ 1000) : fs (((n : Nat) : Int) : Rat) ≤ 65 := fs_int (by omega) (by omega)
theorem fs_mulUp (v : Rat) : ∀ m, m ≤ 100 → fs (mulUp v m) ≤ fs v + m * 65
  | 0, _ => by simp [mulUp]
  | m + 1, h => by
    have h1 := fs_mulUp v m (by omega)
    have h2 := fs_mul (mulUp v m) (((m + 1 : Nat) : Int) : Rat)
    have h3 := fs_nat (n := m + 1) (by omega)
    rw [mulUp, Nat.succ_mul]; omega
theorem fs_divDown (v : Rat) : ∀ m, m ≤ 100 → fs (divDown v m) ≤ fs v + m * 65
  | 0, _ => by simp [divDown]
  | m + 1, h => by
    have h1 := fs_divDown v m (by omega)
    have h2 := fs_div (divDown v m) (((m + 1 : Nat) : Int) : Rat)
    have h3 := fs_nat (n := m + 1) (by omega)
    rw [divDown, Nat.succ_mul]; omega
theorem fs_mulUps : ∀ (l : List Nat) (v : Rat), (∀ m ∈ l, m ≤ 100) → fs (l.foldl mulUp v) ≤ fs v + l.length * 6500
  | [], v, _ => by simp
  | m :: l, v, h => by
    have h1 := fs_mulUps l (mulUp v m) (fun x hx => h x (List.mem_cons_of_mem _ hx))
    have h2 := fs_mulUp v m (h m (List.mem_cons_self ..))
    have h3 := Nat.mul_le_mul_right 65 (h m (List.mem_cons_self ..))
    rw [List.foldl_cons, List.length_cons, Nat.succ_mul]; omega
theorem foldN (f : Rat → Nat → Rat) (l : List Nat) (i : Nat) (hi : i < l.length) (s : Rat) : (l.take (i + 1)).foldl f s = f ((l.take i).foldl f s) (l.getD i 0) := by
  rw [List.take_add_one, List.getD_eq_getElem?_getD, List.getElem?_eq_getElem hi, List.foldl_append]; rfl

theorem c_ratio (n : Nat) (hn : n ≤ 100) (l : List Nat) (hl : l.length ≤ 10) (hb : ∀ m ∈ l, m ≤ 100) :
    CallOK Tryz.prog 116 [.val (.int .i64 (n : Nat)), mvec 1 (fun m : Nat => .val (.int .i64 (m : Nat))) l] [] (.frac (ratioF n l)) [] [] := by
  have k0 := c_fInt 1 (by decide) (by decide)
  refine callV (Z := []) tabOK mixedOK Tryz.func116 rfl (by kernel_rfl) rfl rfl (by kernel_rfl) rfl ?_
  intro W0 w0 ρ0 hE
  conv => whnf
  (repeat (first | (refine g_c (by assumption) ?_; conv => whnf) | (refine g_o (op_lenM rfl rfl rfl (ev_ok rfl) (tgt rfl) rfl) ?_; conv => whnf)))
  refine SW_loopN hE (fun k => k) [0, 4, 5, 11, 12, 13] [4, 5] (fun m fr hp => ∃ i, m = l.length - i ∧ i ≤ l.length ∧ fr = [(0, .val (.int .i64 (n : Nat))), (4, .ptr 4 0 0 0), (5, .ptr 5 0 0 0), (11, mvec 1 (fun m : Nat => .val (.int .i64 (m : Nat))) l), (12, .val (.int .i64 (l.length : Nat))), (13, .val (.int .i64 (i : Nat)))] ∧
    hp = [(4, fb 0), (5, fb ((l.take i).foldl mulUp 1))]) l.length ?_ ?_ ?_
  · kernel_rfl
  · exact ⟨0, rfl, Nat.zero_le _, rfl, rfl⟩
  rintro m _ _ ⟨i, rfl, hi, rfl, rfl⟩
  conv => whnf
  by_cases hlt : i < l.length
  · have t1 := dlt hlt
    have t2 := winc (i := i) (by omega)
    have hm := hb (l.getD i 0) (by rw [List.getD_eq_getElem?_getD, List.getElem?_eq_getElem hlt]; exact List.getElem_mem hlt)
    have hs := fs_mulUps (l.take i) 1 (fun x hx => hb x (List.mem_of_mem_take hx))
    have hs2 : (l.take i).length * 6500 ≤ 10 * 6500 := Nat.mul_le_mul_right _ (by rw [List.length_take]; omega)
    rw [fs_one] at hs
    have hf := foldN mulUp l i hlt 1
    generalize (l.take i).foldl mulUp 1 = V at *
    (repeat ((first | refine step_w1 rfl rfl ?_ | refine g_o (op_loadA rfl (ev_ok rfl) (tgt rfl) rfl (Nat.succ_ne_zero _) rfl) ?_ | refine g_o (op_indexN (α := Nat) (d := 0) rfl (ev_ok rfl) (ev_ok rfl) (tgt rfl) rfl (tgt rfl) rfl (by omega)) ?_ | rw [t1]); conv => whnf))
    generalize l.getD i 0 = q at *
    refine SW_loopN hE (fun k => k) [0, 4, 5, 7, 11, 12, 13, 17, 18] [4, 5] (fun m fr hp => ∃ r, m = q - r ∧ r ≤ q ∧ fr = [(0, .val (.int .i64 (n : Nat))), (4, .ptr 4 0 0 0), (5, .ptr 5 0 0 0), (7, .val (.int .i64 (q : Nat))), (11, mvec 1 (fun m : Nat => .val (.int .i64 (m : Nat))) l), (12, .val (.int .i64 (l.length : Nat))), (13, .val (.int .i64 (i : Nat))), (17, .val (.int .i64 (q : Nat))), (18, .val (.int .i64 (r : Nat)))] ∧
      hp = [(4, fb 0), (5, fb (mulUp V r))]) q ?_ ?_ ?_
    · kernel_rfl
    · exact ⟨0, rfl, Nat.zero_le _, rfl, rfl⟩
    rintro m _ _ ⟨r, rfl, hr, rfl, rfl⟩
    conv => whnf
    by_cases hlt2 : r < q
    · have t3 := dlt hlt2
      have t4 := winc (i := r) (by omega)
      have hv := fs_mulUp V r (by omega)
      have hi3 := fs_nat (n := r + 1) (by omega)
      have k1 := c_fInt ((r + 1 : Nat) : Int) (by omega) (by omega)
      have k2 := f_Mul (mulUp V r) (((r + 1 : Nat) : Int) : Rat) (by omega)
      (repeat ((first | refine step_w1 rfl rfl ?_ | refine step_i (by kernel_rfl) ?_ | refine g_c (by assumption) ?_ | rw [t3] | rw [t4]); conv => whnf))
      exact ⟨q - (r + 1), fun k => k, [0, 4, 5, 7, 11, 12, 13, 17, 18], [4, 5], by omega, by kernel_rfl, r + 1, rfl, hlt2, rfl, rfl⟩
    · have t3 := dge hlt2
      have hR : r = q := by omega
      subst hR
      (repeat (first | (refine step_w2 rfl rfl ?_; conv => whnf) | (rw [t3]; conv => whnf) | (rw [t2]; conv => whnf)))
      exact ⟨l.length - (i + 1), fun k => k, [0, 4, 5, 11, 12, 13], [4, 5], by omega, by kernel_rfl, i + 1, rfl, hlt, rfl, by rw [hf]; rfl⟩
  · have t1 := dge hlt
    have hI : i = l.length := by omega
    subst hI
    have hs := fs_mulUps l 1 hb
    rw [fs_one] at hs
    rw [List.take_length]
    unfold ratioF
    generalize l.foldl mulUp 1 = V at *
    (repeat (first | (refine step_w2 rfl rfl ?_; conv => whnf) | (rw [t1]; conv => whnf)))
    refine SW_loopN hE (fun k => k) [4, 5, 28, 29] [4, 5] (fun m fr hp => ∃ r, m = n - r ∧ r ≤ n ∧ fr = [(4, .ptr 4 0 0 0), (5, .ptr 5 0 0 0), (28, .val (.int .i64 (n : Nat))), (29, .val (.int .i64 (r : Nat)))] ∧
      hp = [(4, fb 0), (5, fb (divDown V r))]) n ?_ ?_ ?_
    · kernel_rfl
    · exact ⟨0, rfl, Nat.zero_le _, rfl, rfl⟩
    rintro m _ _ ⟨r, rfl, hr, rfl, rfl⟩
    conv => whnf
    by_cases hlt2 : r < n
    · have t3 := dlt hlt2
      have t4 := winc (i := r) (by omega)
      have hv := fs_divDown V r (by omega)
      have hi3 := fs_nat (n := r + 1) (by omega)
      have hl2 : l.length * 6500 ≤ 10 * 6500 := Nat.mul_le_mul_right _ hl
      have k1 := c_fInt ((r + 1 : Nat) : Int) (by omega) (by omega)
      have k2 := f_Div (divDown V r) (((r + 1 : Nat) : Int) : Rat) (by
        intro h0
        have : ((r + 1 : Nat) : Int) = 0 := by exact_mod_cast h0
        omega) (by omega)
      (repeat ((first | refine step_w1 rfl rfl ?_ | refine step_i (by kernel_rfl) ?_ | refine g_c (by assumption) ?_ | rw [t3] | rw [t4]); conv => whnf))
      exact ⟨n - (r + 1), fun k => k, [4, 5, 28, 29], [4, 5], by omega, by kernel_rfl, r + 1, rfl, hlt2, rfl, rfl⟩
    · have t3 := dge hlt2
      have hR : r = n := by omega
      subst hR
      (repeat (first | (refine step_w2 rfl rfl ?_; conv => whnf) | (rw [t3]; conv => whnf)))
      exact Recast.refl _

def momF (i j k : Nat) : Rat := ((2 : Int) : Rat) * ratioF (i + j + k + 2) [i, j, k]
theorem wadd {a b : Nat} (h : a + b < 4611686018427387904) : IntKind.i64.wrap ((a : Int) + (b : Int)) = ((a + b : Nat) : Int) := by rw [wrap_i64 (by omega) (by omega)]; omega
theorem wadd2 {a : Nat} (h : a < 4611686018427387904) : IntKind.i64.wrap ((a : Int) + 2) = ((a + 2 : Nat) : Int) := by rw [wrap_i64 (by omega) (by omega)]; omega
theorem fs_ratio {n : Nat} (hn : n ≤ 100) {l : List Nat} (hl : l.length ≤ 10) (hb : ∀ m ∈ l, m ≤ 100) : fs (ratioF n l) ≤ 80000 := by
  have h1 := fs_divDown (l.foldl mulUp 1) n hn
  have h2 := fs_mulUps l 1 hb
  have h3 : l.length * 6500 ≤ 10 * 6500 := Nat.mul_le_mul_right _ hl
  rw [fs_one] at h2
  unfold ratioF; omega
theorem c_Moment (i j k : Nat) (hi : i ≤ 20) (hj : j ≤ 20) (hk : k ≤ 20) :
    CallOK Tryz.prog 81 [.val (.int .i64 (i : Nat)), .val (.int .i64 (j : Nat)), .val (.int .i64 (k : Nat))] [] (.frac (momF i j k)) [] [] := by
  have k0 := c_fInt 2 (by decide) (by decide)
  have hb : ∀ m ∈ [i, j, k], m ≤ 100 := by intro m hm; simp only [List.mem_cons, List.not_mem_nil, or_false] at hm; omega
  have k1 := c_ratio (i + j + k + 2) (by omega) [i, j, k] (by simp) hb
  have h1 := fs_ratio (n := i + j + k + 2) (by omega) (l := [i, j, k]) (by simp) hb
  have k2 := f_Mul ((2 : Int) : Rat) (ratioF (i + j + k + 2) [i, j, k]) (by have := fs_int (n := 2) (by decide) (by decide); omega)
  have t1 := wadd (a := i) (b := j) (by omega)
  have t2 := wadd (a := i + j) (b := k) (by omega)
  have t3 := wadd2 (a := i + j + k) (by omega)
  unfold momF
  generalize ratioF (i + j + k + 2) [i, j, k] = R at *
  refine callV (Z := [34]) tabOK mixedOK Tryz.func81 rfl (by kernel_rfl) rfl rfl (by kernel_rfl) rfl ?_
  intro W0 w0 ρ0 hE
  conv => whnf
  skip
  refine SW_loopN hE (fun k => k) [0, 1, 2, 6, 12, 13] [6] (fun m fr hp => ∃ r, m = 3 - r ∧ r ≤ 3 ∧ fr = [(0, .val (.int .i64 (i : Nat))), (1, .val (.int .i64 (j : Nat))), (2, .val (.int .i64 (k : Nat))), (6, .ptr 6 0 0 0), (12, .agg [.val (.int .i64 (i : Nat)), .val (.int .i64 (j : Nat)), .val (.int .i64 (k : Nat))]), (13, .val (.int .i64 (r : Nat)))] ∧
    hp = [(6, fb 0)]) 3 ?_ ?_ ?_
  · kernel_rfl
  · exact ⟨0, rfl, by decide, rfl, rfl⟩
  rintro m _ _ ⟨r, rfl, hr, rfl, rfl⟩
  obtain rfl | rfl | rfl | rfl : r = 0 ∨ r = 1 ∨ r = 2 ∨ r = 3 := by omega
  · skip
    have t0 : decide (((0 : Nat) : Int) < 3) = true := by decide
    have t4 := winc (i := 0) (by decide)
    have t5 : decide (((i : Nat) : Int) < 0) = false := decide_eq_false (by omega)
    have t6 : decide (((i : Nat) : Int) > 48) = false := decide_eq_false (by omega)
    conv => whnf
    (repeat ((first | refine step_w1 rfl rfl ?_ | refine step_w2 rfl rfl ?_ | refine g_o (op_pickF rfl (ev_ok rfl) (ev_ok rfl)) ?_ | refine ⟨_, [], [], op_indexAgg rfl (ev_ok rfl) (l := [.int .i64 (i : Nat), .int .i64 (j : Nat), .int .i64 (k : Nat)]) rfl (ev_ok rfl) (tgt rfl) rfl (tgt rfl) rfl rfl (by decide) (by decide) (v := .int .i64 (i : Nat)) rfl rfl, nil_fk, nil_new, ?_⟩ | rw [t0] | rw [t4] | rw [t5] | rw [t6] | rw [Nat.zero_add]); conv => whnf))
    exact ⟨2, fun k => k, [0, 1, 2, 6, 12, 13], [6], by decide, by kernel_rfl, 1, rfl, by decide, rfl, rfl⟩
  · skip
    have t0 : decide (((1 : Nat) : Int) < 3) = true := by decide
    have t4 := winc (i := 1) (by decide)
    have t5 : decide (((j : Nat) : Int) < 0) = false := decide_eq_false (by omega)
    have t6 : decide (((j : Nat) : Int) > 48) = false := decide_eq_false (by omega)
    conv => whnf
    (repeat ((first | refine step_w1 rfl rfl ?_ | refine step_w2 rfl rfl ?_ | refine g_o (op_pickF rfl (ev_ok rfl) (ev_ok rfl)) ?_ | refine ⟨_, [], [], op_indexAgg rfl (ev_ok rfl) (l := [.int .i64 (i : Nat), .int .i64 (j : Nat), .int .i64 (k : Nat)]) rfl (ev_ok rfl) (tgt rfl) rfl (tgt rfl) rfl rfl (by decide) (by decide) (v := .int .i64 (j : Nat)) rfl rfl, nil_fk, nil_new, ?_⟩ | rw [t0] | rw [t4] | rw [t5] | rw [t6]); conv => whnf))
    exact ⟨1, fun k => k, [0, 1, 2, 6, 12, 13], [6], by decide, by kernel_rfl, 2, rfl, by decide, rfl, rfl⟩
  · skip
    have t0 : decide (((2 : Nat) : Int) < 3) = true := by decide
    have t4 := winc (i := 2) (by decide)
    have t5 : decide (((k : Nat) : Int) < 0) = false := decide_eq_false (by omega)
    have t6 : decide (((k : Nat) : Int) > 48) = false := decide_eq_false (by omega)
    conv => whnf
    (repeat ((first | refine step_w1 rfl rfl ?_ | refine step_w2 rfl rfl ?_ | refine g_o (op_pickF rfl (ev_ok rfl) (ev_ok rfl)) ?_ | refine ⟨_, [], [], op_indexAgg rfl (ev_ok rfl) (l := [.int .i64 (i : Nat), .int .i64 (j : Nat), .int .i64 (k : Nat)]) rfl (ev_ok rfl) (tgt rfl) rfl (tgt rfl) rfl rfl (by decide) (by decide) (v := .int .i64 (k : Nat)) rfl rfl, nil_fk, nil_new, ?_⟩ | rw [t0] | rw [t4] | rw [t5] | rw [t6]); conv => whnf))
    exact ⟨0, fun k => k, [0, 1, 2, 6, 12, 13], [6], by decide, by kernel_rfl, 3, rfl, by decide, rfl, rfl⟩
  · have t0 : decide (((3 : Nat) : Int) < 3) = false := by decide
    conv => whnf
    (repeat ((first | refine step_w2 rfl rfl ?_ | refine g_c (by assumption) ?_ | rw [t0] | rw [t1] | rw [t2] | rw [t3]); conv => whnf))
    exact Recast.refl _
end Go.Proofs.YtdcaodkjofkmgaaGreatDoor

namespace Go.Proofs.YtdcaodkjofkmgaaGreatDoor
open Go.Sx
set_option linter.unusedSimpArgs false
set_option linter.unusedVariables false
set_option maxRecDepth 100000
set_option maxHeartbeats 4000000

/-- A power's box. -/
def pbk (q : Pw) : Blk := ⟨83, true, .one [.val (.int .i64 (q.i : Nat)), .val (.int .i64 (q.j : Nat)), .val (.int .i64 (q.k : Nat)), .frac q.c]⟩
theorem NamesOK.three {q r t : Nat} {b c d : Blk} {σ : Nat → Nat} (h1 : σ q ≠ σ r) (h2 : σ q ≠ σ t) (h3 : σ r ≠ σ t) : NamesOK [(q, b), (r, c), (t, d)] [] σ :=
  ⟨(fun x y b b' hx hy hne _ => by
    simp only [List.mem_cons, List.not_mem_nil, or_false, Prod.mk.injEq] at hx hy
    rcases hx with ⟨rfl, _⟩ | ⟨rfl, _⟩ | ⟨rfl, _⟩ <;> rcases hy with ⟨rfl, _⟩ | ⟨rfl, _⟩ | ⟨rfl, _⟩ <;> first | exact absurd rfl hne | assumption | (exact fun h => h1 h.symm) | (exact fun h => h2 h.symm) | (exact fun h => h3 h.symm)),
   (fun _ _ h => by simp [keysOf] at h), (fun _ _ h => by simp [keysOf] at h)⟩
section
variable {P : Program} {kl : Nat} {rc : Loop} {us : List Nat} {cap : List SV} {args : List SV} {hp : List (Nat × Blk)} {c : SV}
theorem g_y3 {k : SV → List (Nat × Blk) → List (Nat × Blk) → List (Nat × Blk) → Prop} {a b e : Nat} {A B D A' B' D' : Blk} (h : YldOK P kl rc us cap args [(a, A), (b, B), (e, D)] c [] [(a, A'), (b, B'), (e, D')]) (ha : find hp a = some A) (hb : find hp b = some B) (hd : find hp e = some D)
    (wA : A.wr = true ∧ A.data.live = true ∧ A'.wr = true) (wB : B.wr = true ∧ B.data.live = true ∧ B'.wr = true) (wD : D.wr = true ∧ D.data.live = true ∧ D'.wr = true) (hk : k c [(a, A), (b, B), (e, D)] [] [(a, A'), (b, B'), (e, D')]) :
    ∃ fk c new upd, YldOK P kl rc us cap args fk c new upd ∧ (∀ j b, (j, b) ∈ fk → find hp j = some b) ∧ (∀ j b, (j, b) ∈ new → find hp j = none) ∧ (∀ j b, (j, b) ∈ upd → ∃ b0, (j, b0) ∈ fk ∧ b0.wr = true ∧ b0.data.live = true ∧ b.wr = true) ∧ k c fk new upd :=
  ⟨[(a, A), (b, B), (e, D)], c, [], [(a, A'), (b, B'), (e, D')], h, (fun j x hm => by
    simp only [List.mem_cons, Prod.mk.injEq, List.not_mem_nil, or_false] at hm
    rcases hm with ⟨rfl, rfl⟩ | ⟨rfl, rfl⟩ | ⟨rfl, rfl⟩ <;> assumption), nil_new, (fun j x hm => by
    simp only [List.mem_cons, Prod.mk.injEq, List.not_mem_nil, or_false] at hm
    rcases hm with ⟨rfl, rfl⟩ | ⟨rfl, rfl⟩ | ⟨rfl, rfl⟩
    · exact ⟨A, by simp, wA.1, wA.2.1, wA.2.2⟩
    · exact ⟨B, by simp, wB.1, wB.2.1, wB.2.2⟩
    · exact ⟨D, by simp, wD.1, wD.2.1, wD.2.2⟩), hk⟩
end
theorem fin3 {a b c : Nat} {A B C : Blk} {hp : List (Nat × Blk)} (ha : find hp a = some A) (hb : find hp b = some B) (hc : find hp c = some C) : ∀ k x, (k, x) ∈ [(a, A), (b, B), (c, C)] → find hp k = some x := fun k x hm => by
  simp only [List.mem_cons, Prod.mk.injEq, List.not_mem_nil, or_false] at hm
  rcases hm with ⟨rfl, rfl⟩ | ⟨rfl, rfl⟩ | ⟨rfl, rfl⟩ <;> assumption

/-- An iterator over a list of powers, at a loop in a loop's round: the outer power's box stays. -/
def ItOK2 (f : FuncId) (icap : List SV) (l : List Pw) : Prop := ∀ (rc : Loop) (ts : List Nat) (q : Pw) (S : Nat → Rat),
  (∀ i, i < l.length → YldOK Tryz.prog 5001 rc ts [.ptr 5005 0 0 0, .ptr 5004 0 0 0] [(l.getD i pw0).sv] [(5001, lb rc), (5004, fb (S i)), (5005, pbk q)] (.val (.bool true)) [] [(5001, lb rc), (5004, fb (S (i + 1))), (5005, pbk q)]) →
  CallOK Tryz.prog f (.yld 5001 rc ts [.ptr 5 0 0 0, .ptr 5004 0 0 0] :: icap) [(5001, lb rc), (5004, fb (S 0)), (5, pbk q)] (.tup []) [] [(5001, lb rc), (5004, fb (S l.length)), (5, pbk q)]

theorem it2_Values (l : List Pw) (hl : l.length < 1000) : ItOK2 68 [ptrA [mvec 8 Pw.sv l]] l := by
  intro rc ts q S hY
  refine callK (Z := []) tabOK mixedOK Tryz.func68 rfl (by kernel_rfl) (args := [.yld 5001 rc ts [.ptr 5005 0 0 0, .ptr 5004 0 0 0], ptrA [mvec 8 Pw.sv l]]) (fk := [(5001, lb rc), (5004, fb (S 0)), (5005, pbk q)]) (c := .tup []) (new := []) (upd := [(5001, lb rc), (5004, fb (S l.length)), (5005, pbk q)]) (ShapeOK.of rfl rfl rfl rfl rfl rfl rfl rfl rfl rfl rfl) rfl (renBy [(5005, 5)]) (NamesOK.three (by decide) (by decide) (by decide)) ?_
  intro W0 w0 ρ0 hE
  conv => whnf
  (repeat (first | (refine g_o (op_lenM rfl rfl rfl (ev_ok rfl) (tgt rfl) rfl) ?_; conv => whnf) | (refine g_o (op_loadA rfl (ev_ok rfl) (tgt rfl) rfl (Nat.succ_ne_zero _) rfl) ?_; conv => whnf)))
  refine SW_loopN hE (fun k => k) [0, 5, 6, 7] [5001, 5004, 5005] (fun m fr hp => ∃ i, m = l.length - i ∧ i ≤ l.length ∧ fr = [(0, .yld 5001 rc ts [.ptr 5005 0 0 0, .ptr 5004 0 0 0]), (5, mvec 8 Pw.sv l), (6, .val (.int .i64 (l.length : Nat))), (7, .val (.int .i64 (i : Nat)))] ∧
    hp = [(5001, lb rc), (5004, fb (S i)), (5005, pbk q)]) l.length ?_ ?_ ?_
  · kernel_rfl
  · exact ⟨0, rfl, Nat.zero_le _, rfl, rfl⟩
  rintro m _ _ ⟨i, rfl, hi, rfl, rfl⟩
  conv => whnf
  by_cases hlt : i < l.length
  · have t1 := dlt hlt
    have t2 := winc (i := i) (by omega)
    have hy := hY i hlt
    (repeat ((first | refine step_w1 rfl rfl ?_ | refine step_w2 rfl rfl ?_ | refine g_o (op_loadA rfl (ev_ok rfl) (tgt rfl) rfl (Nat.succ_ne_zero _) rfl) ?_ | refine g_o (op_indexN (α := Pw) (d := pw0) rfl (ev_ok rfl) (ev_ok rfl) (tgt rfl) rfl (tgt rfl) rfl (by omega)) ?_ | refine g_y3 hy rfl rfl rfl ⟨rfl, rfl, rfl⟩ ⟨rfl, rfl, rfl⟩ ⟨rfl, rfl, rfl⟩ ?_ | rw [t1] | rw [t2]); conv => whnf))
    exact ⟨l.length - (i + 1), fun k => k, [0, 5, 6, 7], [5001, 5004, 5005], by omega, by kernel_rfl, i + 1, rfl, hlt, rfl, rfl⟩
  · have t1 := dge hlt
    have hI : i = l.length := by omega
    subst hI
    (repeat (first | (refine step_w2 rfl rfl ?_; conv => whnf) | (rw [t1]; conv => whnf)))
    exact ⟨Recast.refl _, (fun _ _ h => by cases h), fin3 rfl rfl rfl⟩
end Go.Proofs.YtdcaodkjofkmgaaGreatDoor

namespace Go.Proofs.YtdcaodkjofkmgaaGreatDoor
open Go.Sx
set_option linter.unusedSimpArgs false
set_option linter.unusedVariables false
set_option maxRecDepth 100000
set_option maxHeartbeats 4000000

def termF (p q : Pw) : Rat := p.c * q.c * momF (p.i + q.i) (p.j + q.j) (p.k + q.k)
def rowF (b : List Pw) (s : Rat) (p : Pw) : Rat := b.foldl (fun s q => s + termF p q) s
def togF (a b : List Pw) : Rat := a.foldl (rowF b) 0
def Pw.sm (p : Pw) : Prop := p.i ≤ 8 ∧ p.j ≤ 8 ∧ p.k ≤ 8 ∧ fs p.c ≤ 1000
theorem fs_mom {i j k : Nat} (hi : i ≤ 20) (hj : j ≤ 20) (hk : k ≤ 20) : fs (momF i j k) ≤ 81000 := by
  have h1 := fs_ratio (n := i + j + k + 2) (by omega) (l := [i, j, k]) (by simp) (by intro m hm; simp only [List.mem_cons, List.not_mem_nil, or_false] at hm; omega)
  have h2 := fs_mul ((2 : Int) : Rat) (ratioF (i + j + k + 2) [i, j, k])
  have h3 := fs_int (n := 2) (by decide) (by decide)
  unfold momF; omega
theorem fs_term {p q : Pw} (hp : p.sm) (hq : q.sm) : fs (termF p q) ≤ 90000 := by
  have h1 := fs_mul p.c q.c
  have h2 := fs_mul (p.c * q.c) (momF (p.i + q.i) (p.j + q.j) (p.k + q.k))
  have h3 := fs_mom (i := p.i + q.i) (j := p.j + q.j) (k := p.k + q.k) (by have := hp.1; have := hq.1; omega) (by have := hp.2.1; have := hq.2.1; omega) (by have := hp.2.2.1; have := hq.2.2.1; omega)
  have := hp.2.2.2
  have := hq.2.2.2
  unfold termF; omega
theorem fs_row {p : Pw} (hp : p.sm) : ∀ (b : List Pw) (s : Rat), (∀ q ∈ b, q.sm) → fs (rowF b s p) ≤ fs s + b.length * 90000
  | [], s, _ => by simp [rowF]
  | q :: b, s, h => by
    have h1 := fs_row hp b (s + termF p q) (fun x hx => h x (List.mem_cons_of_mem _ hx))
    have h2 := fs_term hp (h q (List.mem_cons_self ..))
    have h3 := fs_add s (termF p q)
    rw [show rowF (q :: b) s p = rowF b (s + termF p q) p from rfl, List.length_cons, Nat.succ_mul]; omega
theorem fs_tog {b : List Pw} (hb : ∀ q ∈ b, q.sm) (hl : b.length ≤ 10) : ∀ (a : List Pw) (s : Rat), (∀ q ∈ a, q.sm) → fs (a.foldl (rowF b) s) ≤ fs s + a.length * 900000
  | [], s, _ => by simp
  | p :: a, s, h => by
    have h1 := fs_tog hb hl a (rowF b s p) (fun x hx => h x (List.mem_cons_of_mem _ hx))
    have h2 := fs_row (h p (List.mem_cons_self ..)) b s hb
    have h3 : b.length * 90000 ≤ 10 * 90000 := Nat.mul_le_mul_right _ hl
    rw [List.foldl_cons, List.length_cons, Nat.succ_mul]; omega
theorem RoundOK.two' {x : SV} {cap : List SV} {k m : Nat} {s t : Rat} {q : Pw} (hkm : k ≠ m) (px : passable x = true) (pc : cap.all passable = true) (rx : subN (refs x) [k, m] = true) (rc : subN (refsL cap) [k, m] = true) (hn : nodupN [k, m] = true) :
    RoundOK x cap [(k, fb s), (m, pbk q)] [(k, fb t), (m, pbk q)] :=
  ⟨px, pc, hn, rx, rc, rfl, (fun q b hm => by simp only [List.mem_cons, List.not_mem_nil, or_false, Prod.mk.injEq] at hm; rcases hm with ⟨rfl, rfl⟩ | ⟨rfl, rfl⟩ <;> rfl),
   (fun q b hm => by
    simp only [List.mem_cons, List.not_mem_nil, or_false, Prod.mk.injEq] at hm
    rcases hm with ⟨rfl, rfl⟩ | ⟨rfl, rfl⟩
    · exact ⟨fb s, by simp, rfl, rfl, rfl, rfl, rfl⟩
    · exact ⟨_, List.mem_cons_of_mem _ (List.mem_cons_self ..), rfl, rfl, rfl, rfl, rfl⟩),
   (fun q b hm _ _ => by
    simp only [List.mem_cons, List.not_mem_nil, or_false, Prod.mk.injEq] at hm
    rcases hm with ⟨rfl, rfl⟩ | ⟨rfl, rfl⟩
    · exact ⟨_, List.mem_cons_self ..⟩
    · exact ⟨_, List.mem_cons_of_mem _ (List.mem_cons_self ..)⟩)⟩
theorem up2 {a b : Nat} {A B A' B' : Blk} (wA : A.wr = true ∧ A.data.live = true ∧ A'.wr = true) (wB : B.wr = true ∧ B.data.live = true ∧ B'.wr = true) : ∀ j x, (j, x) ∈ [(a, A'), (b, B')] → ∃ b0, (j, b0) ∈ [(a, A), (b, B)] ∧ b0.wr = true ∧ b0.data.live = true ∧ x.wr = true := fun j x hm => by
  simp only [List.mem_cons, Prod.mk.injEq, List.not_mem_nil, or_false] at hm
  rcases hm with ⟨rfl, rfl⟩ | ⟨rfl, rfl⟩
  · exact ⟨A, List.mem_cons_self .., wA.1, wA.2.1, wA.2.2⟩
  · exact ⟨B, List.mem_cons_of_mem _ (List.mem_cons_self ..), wB.1, wB.2.1, wB.2.2⟩
theorem lv2 {a b : Nat} {A B : Blk} (wA : A.data.live = true ∧ keylessD A.data = true) (wB : B.data.live = true ∧ keylessD B.data = true) : ∀ j x, (j, x) ∈ [(a, A), (b, B)] → x.data.live = true ∧ keylessD x.data = true := fun j x hm => by
  simp only [List.mem_cons, Prod.mk.injEq, List.not_mem_nil, or_false] at hm
  rcases hm with ⟨rfl, rfl⟩ | ⟨rfl, rfl⟩
  · exact wA
  · exact wB
theorem fk2 {a b : Nat} {A B : Blk} {hp : List (Nat × Blk)} (ha : find hp a = some A) (hb : find hp b = some B) : ∀ k x, (k, x) ∈ [(a, A), (b, B)] → find hp k = some x := fin2 ha hb

theorem c_togV (a b : List Pw) (hla : a.length ≤ 10) (hlb : b.length ≤ 10) (ha : ∀ p ∈ a, p.sm) (hb : ∀ p ∈ b, p.sm) (v u : List SV) (hI : ItOK 68 [ptrA v] a) (hJ : ItOK2 68 [ptrA u] b) :
    CallOK Tryz.prog 49 [.clo 68 [] [ptrA v], .clo 68 [] [ptrA u]] [] (.frac (togF a b)) [] [] := by
  refine callV (Z := [3]) tabOK mixedOK Tryz.func49 rfl (by kernel_rfl) rfl rfl (by kernel_rfl) rfl ?_
  intro W0 w0 ρ0 hE
  conv => whnf
  skip
  refine SWx_range 5000 [3, 4] [ptrA [.clo 68 [] [ptrA u]], .ptr 4 0 0 0] [(4, fb ((a.take 0).foldl (rowF b) 0))] [(4, fb ((a.take a.length).foldl (rowF b) 0))] (cc := .tup []) [7, 3, 4] rfl (fun _ h => by cases h) rfl ⟨_, rfl, by kernel_rfl, rfl⟩ (fun rc r1 r2 r3 r4 r5 r6 => ?_) rfl (one_fk rfl) (two_up (B := fb 0) (B' := fb 0) (b := 0) ⟨rfl, rfl, rfl⟩) (one_lv ⟨rfl, rfl⟩) ?_
  · refine hI rc [3, 4] [.clo 68 [] [ptrA u]] (fun i => (a.take i).foldl (rowF b) 0) (fun i hi => ?_)
    have hp := ha _ (getP_mem hi)
    have hs := fs_tog hb hlb (a.take i) 0 (fun p hp => ha p (List.mem_of_mem_take hp))
    have hs2 : (a.take i).length * 900000 ≤ 10 * 900000 := Nat.mul_le_mul_right _ (by rw [List.length_take]; omega)
    rw [fs_zero] at hs
    rw [foldP _ a i hi]
    generalize (a.take i).foldl (rowF b) 0 = s at *
    generalize a.getD i pw0 = p at *
    clear hI ha
    refine yldK (Z := []) tabOK mixedOK r1 r2 r3 r4 r5 r6 (Nat.le_of_ble_eq_true (by kernel_rfl)) (RoundOK.one rfl rfl rfl rfl) ?_
    intro W0 w0 ρ0 lp hE
    conv => whnf
    refine ⟨rfl, fun w1 hE hro1 hro2 => ?_⟩
    conv => whnf
    (repeat (first | (refine g_o (op_loadA rfl (ev_ok rfl) (tgt rfl) rfl (Nat.succ_ne_zero _) rfl) ?_; conv => whnf)))
    refine SWx_range 5001 [5, 4] [.ptr 5 0 0 0, .ptr 5004 0 0 0] [(5004, fb ((b.take 0).foldl (fun s q => s + termF p q) s)), (5, pbk p)] [(5004, fb ((b.take b.length).foldl (fun s q => s + termF p q) s)), (5, pbk p)] (cc := .tup []) [9, 5, 4] rfl (fun l' h => by cases h; exact ⟨hro1, hro2⟩) rfl ⟨_, rfl, by kernel_rfl, rfl⟩ (fun rc' r1 r2 r3 r4 r5 r6' => ?_) rfl (fk2 rfl rfl) (up2 ⟨rfl, rfl, rfl⟩ ⟨rfl, rfl, rfl⟩) (lv2 ⟨rfl, rfl⟩ ⟨rfl, rfl⟩) ?_
    · refine hJ rc' [5, 4] p (fun i => (b.take i).foldl (fun s q => s + termF p q) s) (fun i hi => ?_)
      have hq := hb _ (getP_mem hi)
      have hv := fs_row hp (b.take i) s (fun q hq => hb q (List.mem_of_mem_take hq))
      have hv2 : (b.take i).length * 90000 ≤ 10 * 90000 := Nat.mul_le_mul_right _ (by rw [List.length_take]; omega)
      unfold rowF at hv
      rw [foldP _ b i hi]
      generalize (b.take i).foldl (fun s q => s + termF p q) s = u at *
      generalize b.getD i pw0 = q at *
      clear hJ hb
      have hi1 := hp.1
      have hj1 := hp.2.1
      have hk1 := hp.2.2.1
      have hi2 := hq.1
      have hj2 := hq.2.1
      have hk2 := hq.2.2.1
      have t1 := wadd (a := p.i) (b := q.i) (by omega)
      have t2 := wadd (a := p.j) (b := q.j) (by omega)
      have t3 := wadd (a := p.k) (b := q.k) (by omega)
      have k1 := f_Mul p.c q.c (by have := hp.2.2.2; have := hq.2.2.2; omega)
      have k2 := c_Moment (p.i + q.i) (p.j + q.j) (p.k + q.k) (by omega) (by omega) (by omega)
      have hm := fs_mom (i := p.i + q.i) (j := p.j + q.j) (k := p.k + q.k) (by omega) (by omega) (by omega)
      have hpc := fs_mul p.c q.c
      have k3 := f_Mul (p.c * q.c) (momF (p.i + q.i) (p.j + q.j) (p.k + q.k)) (by have := hp.2.2.2; have := hq.2.2.2; omega)
      have ht := fs_term hp hq
      have k4 := f_Add u (p.c * q.c * momF (p.i + q.i) (p.j + q.j) (p.k + q.k)) (by unfold termF at ht; omega)
      refine yldK (Z := []) tabOK mixedOK r1 r2 r3 r4 r5 r6' (Nat.le_of_ble_eq_true (by kernel_rfl)) (RoundOK.two' (by decide) rfl rfl rfl rfl rfl) ?_
      intro W0 w0 ρ0 lp hE
      conv => whnf
      refine ⟨rfl, fun w1 hE _ _ => ?_⟩
      conv => whnf
      (repeat ((first | refine step_i (by kernel_rfl) ?_ | refine g_c (by assumption) ?_ | rw [t1] | rw [t2] | rw [t3]); conv => whnf))
      exact fin2 rfl rfl
    conv => whnf
    intro q x hm
    simp only [List.mem_singleton, Prod.mk.injEq] at hm
    obtain ⟨rfl, rfl⟩ := hm
    rw [List.take_length]
    rfl
  conv => whnf
  skip
  rw [List.take_length]
  exact Recast.refl _
theorem powersF_sm (o n : Int) : ∀ p ∈ powersF o n, p.sm := fun p hp => by
  have := (powersF_small o n).2 p hp
  exact ⟨by omega, by omega, by omega, by omega⟩
def err2 (o n m : Int) : Int := if errF o m > errF o n then errF o m else errF o n
theorem c_Mass (o n m : Int) : CallOK Tryz.prog 23 [.val (.int .i64 o), .val (.int .i64 n), .val (.int .i64 m)] [] (.tup [.frac (togF (powersF o n) (powersF o m)), .val (.int .i64 (err2 o n m))]) [] [] := by
  have k1 := c_Powers o n
  have k2 := c_Powers o m
  have l1 := (powersF_small o n).1
  have l2 := (powersF_small o m).1
  have s1 := powersF_sm o n
  have s2 := powersF_sm o m
  unfold err2
  generalize powersF o n = a at *
  generalize powersF o m = b at *
  generalize errF o n = e at *
  generalize errF o m = e' at *
  have k3 := c_Values a
  have k4 := c_Values b
  have k5 := c_togV a b (by omega) (by omega) s1 s2 [mvec 8 Pw.sv a] [mvec 8 Pw.sv b] (it_Values a (by omega)) (it2_Values b (by omega))
  refine callV (Z := []) tabOK mixedOK Tryz.func23 rfl (by kernel_rfl) rfl rfl (by kernel_rfl) rfl ?_
  intro W0 w0 ρ0 hE
  conv => whnf
  (repeat (first | (refine g_c (by assumption) ?_; conv => whnf)))
  exact Recast.refl _
end Go.Proofs.YtdcaodkjofkmgaaGreatDoor

namespace Go.Proofs.YtdcaodkjofkmgaaGreatDoor
open Go.Sx
set_option linter.unusedSimpArgs false
set_option linter.unusedVariables false
set_option maxRecDepth 100000

theorem at_two (p q : Pw) (a b c : Rat) : atF [p, q] a b c = monoF p a b c + monoF q a b c := by
  show (0 + monoF p a b c) + monoF q a b c = _
  rw [Rat.zero_add]
section
variable (a b c : Rat)
theorem v20 : atF (powersF 2 0) a b c = 2 * a * a - a := by
  rw [show powersF 2 0 = [⟨2, 0, 0, ((2 : Int) : Rat)⟩, ⟨1, 0, 0, ((-1 : Int) : Rat)⟩] from by kernel_rfl, at_two]
  simp only [monoF, pwr]; grind
end
end Go.Proofs.YtdcaodkjofkmgaaGreatDoor

namespace Go.Proofs.YtdcaodkjofkmgaaGreatDoor
open Go.Sx
set_option linter.unusedSimpArgs false
set_option linter.unusedVariables false
set_option maxRecDepth 100000
set_option maxHeartbeats 4000000

end Go.Proofs.YtdcaodkjofkmgaaGreatDoor

namespace Go.Proofs.YtdcaodkjofkmgaaGreatDoor
open Go.Sx
set_option linter.unusedSimpArgs false
set_option linter.unusedVariables false
set_option maxRecDepth 100000
set_option maxHeartbeats 4000000

theorem map_get {α β : Type} {f : α → β} {l : List α} {i : Nat} {d : α} {e : β} (h : i < l.length) : (l.map f).getD i e = f (l.getD i d) := by
  simp [List.getD_eq_getElem?_getD, List.getElem?_eq_getElem h]

end Go.Proofs.YtdcaodkjofkmgaaGreatDoor

namespace Go.Proofs
open Go.Shelf
def Tryz.lays156_ren : Go.Shelf.Ren := ⟨fun | 156 => 105 | 165 => 130 | 166 => 131 | 169 => 133 | 240 => 148 | 241 => 149 | 276 => 157 | 277 => 158 | n => n, fun | 31 => 157 | 9 => 9 | 3 => 3 | 4 => 4 | 0 => 0 | 20 => 20 | 72 => 187 | 76 => 191 | 70 => 185 | 37 => 180 | 75 => 190 | 127 => 208 | 164 => 214 | 5 => 5 | 80 => 194 | n => n, fun | n => n⟩
theorem Tryz.lays156 : Go.Proofs.Lays.n156 Tryz.prog Tryz.lays156_ren := {
  mixed := by kernel_rfl
  f156 := Tryz.func105.trans (congrArg some (by kernel_rfl))
  f165 := Tryz.func130.trans (congrArg some (by kernel_rfl))
  f166 := Tryz.func131.trans (congrArg some (by kernel_rfl))
  f169 := Tryz.func133.trans (congrArg some (by kernel_rfl))
  f240 := Tryz.func148.trans (congrArg some (by kernel_rfl))
  f241 := Tryz.func149.trans (congrArg some (by kernel_rfl))
  f276 := Tryz.func157.trans (congrArg some (by kernel_rfl))
  f277 := Tryz.func158.trans (congrArg some (by kernel_rfl))
  t0 := Tryz.underlying0
  a0 := Tryz.isAgg0
  z0 := Tryz.sizeOf0
  v0 := Tryz.zeroValue0
  t3 := Tryz.underlying3
  a3 := Tryz.isAgg3
  z3 := Tryz.sizeOf3
  v3 := Tryz.zeroValue3
  t4 := Tryz.underlying4
  a4 := Tryz.isAgg4
  z4 := Tryz.sizeOf4
  v4 := Tryz.zeroValue4
  t9 := Tryz.underlying9
  a9 := Tryz.isAgg9
  z9 := Tryz.sizeOf9
  v9 := Tryz.zeroValue9
  t20 := Tryz.underlying20
  a20 := Tryz.isAgg20
  z20 := Tryz.sizeOf20
  v20 := Tryz.zeroValue20
  t31 := Tryz.underlying157
  a31 := Tryz.isAgg157
  z31 := Tryz.sizeOf157
  v31 := Tryz.zeroValue157
  t37 := Tryz.underlying180
  a37 := Tryz.isAgg180
  z37 := Tryz.sizeOf180
  v37 := Tryz.zeroValue180
  t70 := Tryz.underlying185
  a70 := Tryz.isAgg185
  z70 := Tryz.sizeOf185
  v70 := Tryz.zeroValue185
  t72 := Tryz.underlying187
  a72 := Tryz.isAgg187
  z72 := Tryz.sizeOf187
  v72 := Tryz.zeroValue187
  t75 := Tryz.underlying190
  a75 := Tryz.isAgg190
  z75 := Tryz.sizeOf190
  v75 := Tryz.zeroValue190
  t76 := Tryz.underlying191
  a76 := Tryz.isAgg191
  z76 := Tryz.sizeOf191
  v76 := Tryz.zeroValue191
  t127 := Tryz.underlying208
  a127 := Tryz.isAgg208
  z127 := Tryz.sizeOf208
  v127 := Tryz.zeroValue208
  t164 := Tryz.underlying214
  a164 := Tryz.isAgg214
  z164 := Tryz.sizeOf214
  v164 := Tryz.zeroValue214 }
theorem Tryz.Builder_Extra_156 : Builder.Extra Tryz.prog Tryz.lays156_ren := {
  sizeBuilder := by kernel_rfl
  liesBuilder := by kernel_rfl
  t5 := Tryz.underlying5
  a5 := Tryz.isAgg5
  z5 := Tryz.sizeOf5
  v5 := Tryz.zeroValue5
  infoByte := by kernel_rfl
  cellsByte := by kernel_rfl
  sizeByte := by kernel_rfl
  neB5 := by decide }
open Go.RowKit in
/-- No element: the empty string; the world is as it was. (Whatever the slice's address and capacity: a nil slice too.) (LAID: no walk: one application.) -/
theorem Tryz.strings_Join_none (a : Option Addr) (c : Nat) (sep : ByteArray) (w : World) :
    Calls Tryz.prog 105 #[.slice a 0 c, .string sep] w fun e w' => e = .returned (.string ⟨#[]⟩) ∧ w' = w := Any.strings_Join_none Tryz.lays156 Tryz.Builder_Extra_156 a c sep w
open Go.RowKit in
/-- strings.Join: "Join concatenates the elements of its first argument to create a single string. The separator string sep is placed between elements in the resulting string.": HOWEVER MANY ELEMENTS. Below the heap's end the world is as it was. (LAID: no walk: one application.) -/
theorem Tryz.strings_Join (bk o c : Nat) (xs : List ByteArray) (sep : ByteArray) (w : World) (hcells : ∀ (j : Nat) x, xs[j]? = some x → w.cell? ⟨bk, o + j, none⟩ = some (.string x)) (hbk : bk < w.heap.size) (hN : xs.length ≤ 140737488355328) (hcap : xs.length ≤ c) (hlen : (Lib.join (xs.map (·.data.toList)) sep.data.toList).length ≤ 140737488355328) :
    Calls Tryz.prog 105 #[.slice (some ⟨bk, o, none⟩) xs.length c, .string sep] w fun e w' => e = .returned (.string ⟨(Lib.join (xs.map (·.data.toList)) sep.data.toList).toArray⟩) ∧ Below w.heap.size w w' := Any.strings_Join Tryz.lays156 Tryz.Builder_Extra_156 bk o c xs sep w hcells hbk hN hcap hlen
def Tryz.lays283_ren : Go.Shelf.Ren := ⟨fun | 283 => 141 | n => n, fun | 3 => 3 | 9 => 9 | 4 => 4 | n => n, fun | n => n⟩
theorem Tryz.lays283 : Go.Proofs.Lays.n283 Tryz.prog Tryz.lays283_ren := {
  mixed := by kernel_rfl
  f283 := Tryz.func141.trans (congrArg some (by kernel_rfl))
  t3 := Tryz.underlying3
  a3 := Tryz.isAgg3
  z3 := Tryz.sizeOf3
  v3 := Tryz.zeroValue3
  t4 := Tryz.underlying4
  a4 := Tryz.isAgg4
  z4 := Tryz.sizeOf4
  v4 := Tryz.zeroValue4
  t9 := Tryz.underlying9
  a9 := Tryz.isAgg9
  z9 := Tryz.sizeOf9
  v9 := Tryz.zeroValue9 }
open Go.Lib in
/-- internal/strconv.small: "small returns the string for an i with 0 <= i < nSmalls.": i's decimal numeral. The world is as it was. (LAID: no walk: one application.) -/
theorem Tryz.internal_strconv_small (i : Nat) (h : i < 100) (w : World) :
    Calls Tryz.prog 141 #[.int .i64 i] w fun e w' => e = .returned (.string ⟨(Lib.decDigits i).toArray⟩) ∧ w' = w := Any.internal_strconv_small Tryz.lays283 i h w
def Tryz.laysM284_ren : Go.Shelf.Ren := ⟨fun | 284 => 142 | 129 => 153 | 317 => 152 | 318 => 154 | n => n, fun | 53 => 28 | 3 => 3 | 212 => 210 | 0 => 0 | 4 => 4 | 46 => 150 | 5 => 5 | 9 => 9 | n => n, fun | 17 => 2 | n => n⟩
theorem Tryz.laysM284 : Go.Proofs.LaysM.n284 Tryz.prog Tryz.laysM284_ren := {
  mixed := by kernel_rfl
  f129 := Tryz.func153.trans (congrArg some (by kernel_rfl))
  f284 := Tryz.func142.trans (congrArg some (by kernel_rfl))
  f317 := Tryz.func152.trans (congrArg some (by kernel_rfl))
  f318 := Tryz.func154.trans (congrArg some (by kernel_rfl))
  t0 := Tryz.underlying0
  a0 := Tryz.isAgg0
  z0 := Tryz.sizeOf0
  v0 := Tryz.zeroValue0
  t3 := Tryz.underlying3
  a3 := Tryz.isAgg3
  z3 := Tryz.sizeOf3
  v3 := Tryz.zeroValue3
  t4 := Tryz.underlying4
  a4 := Tryz.isAgg4
  z4 := Tryz.sizeOf4
  v4 := Tryz.zeroValue4
  t5 := Tryz.underlying5
  a5 := Tryz.isAgg5
  z5 := Tryz.sizeOf5
  v5 := Tryz.zeroValue5
  t9 := Tryz.underlying9
  a9 := Tryz.isAgg9
  z9 := Tryz.sizeOf9
  v9 := Tryz.zeroValue9
  t46 := Tryz.underlying150
  a46 := Tryz.isAgg150
  z46 := Tryz.sizeOf150
  v46 := Tryz.zeroValue150
  t53 := Tryz.underlying28
  a53 := Tryz.isAgg28
  z53 := Tryz.sizeOf28
  v53 := Tryz.zeroValue28
  t212 := Tryz.underlying210
  a212 := Tryz.isAgg210
  z212 := Tryz.sizeOf210
  v212 := Tryz.zeroValue210
  g17 := by kernel_rfl
  i0 := by kernel_rfl
  i3 := by kernel_rfl
  i4 := by kernel_rfl
  i5 := by kernel_rfl
  i9 := by kernel_rfl
  i46 := by kernel_rfl
  i53 := by kernel_rfl
  i212 := by kernel_rfl
  m17 := by kernel_rfl }
open Go.Lib in
/-- internal/strconv.numDigits, at a d that is not 0: THE NUMBER OF d's DECIMAL DIGITS. The world is as it was. (LAID: no walk: one application.) -/
theorem Tryz.internal_strconv_numDigits (u : Nat) (h1 : 1 ≤ u) (h2 : u < 18446744073709551616) (w : World) (htab : Lib.TabIs Tryz.prog w "internal/strconv.uint64pow10" .u64 Lib.pow10Tab) :
    Calls Tryz.prog 142 #[.int .u64 u] w fun e w' => e = .returned (.int .i64 (Lib.nDigits u)) ∧ w' = w := Any.internal_strconv_numDigits Tryz.laysM284 u h1 h2 w htab
def Tryz.lays285_ren : Go.Shelf.Ren := ⟨fun | 285 => 143 | n => n, fun | 37 => 180 | 53 => 28 | 3 => 3 | 4 => 4 | 51 => 23 | 9 => 9 | 5 => 5 | 0 => 0 | n => n, fun | n => n⟩
theorem Tryz.lays285 : Go.Proofs.Lays.n285 Tryz.prog Tryz.lays285_ren := {
  mixed := by kernel_rfl
  f285 := Tryz.func143.trans (congrArg some (by kernel_rfl))
  t0 := Tryz.underlying0
  a0 := Tryz.isAgg0
  z0 := Tryz.sizeOf0
  v0 := Tryz.zeroValue0
  t3 := Tryz.underlying3
  a3 := Tryz.isAgg3
  z3 := Tryz.sizeOf3
  v3 := Tryz.zeroValue3
  t4 := Tryz.underlying4
  a4 := Tryz.isAgg4
  z4 := Tryz.sizeOf4
  v4 := Tryz.zeroValue4
  t5 := Tryz.underlying5
  a5 := Tryz.isAgg5
  z5 := Tryz.sizeOf5
  v5 := Tryz.zeroValue5
  t9 := Tryz.underlying9
  a9 := Tryz.isAgg9
  z9 := Tryz.sizeOf9
  v9 := Tryz.zeroValue9
  t37 := Tryz.underlying180
  a37 := Tryz.isAgg180
  z37 := Tryz.sizeOf180
  v37 := Tryz.zeroValue180
  t51 := Tryz.underlying23
  a51 := Tryz.isAgg23
  z51 := Tryz.sizeOf23
  v51 := Tryz.zeroValue23
  t53 := Tryz.underlying28
  a53 := Tryz.isAgg28
  z53 := Tryz.sizeOf28
  v53 := Tryz.zeroValue28 }
open Go.RowKit Go.Sort Go.Lib in
/-- internal/strconv.formatBase10: "formatBase10 formats the decimal representation of u into a. The caller is responsible for ensuring that a is big enough to hold u. If a is too big, leading zeros will be filled in as needed.": THE ROW HOLDS u's DIGITS ('FmtInv .. 0 ..': every place t holds 'dg u (len - 1 - t)'); all else is as it was but for the count of draws. (LAID: no walk: one application.) -/
theorem Tryz.internal_strconv_formatBase10 (blk off cap : Nat) (u : Nat) (d : Array UInt8) (w : World) (hH : Holds (fun (b : UInt8) => Value.int .u8 (b.toNat : Int)) w blk off d) (hu : u < 10 ^ d.size) (hu64 : u < 18446744073709551616) (hsz : d.size < 4611686018427387904) :
    Calls Tryz.prog 143 #[.slice (some ⟨blk, off, none⟩) d.size cap, .int .u64 u] w fun e w' =>
      e = .returned (.tuple #[]) ∧ ∃ (n v' : Nat) (dk : Array UInt8), w' = (putRow (fun (b : UInt8) => Value.int .u8 (b.toNat : Int)) w blk off dk).drewN n ∧ FmtInv d.size u 0 v' dk := Any.internal_strconv_formatBase10 Tryz.lays285 blk off cap u d w hH hu hu64 hsz
def Tryz.laysM171_ren : Go.Shelf.Ren := ⟨fun | 171 => 102 | 243 => 127 | 246 => 145 | 283 => 141 | 284 => 142 | 285 => 143 | 286 => 144 | 129 => 153 | 317 => 152 | 318 => 154 | 319 => 155 | 320 => 156 | 337 => 159 | 338 => 160 | n => n, fun | 3 => 3 | 9 => 9 | 2 => 2 | 4 => 4 | 171 => 201 | 0 => 0 | 53 => 28 | 37 => 180 | 5 => 5 | 173 => 204 | 212 => 210 | 51 => 23 | 20 => 20 | 213 => 211 | 46 => 150 | 232 => 217 | 233 => 218 | n => n, fun | 17 => 2 | 18 => 4 | 19 => 5 | n => n⟩
theorem Tryz.laysM171 : Go.Proofs.LaysM.n171 Tryz.prog Tryz.laysM171_ren := {
  mixed := by kernel_rfl
  f129 := Tryz.func153.trans (congrArg some (by kernel_rfl))
  f171 := Tryz.func102.trans (congrArg some (by kernel_rfl))
  f243 := Tryz.func127.trans (congrArg some (by kernel_rfl))
  f246 := Tryz.func145.trans (congrArg some (by kernel_rfl))
  f283 := Tryz.func141.trans (congrArg some (by kernel_rfl))
  f284 := Tryz.func142.trans (congrArg some (by kernel_rfl))
  f285 := Tryz.func143.trans (congrArg some (by kernel_rfl))
  f286 := Tryz.func144.trans (congrArg some (by kernel_rfl))
  f317 := Tryz.func152.trans (congrArg some (by kernel_rfl))
  f318 := Tryz.func154.trans (congrArg some (by kernel_rfl))
  f319 := Tryz.func155.trans (congrArg some (by kernel_rfl))
  f320 := Tryz.func156.trans (congrArg some (by kernel_rfl))
  f337 := Tryz.func159.trans (congrArg some (by kernel_rfl))
  f338 := Tryz.func160.trans (congrArg some (by kernel_rfl))
  t0 := Tryz.underlying0
  a0 := Tryz.isAgg0
  z0 := Tryz.sizeOf0
  v0 := Tryz.zeroValue0
  t2 := Tryz.underlying2
  a2 := Tryz.isAgg2
  z2 := Tryz.sizeOf2
  v2 := Tryz.zeroValue2
  t3 := Tryz.underlying3
  a3 := Tryz.isAgg3
  z3 := Tryz.sizeOf3
  v3 := Tryz.zeroValue3
  t4 := Tryz.underlying4
  a4 := Tryz.isAgg4
  z4 := Tryz.sizeOf4
  v4 := Tryz.zeroValue4
  t5 := Tryz.underlying5
  a5 := Tryz.isAgg5
  z5 := Tryz.sizeOf5
  v5 := Tryz.zeroValue5
  t9 := Tryz.underlying9
  a9 := Tryz.isAgg9
  z9 := Tryz.sizeOf9
  v9 := Tryz.zeroValue9
  t20 := Tryz.underlying20
  a20 := Tryz.isAgg20
  z20 := Tryz.sizeOf20
  v20 := Tryz.zeroValue20
  t37 := Tryz.underlying180
  a37 := Tryz.isAgg180
  z37 := Tryz.sizeOf180
  v37 := Tryz.zeroValue180
  t46 := Tryz.underlying150
  a46 := Tryz.isAgg150
  z46 := Tryz.sizeOf150
  v46 := Tryz.zeroValue150
  t51 := Tryz.underlying23
  a51 := Tryz.isAgg23
  z51 := Tryz.sizeOf23
  v51 := Tryz.zeroValue23
  t53 := Tryz.underlying28
  a53 := Tryz.isAgg28
  z53 := Tryz.sizeOf28
  v53 := Tryz.zeroValue28
  t171 := Tryz.underlying201
  a171 := Tryz.isAgg201
  z171 := Tryz.sizeOf201
  v171 := Tryz.zeroValue201
  t173 := Tryz.underlying204
  a173 := Tryz.isAgg204
  z173 := Tryz.sizeOf204
  v173 := Tryz.zeroValue204
  t212 := Tryz.underlying210
  a212 := Tryz.isAgg210
  z212 := Tryz.sizeOf210
  v212 := Tryz.zeroValue210
  t213 := Tryz.underlying211
  a213 := Tryz.isAgg211
  z213 := Tryz.sizeOf211
  t232 := Tryz.underlying217
  a232 := Tryz.isAgg217
  z232 := Tryz.sizeOf217
  v232 := Tryz.zeroValue217
  t233 := Tryz.underlying218
  a233 := Tryz.isAgg218
  z233 := Tryz.sizeOf218
  v233 := Tryz.zeroValue218
  g17 := by kernel_rfl
  g18 := by kernel_rfl
  g19 := by kernel_rfl
  i0 := by kernel_rfl
  i2 := by kernel_rfl
  i3 := by kernel_rfl
  i4 := by kernel_rfl
  i5 := by kernel_rfl
  i9 := by kernel_rfl
  i20 := by kernel_rfl
  i37 := by kernel_rfl
  i46 := by kernel_rfl
  i51 := by kernel_rfl
  i53 := by kernel_rfl
  i171 := by kernel_rfl
  i173 := by kernel_rfl
  i212 := by kernel_rfl
  i232 := by kernel_rfl
  i233 := by kernel_rfl
  m17 := by kernel_rfl
  m18 := by kernel_rfl
  m19 := by kernel_rfl }
open Go.RowKit Go.Sort Go.Lib in
/-- strconv.Itoa: "Itoa is equivalent to FormatInt(int64(i), 10).": i's DECIMAL NUMERAL ('Lib.itoa': a '-' where i is negative, then the digits), FOR EVERY int. The world behind the call: the world before it, new blocks behind the heap (the library's 'var a [24]byte'), draws. (LAID: no walk: one application.) -/
theorem Tryz.strconv_Itoa (n : Int) (h0 : -9223372036854775808 ≤ n) (h1 : n ≤ 9223372036854775807) (w : World) (htab : Lib.TabIs Tryz.prog w "internal/strconv.uint64pow10" .u64 Lib.pow10Tab) :
    Calls Tryz.prog 102 #[.int .i64 n] w fun e w' => e = .returned (.string ⟨(Lib.itoa n).toArray⟩) ∧ ∃ k os, w' = grow (w.drewN k) os := Any.strconv_Itoa Tryz.laysM171 n h0 h1 w htab
def Tryz.lays105_ren : Go.Shelf.Ren := ⟨fun | 105 => 103 | 212 => 128 | 99 => 129 | 165 => 130 | 166 => 131 | 170 => 132 | 169 => 133 | 263 => 146 | 264 => 92 | 206 => 147 | 240 => 148 | 241 => 149 | 276 => 157 | 277 => 158 | n => n, fun | 9 => 9 | 3 => 3 | 4 => 4 | 20 => 20 | 0 => 0 | 46 => 150 | 109 => 182 | 5 => 5 | 72 => 187 | 76 => 191 | 51 => 23 | 146 => 177 | 53 => 28 | 148 => 147 | 70 => 185 | 37 => 180 | 75 => 190 | 127 => 208 | 164 => 214 | 80 => 194 | n => n, fun | n => n⟩
theorem Tryz.lays105 : Go.Proofs.Lays.n105 Tryz.prog Tryz.lays105_ren := {
  mixed := by kernel_rfl
  f99 := Tryz.func129.trans (congrArg some (by kernel_rfl))
  f105 := Tryz.func103.trans (congrArg some (by kernel_rfl))
  f165 := Tryz.func130.trans (congrArg some (by kernel_rfl))
  f166 := Tryz.func131.trans (congrArg some (by kernel_rfl))
  f169 := Tryz.func133.trans (congrArg some (by kernel_rfl))
  f170 := Tryz.func132.trans (congrArg some (by kernel_rfl))
  f206 := Tryz.func147.trans (congrArg some (by kernel_rfl))
  f212 := Tryz.func128.trans (congrArg some (by kernel_rfl))
  f240 := Tryz.func148.trans (congrArg some (by kernel_rfl))
  f241 := Tryz.func149.trans (congrArg some (by kernel_rfl))
  f263 := Tryz.func146.trans (congrArg some (by kernel_rfl))
  f264 := Tryz.func92.trans (congrArg some (by kernel_rfl))
  f276 := Tryz.func157.trans (congrArg some (by kernel_rfl))
  f277 := Tryz.func158.trans (congrArg some (by kernel_rfl))
  t0 := Tryz.underlying0
  a0 := Tryz.isAgg0
  z0 := Tryz.sizeOf0
  v0 := Tryz.zeroValue0
  t3 := Tryz.underlying3
  a3 := Tryz.isAgg3
  z3 := Tryz.sizeOf3
  v3 := Tryz.zeroValue3
  t4 := Tryz.underlying4
  a4 := Tryz.isAgg4
  z4 := Tryz.sizeOf4
  v4 := Tryz.zeroValue4
  t5 := Tryz.underlying5
  a5 := Tryz.isAgg5
  z5 := Tryz.sizeOf5
  v5 := Tryz.zeroValue5
  t9 := Tryz.underlying9
  a9 := Tryz.isAgg9
  z9 := Tryz.sizeOf9
  v9 := Tryz.zeroValue9
  t20 := Tryz.underlying20
  a20 := Tryz.isAgg20
  z20 := Tryz.sizeOf20
  v20 := Tryz.zeroValue20
  t37 := Tryz.underlying180
  a37 := Tryz.isAgg180
  z37 := Tryz.sizeOf180
  v37 := Tryz.zeroValue180
  t46 := Tryz.underlying150
  a46 := Tryz.isAgg150
  z46 := Tryz.sizeOf150
  v46 := Tryz.zeroValue150
  t51 := Tryz.underlying23
  a51 := Tryz.isAgg23
  z51 := Tryz.sizeOf23
  v51 := Tryz.zeroValue23
  t53 := Tryz.underlying28
  a53 := Tryz.isAgg28
  z53 := Tryz.sizeOf28
  v53 := Tryz.zeroValue28
  t70 := Tryz.underlying185
  a70 := Tryz.isAgg185
  z70 := Tryz.sizeOf185
  v70 := Tryz.zeroValue185
  t72 := Tryz.underlying187
  a72 := Tryz.isAgg187
  z72 := Tryz.sizeOf187
  v72 := Tryz.zeroValue187
  t75 := Tryz.underlying190
  a75 := Tryz.isAgg190
  z75 := Tryz.sizeOf190
  v75 := Tryz.zeroValue190
  t76 := Tryz.underlying191
  a76 := Tryz.isAgg191
  z76 := Tryz.sizeOf191
  v76 := Tryz.zeroValue191
  t109 := Tryz.underlying182
  a109 := Tryz.isAgg182
  z109 := Tryz.sizeOf182
  v109 := Tryz.zeroValue182
  t127 := Tryz.underlying208
  a127 := Tryz.isAgg208
  z127 := Tryz.sizeOf208
  v127 := Tryz.zeroValue208
  t146 := Tryz.underlying177
  a146 := Tryz.isAgg177
  z146 := Tryz.sizeOf177
  v146 := Tryz.zeroValue177
  t148 := Tryz.underlying147
  a148 := Tryz.isAgg147
  z148 := Tryz.sizeOf147
  v148 := Tryz.zeroValue147
  t164 := Tryz.underlying214
  a164 := Tryz.isAgg214
  z164 := Tryz.sizeOf214
  v164 := Tryz.zeroValue214 }
theorem Tryz.Builder_Extra_105 : Builder.Extra Tryz.prog Tryz.lays105_ren := {
  sizeBuilder := by kernel_rfl
  liesBuilder := by kernel_rfl
  t5 := Tryz.underlying5
  a5 := Tryz.isAgg5
  z5 := Tryz.sizeOf5
  v5 := Tryz.zeroValue5
  infoByte := by kernel_rfl
  cellsByte := by kernel_rfl
  sizeByte := by kernel_rfl
  neB5 := by decide }
open Go.RowKit Go.Lib in
/-- **strings.Repeat: count ≥ 0, the result within one allocation: count copies of s.** (LAID: no walk: one application.) -/
theorem Tryz.strings_Repeat (s : ByteArray) (c : Nat) (w : World) (hc : c ≤ 9223372036854775807) (hlen : s.size * c ≤ 140737488355328) :
    Calls Tryz.prog 103 #[.string s, .int .i64 c] w fun e w' => e = .returned (.string ⟨(Lib.repeatL s.data.toList c).toArray⟩) ∧ Below w.heap.size w w' := Any.strings_Repeat Tryz.lays105 Tryz.Builder_Extra_105 s c w hc hlen
end Go.Proofs

namespace Go.Proofs.YtdcaodkjofkmgaaGreatDoor
open Go.Sx
set_option linter.unusedSimpArgs false
set_option linter.unusedVariables false
set_option maxRecDepth 100000
set_option maxHeartbeats 4000000

/-- The decimal text of a number. -/
def decF : Nat → Nat → List UInt8
  | 0, _ => []
  | f + 1, n => if n < 10 then [UInt8.ofNat (48 + n)] else decF f (n / 10) ++ [UInt8.ofNat (48 + n % 10)]
theorem decF_eq : ∀ f n, n < f → decF f n = Lib.decDigits n
  | 0, n, h => by omega
  | f + 1, n, h => by
    rw [decF, Lib.decDigits]
    by_cases h1 : n < 10
    · rw [if_pos h1, dif_pos h1]
    · rw [if_neg h1, dif_neg h1, decF_eq f (n / 10) (by omega)]
def tN (n : Nat) : ByteArray := ⟨(decF (n + 1) n).toArray⟩
theorem tN_eq (n : Nat) : tN n = ⟨(Lib.decDigits n).toArray⟩ := by rw [tN, decF_eq _ _ (Nat.lt_succ_self n)]
def tZ (z : Int) : ByteArray := if z < 0 then "-".toUTF8 ++ tN z.natAbs else tN z.natAbs
def tQ (q : Rat) : ByteArray := if q.den = 1 then tZ q.num else tZ q.num ++ "/".toUTF8 ++ tN q.den

theorem t_small (i : Nat) (h : i < 100) : CallOK Tryz.prog 141 [.val (.int .i64 (i : Nat))] [] (.val (.string (tN i))) [] [] :=
  call_vals' (vs := [.int .i64 (i : Nat)]) ⟨Tryz.f141, Tryz.func141, rfl, by kernel_rfl⟩ rfl (fun w => by rw [tN_eq]; exact Tryz.internal_strconv_small i h w)

theorem t_iFormat (n : Nat) (h : n < 100) : CallOK Tryz.prog 125 [.val (.int .u64 (n : Nat)), .val (.int .i64 10)] [] (.val (.string (tN n))) [] [] := by
  have k1 := t_small n h
  have t1 : decide ((n : Int) < 100) = true := decide_eq_true (by omega)
  have t2 : IntKind.i64.wrap (n : Int) = n := wrap_i64 (by omega) (by omega)
  refine callV (Z := []) tabOK mixedOK Tryz.func125 rfl (by kernel_rfl) rfl rfl (by kernel_rfl) rfl ?_
  intro W0 w0 ρ0 hE
  conv => whnf
  (repeat ((first | refine step_w1 rfl rfl ?_ | refine g_c (by assumption) ?_ | rw [beq_self_eq_true] | rw [t1] | rw [t2]); conv => whnf)); (first | exact Recast.refl _ | exact Frz.recast (Recast.refl _) rfl | (refine Frz.one rfl rfl ?_; skip) | (refine Frz.tup ?_; skip))
theorem t_Format (n : Nat) (h : n < 100) : CallOK Tryz.prog 99 [.val (.int .u64 (n : Nat)), .val (.int .i64 10)] [] (.val (.string (tN n))) [] [] := by
  have k1 := t_iFormat n h
  refine callV (Z := []) tabOK mixedOK Tryz.func99 rfl (by kernel_rfl) rfl rfl (by kernel_rfl) rfl ?_
  intro W0 w0 ρ0 hE
  conv => whnf
  (repeat (first | (refine g_c (by assumption) ?_; conv => whnf))); (first | exact Recast.refl _ | exact Frz.recast (Recast.refl _) rfl | (refine Frz.one rfl rfl ?_; skip) | (refine Frz.tup ?_; skip))
theorem t_Nat (n : Nat) (h : n < 100) : CallOK Tryz.prog 71 [.nat n] [] (.val (.string (tN n))) [] [] := by
  have k1 := t_Format n h
  have e1 : low n = (n : Int) := low_small (by omega)
  have e2 : ((big n).toList == (ByteArray.mk #[]).toList) = true := by rw [big_eq]; exact decide_eq_true (by omega)
  refine callV (Z := []) tabOK mixedOK Tryz.func71 rfl (by kernel_rfl) rfl rfl (by kernel_rfl) rfl ?_
  intro W0 w0 ρ0 hE
  conv => whnf
  (repeat ((first | refine step_w1 rfl rfl ?_ | refine g_c (by assumption) ?_ | rw [e2] | rw [e1]); conv => whnf)); (first | exact Recast.refl _ | exact Frz.recast (Recast.refl _) rfl | (refine Frz.one rfl rfl ?_; skip) | (refine Frz.tup ?_; skip))

theorem tN_size : ∀ n, n < 100 → (tN n).size ≤ 2 := by
  intro n h
  rw [tN_eq]
  show (Lib.decDigits n).toArray.size ≤ 2
  by_cases h1 : n < 10
  · rw [Lib.decDigits_one h1]; simp
  · rw [Lib.decDigits_two h1 h]; simp
theorem t_Int (z : Int) (h : z.natAbs < 100) : CallOK Tryz.prog 70 [.int z] [] (.val (.string (tZ z))) [] [] := by
  have k1 := t_Nat z.natAbs h
  have hs := tN_size _ h
  have h1 : (ByteArray.mk #[45]).size = 1 := rfl
  have h2 : (ByteArray.mk #[45]).size + (tN z.natAbs).size ≤ 9223372036854775807 := by omega
  unfold tZ
  refine callV (Z := []) tabOK mixedOK Tryz.func70 rfl (by kernel_rfl) rfl rfl (by kernel_rfl) rfl ?_
  intro W0 w0 ρ0 hE
  conv => whnf
  by_cases hz : z < 0
  · have t1 : decide (z < 0) = true := decide_eq_true hz
    rw [if_pos hz]
    (repeat ((first | refine step_w1 rfl rfl ?_ | refine And.intro (by first | decide | omega | (simp only [tiB5, tiB23, tiB3, tiB2, tiB9, tiB36, tiB54, tiB121, tiB34, tiB28, tiB4, tiB50, tiB52, dlen, List.length_replicate, List.length_set, List.length_map, List.length_zipWith, List.length_take, List.length_append, List.length_cons, List.length_nil]; omega)) ?_ | refine g_c (by assumption) ?_ | rw [t1]); conv => whnf)); (first | exact Recast.refl _ | exact Frz.recast (Recast.refl _) rfl | (refine Frz.one rfl rfl ?_; skip) | (refine Frz.tup ?_; skip))
  · have t1 : decide (z < 0) = false := decide_eq_false hz
    rw [if_neg hz]
    (repeat (first | (refine step_w2 rfl rfl ?_; conv => whnf) | (refine g_c (by assumption) ?_; conv => whnf) | (rw [t1]; conv => whnf))); (first | exact Recast.refl _ | exact Frz.recast (Recast.refl _) rfl | (refine Frz.one rfl rfl ?_; skip) | (refine Frz.tup ?_; skip))
theorem tZ_size {z : Int} (h : z.natAbs < 100) : (tZ z).size ≤ 3 := by
  have hs := tN_size _ h
  unfold tZ
  split
  · rw [ByteArray.size_append]; have : ("-".toUTF8).size = 1 := rfl; omega
  · omega
theorem t_Frac (q : Rat) (h : q.num.natAbs < 100) (h' : q.den < 100) : CallOK Tryz.prog 43 [.frac q] [] (.val (.string (tQ q))) [] [] := by
  have kw := c_Whole q
  have k1 := t_Int q.num h
  have k2 := t_Nat q.den h'
  have k3 := c_den natBig q (Nat.le_trans (sz_le.2 (show q.den < 2 ^ 64 by omega)) (by decide))
  have hs := tZ_size h
  have hs2 := tN_size _ h'
  have h1 : (ByteArray.mk #[47]).size = 1 := rfl
  have h2 : (tZ q.num).size + (ByteArray.mk #[47]).size ≤ 9223372036854775807 := by omega
  have h3 : (tZ q.num ++ (ByteArray.mk #[47])).size + (tN q.den).size ≤ 9223372036854775807 := by rw [ByteArray.size_append]; omega
  unfold tQ
  refine callV (Z := []) tabOK mixedOK Tryz.func43 rfl (by kernel_rfl) rfl rfl (by kernel_rfl) rfl ?_
  intro W0 w0 ρ0 hE
  conv => whnf
  by_cases hd : q.den = 1
  · rw [decide_eq_true hd] at kw
    rw [if_pos hd]
    (repeat (first | (refine step_w1 rfl rfl ?_; conv => whnf) | (refine g_c (by assumption) ?_; conv => whnf))); (first | exact Recast.refl _ | exact Frz.recast (Recast.refl _) rfl | (refine Frz.one rfl rfl ?_; skip) | (refine Frz.tup ?_; skip))
  · rw [decide_eq_false hd] at kw
    rw [if_neg hd]
    (repeat ((first | refine step_w2 rfl rfl ?_ | refine step_i (by kernel_rfl) ?_ | refine And.intro (by first | decide | omega | (simp only [tiB5, tiB23, tiB3, tiB2, tiB9, tiB36, tiB54, tiB121, tiB34, tiB28, tiB4, tiB50, tiB52, dlen, List.length_replicate, List.length_set, List.length_map, List.length_zipWith, List.length_take, List.length_append, List.length_cons, List.length_nil]; omega)) ?_ | refine g_c (by assumption) ?_); conv => whnf)); (first | exact Recast.refl _ | exact Frz.recast (Recast.refl _) rfl | (refine Frz.one rfl rfl ?_; skip) | (refine Frz.tup ?_; skip))

end Go.Proofs.YtdcaodkjofkmgaaGreatDoor

namespace Go.Proofs.YtdcaodkjofkmgaaGreatDoor
open Go.Sx
set_option linter.unusedSimpArgs false
set_option linter.unusedVariables false
set_option maxRecDepth 100000
set_option maxHeartbeats 4000000

theorem c_text (q : Rat) (s : ByteArray) (h : q.num.natAbs < 100) (h' : q.den < 100) (he : ((tQ q).toList == s.toList) = true) : CallOK Tryz.prog 40 [.frac q, .val (.string s)] [] (.val (.bool true)) [] [] := by
  have k1 := t_Frac q h h'
  refine callV (Z := [2]) tabOK mixedOK Tryz.func40 rfl (by kernel_rfl) rfl rfl (by kernel_rfl) rfl ?_
  intro W0 w0 ρ0 hE
  conv => whnf
  (repeat (first | (refine g_c (by assumption) ?_; conv => whnf) | (refine g_o (op_loadA rfl (ev_ok rfl) (tgt rfl) rfl (Nat.succ_ne_zero _) rfl) ?_; conv => whnf) | (rw [he]; conv => whnf)))
  exact Recast.refl _

abbrev r13 : Rat := ((1 : Int) : Rat) / ((3 : Int) : Rat)
abbrev r12 : Rat := ((1 : Int) : Rat) / ((2 : Int) : Rat)
theorem l_lives : CallOK Tryz.prog 15 [] [] (.val (.bool true)) [] [] := by
  have k1 := c_fOf natBig 1 3 (by decide +kernel) (by decide) (by decide) (by decide) (by decide) (by decide)
  have k2 := c_fOf natBig 1 2 (by decide +kernel) (by decide) (by decide) (by decide) (by decide) (by decide)
  have k3 := c_Value 2 3 r13 r13 r13 1000 (by decide) (by decide +kernel) (by decide +kernel) (by decide +kernel)
  have k4 := c_Value 2 0 r13 r13 r13 1000 (by decide) (by decide +kernel) (by decide +kernel) (by decide +kernel)
  have k5 := c_Slopes 2 5 r12 r12 0 1000 (by decide) (by decide +kernel) (by decide +kernel) (by decide +kernel)
  have k6 := c_Mass 1 0 0
  have k7 := c_Mass 1 0 1
  have k8 := c_Mass 2 0 3
  rw [show errF 2 3 = 0 from by decide +kernel] at k3
  rw [show errF 2 0 = 0 from by decide +kernel] at k4
  rw [show errF 2 5 = 0 from by decide +kernel] at k5
  rw [show err2 1 0 0 = 0 from by decide +kernel] at k6
  rw [show err2 1 0 1 = 0 from by decide +kernel] at k7
  rw [show err2 2 0 3 = 0 from by decide +kernel] at k8
  have t3 := c_text (atF (powersF 2 3) r13 r13 r13) ⟨#[52, 47, 57]⟩ (by decide +kernel) (by decide +kernel) (by decide +kernel)
  have t4 := c_text (atF (powersF 2 0) r13 r13 r13) ⟨#[45, 49, 47, 57]⟩ (by decide +kernel) (by decide +kernel) (by decide +kernel)
  have t5 := c_text (atF (slopeL 0 (powersF 2 5)) r12 r12 0) ⟨#[50]⟩ (by decide +kernel) (by decide +kernel) (by decide +kernel)
  have t6 := c_text (atF (slopeL 1 (powersF 2 5)) r12 r12 0) ⟨#[50]⟩ (by decide +kernel) (by decide +kernel) (by decide +kernel)
  have t7 := c_text (atF (slopeL 2 (powersF 2 5)) r12 r12 0) ⟨#[48]⟩ (by decide +kernel) (by decide +kernel) (by decide +kernel)
  have t8 := c_text (togF (powersF 1 0) (powersF 1 0)) ⟨#[49, 47, 54]⟩ (by decide +kernel) (by decide +kernel) (by decide +kernel)
  have t9 := c_text (togF (powersF 1 0) (powersF 1 1)) ⟨#[49, 47, 49, 50]⟩ (by decide +kernel) (by decide +kernel) (by decide +kernel)
  have t10 := c_text (togF (powersF 2 0) (powersF 2 3)) ⟨#[45, 49, 47, 52, 53]⟩ (by decide +kernel) (by decide +kernel) (by decide +kernel)
  generalize atF (powersF 2 3) r13 r13 r13 = x3 at *
  generalize atF (powersF 2 0) r13 r13 r13 = x4 at *
  generalize atF (slopeL 0 (powersF 2 5)) r12 r12 0 = x5 at *
  generalize atF (slopeL 1 (powersF 2 5)) r12 r12 0 = x6 at *
  generalize atF (slopeL 2 (powersF 2 5)) r12 r12 0 = x7 at *
  generalize togF (powersF 1 0) (powersF 1 0) = x8 at *
  generalize togF (powersF 1 0) (powersF 1 1) = x9 at *
  generalize togF (powersF 2 0) (powersF 2 3) = x10 at *
  refine callV (Z := []) tabOK mixedOK Tryz.func15 rfl (by kernel_rfl) rfl rfl (by kernel_rfl) rfl ?_
  intro W0 w0 ρ0 hE
  conv => whnf
  (repeat ((first | refine step_w1 rfl rfl ?_ | refine step_w2 rfl rfl ?_ | refine And.intro (by first | decide | omega | (simp only [tiB5, tiB23, tiB3, tiB2, tiB9, tiB36, tiB54, tiB121, tiB34, tiB28, tiB4, tiB50, tiB52, dlen, List.length_replicate, List.length_set, List.length_map, List.length_zipWith, List.length_take, List.length_append, List.length_cons, List.length_nil]; omega)) ?_ | refine g_c (by assumption) ?_ | refine g_o (op_pickT rfl (ev_ok rfl) (ev_ok rfl)) ?_ | refine g_o (op_pickF rfl (ev_ok rfl) (ev_ok rfl)) ?_); conv => whnf))
  exact Recast.refl _
end Go.Proofs.YtdcaodkjofkmgaaGreatDoor

namespace Go.Proofs.YtdcaodkjofkmgaaGreatDoor
open Go.Sx
set_option linter.unusedSimpArgs false
set_option linter.unusedVariables false
set_option maxRecDepth 100000
set_option maxHeartbeats 4000000

end Go.Proofs.YtdcaodkjofkmgaaGreatDoor

namespace Go.Proofs.YtdcaodkjofkmgaaGreatDoor
open Go.Sx
set_option linter.unusedSimpArgs false
set_option linter.unusedVariables false
set_option maxRecDepth 100000
set_option maxHeartbeats 4000000

end Go.Proofs.YtdcaodkjofkmgaaGreatDoor

namespace Go.Proofs.YtdcaodkjofkmgaaGreatDoor
open Go.Sx
set_option linter.unusedSimpArgs false
set_option linter.unusedVariables false

section
variable (x y : Nat → Rat)
end

end Go.Proofs.YtdcaodkjofkmgaaGreatDoor

namespace Go.Proofs.YtdcaodkjofkmgaaGreatDoor
open Go.Sx
set_option linter.unusedSimpArgs false
set_option linter.unusedVariables false
set_option maxRecDepth 100000
set_option maxHeartbeats 4000000

end Go.Proofs.YtdcaodkjofkmgaaGreatDoor

namespace Go.Proofs.YtdcaodkjofkmgaaGreatDoor
open Go.Sx
set_option linter.unusedSimpArgs false
set_option linter.unusedVariables false
set_option maxRecDepth 100000
set_option maxHeartbeats 4000000

/-- The coordinate k of the node n. -/
def nodeC (n : Int) (k : Int) : Rat := if n < 3 then (if n = k then ((1 : Int) : Rat) else 0) else if k ∈ endsF n then r12 else 0
def a3 (x y z : Rat) : Blk := ⟨40, true, .one [.frac x, .frac y, .frac z]⟩
theorem c_NodeYes (o n : Int) (h : thereF o n = true) : CallOK Tryz.prog 32 [.val (.int .i64 o), .val (.int .i64 n)] [] (.tup [.agg [.frac (nodeC n 0), .frac (nodeC n 1), .frac (nodeC n 2)], .val (.int .i64 0)]) [] [] := by
  have k1 := c_there o n
  rw [h] at k1
  have k2 := c_fInt 1 (by decide) (by decide)
  have k3 := c_fOf natBig 1 2 (by decide +kernel) (by decide) (by decide) (by decide) (by decide) (by decide)
  have hn : n = 0 ∨ n = 1 ∨ n = 2 ∨ n = 3 ∨ n = 4 ∨ n = 5 := by have := there_cases h; omega
  clear h
  rcases hn with rfl | rfl | rfl | rfl | rfl | rfl
  · have e0 : nodeC 0 0 = ((1 : Int) : Rat) := by decide +kernel
    have e1 : nodeC 0 1 = 0 := by decide +kernel
    have e2 : nodeC 0 2 = 0 := by decide +kernel
    rw [e0, e1, e2]
    refine callV (Z := []) tabOK mixedOK Tryz.func32 rfl (by kernel_rfl) rfl rfl (by kernel_rfl) rfl ?_
    intro W0 w0 ρ0 hE
    conv => whnf
    (repeat ((first | refine step_w1 rfl rfl ?_ | refine step_w2 rfl rfl ?_ | refine And.intro (by first | decide | omega | (simp only [tiB5, tiB23, tiB3, tiB2, tiB9, tiB36, tiB54, tiB121, tiB34, tiB28, tiB4, tiB50, tiB52, dlen, List.length_replicate, List.length_set, List.length_map, List.length_zipWith, List.length_take, List.length_append, List.length_cons, List.length_nil]; omega)) ?_ | refine g_c (by assumption) ?_); conv => whnf))
    exact Recast.refl _
  · have e0 : nodeC 1 0 = 0 := by decide +kernel
    have e1 : nodeC 1 1 = ((1 : Int) : Rat) := by decide +kernel
    have e2 : nodeC 1 2 = 0 := by decide +kernel
    rw [e0, e1, e2]
    refine callV (Z := []) tabOK mixedOK Tryz.func32 rfl (by kernel_rfl) rfl rfl (by kernel_rfl) rfl ?_
    intro W0 w0 ρ0 hE
    conv => whnf
    (repeat ((first | refine step_w1 rfl rfl ?_ | refine step_w2 rfl rfl ?_ | refine And.intro (by first | decide | omega | (simp only [tiB5, tiB23, tiB3, tiB2, tiB9, tiB36, tiB54, tiB121, tiB34, tiB28, tiB4, tiB50, tiB52, dlen, List.length_replicate, List.length_set, List.length_map, List.length_zipWith, List.length_take, List.length_append, List.length_cons, List.length_nil]; omega)) ?_ | refine g_c (by assumption) ?_); conv => whnf))
    exact Recast.refl _
  · have e0 : nodeC 2 0 = 0 := by decide +kernel
    have e1 : nodeC 2 1 = 0 := by decide +kernel
    have e2 : nodeC 2 2 = ((1 : Int) : Rat) := by decide +kernel
    rw [e0, e1, e2]
    refine callV (Z := []) tabOK mixedOK Tryz.func32 rfl (by kernel_rfl) rfl rfl (by kernel_rfl) rfl ?_
    intro W0 w0 ρ0 hE
    conv => whnf
    (repeat ((first | refine step_w1 rfl rfl ?_ | refine step_w2 rfl rfl ?_ | refine And.intro (by first | decide | omega | (simp only [tiB5, tiB23, tiB3, tiB2, tiB9, tiB36, tiB54, tiB121, tiB34, tiB28, tiB4, tiB50, tiB52, dlen, List.length_replicate, List.length_set, List.length_map, List.length_zipWith, List.length_take, List.length_append, List.length_cons, List.length_nil]; omega)) ?_ | refine g_c (by assumption) ?_); conv => whnf))
    exact Recast.refl _
  · have e0 : nodeC 3 0 = 0 := by decide +kernel
    have e1 : nodeC 3 1 = r12 := by decide +kernel
    have e2 : nodeC 3 2 = r12 := by decide +kernel
    rw [e0, e1, e2]
    have t4 : IntKind.i64.wrap ((3 : Int) - 3) = 0 := by decide
    refine callV (Z := []) tabOK mixedOK Tryz.func32 rfl (by kernel_rfl) rfl rfl (by kernel_rfl) rfl ?_
    intro W0 w0 ρ0 hE
    conv => whnf
    (repeat ((first | refine step_w2 rfl rfl ?_ | refine g_c (by assumption) ?_ | refine ⟨_, [], [], op_globIndex rfl (ev_ok rfl) (ev_ok rfl) (tgt rfl) rfl (tgt rfl) (by decide) (by decide), nil_fk, nil_new, ?_⟩ | refine ⟨_, [], [], op_globLoadA rfl (ev_ok rfl) (tgt rfl) rfl (vs := [1, 2]) rfl tabSides (by decide) (by decide), nil_fk, nil_new, ?_⟩ | rw [t4] | rw [Nat.zero_add]); conv => whnf))
    refine SW_loopN hE (fun k => k) [4, 5, 6, 7, 29, 30] [4, 6, 7] (fun m fr hp => ∃ (r : Nat) (x y z : Rat), m = 2 - r ∧ r ≤ 2 ∧ ((r = 0 → x = 0 ∧ y = 0 ∧ z = 0) ∧ (r = 1 → x = 0 ∧ y = r12 ∧ z = 0) ∧ (r = 2 → x = 0 ∧ y = r12 ∧ z = r12)) ∧
      fr = [(4, .ptr 4 0 0 0), (5, .val (.int .i64 0)), (6, .ptr 6 0 0 0), (7, .ptr 7 0 0 0), (29, .agg [.val (.int .i64 1), .val (.int .i64 2)]), (30, .val (.int .i64 (r : Nat)))] ∧ hp = [(4, a3 0 0 0), (6, a3 x y z), (7, fb r12)]) 2 ?_ ?_ ?_
    · kernel_rfl
    · exact ⟨0, 0, 0, 0, rfl, by decide, ⟨fun _ => ⟨rfl, rfl, rfl⟩, fun h => by omega, fun h => by omega⟩, rfl, rfl⟩
    rintro m _ _ ⟨r, x, y, z, rfl, hr, ⟨g0, g1, g2⟩, rfl, rfl⟩
    obtain rfl | rfl | rfl : r = 0 ∨ r = 1 ∨ r = 2 := by omega
    · obtain ⟨rfl, rfl, rfl⟩ := g0 rfl
      have t6 : decide (((0 : Nat) : Int) < 2) = true := by decide
      have t7 := winc (i := 0) (by decide)
      conv => whnf
      (repeat ((first | refine step_w1 rfl rfl ?_ | refine And.intro (by first | decide | omega | (simp only [tiB5, tiB23, tiB3, tiB2, tiB9, tiB36, tiB54, tiB121, tiB34, tiB28, tiB4, tiB50, tiB52, dlen, List.length_replicate, List.length_set, List.length_map, List.length_zipWith, List.length_take, List.length_append, List.length_cons, List.length_nil]; omega)) ?_ | refine ⟨_, [], [], op_indexAgg rfl (ev_ok rfl) (l := [.int .i64 1, .int .i64 2]) rfl (ev_ok rfl) (tgt rfl) rfl (tgt rfl) rfl rfl (by decide) (by decide) (v := .int .i64 1) rfl rfl, nil_fk, nil_new, ?_⟩ | rw [t6] | rw [t7] | rw [Nat.zero_add]); conv => whnf))
      exact ⟨1, fun k => k, [4, 5, 6, 7, 29, 30], [4, 6, 7], by decide, by kernel_rfl, 1, _, _, _, rfl, by decide, ⟨fun h => by omega, fun _ => ⟨rfl, rfl, rfl⟩, fun h => by omega⟩, rfl, rfl⟩
    · obtain ⟨rfl, rfl, rfl⟩ := g1 rfl
      have t6 : decide (((1 : Nat) : Int) < 2) = true := by decide
      have t7 := winc (i := 1) (by decide)
      conv => whnf
      (repeat ((first | refine step_w1 rfl rfl ?_ | refine And.intro (by first | decide | omega | (simp only [tiB5, tiB23, tiB3, tiB2, tiB9, tiB36, tiB54, tiB121, tiB34, tiB28, tiB4, tiB50, tiB52, dlen, List.length_replicate, List.length_set, List.length_map, List.length_zipWith, List.length_take, List.length_append, List.length_cons, List.length_nil]; omega)) ?_ | refine ⟨_, [], [], op_indexAgg rfl (ev_ok rfl) (l := [.int .i64 1, .int .i64 2]) rfl (ev_ok rfl) (tgt rfl) rfl (tgt rfl) rfl rfl (by decide) (by decide) (v := .int .i64 2) rfl rfl, nil_fk, nil_new, ?_⟩ | rw [t6] | rw [t7] | rw [Nat.zero_add]); conv => whnf))
      exact ⟨0, fun k => k, [4, 5, 6, 7, 29, 30], [4, 6, 7], by decide, by kernel_rfl, 2, _, _, _, rfl, by decide, ⟨fun h => by omega, fun h => by omega, fun _ => ⟨rfl, rfl, rfl⟩⟩, rfl, rfl⟩
    · obtain ⟨rfl, rfl, rfl⟩ := g2 rfl
      have t6 : decide (((2 : Nat) : Int) < 2) = false := by decide
      conv => whnf
      (repeat (first | (refine step_w2 rfl rfl ?_; conv => whnf)))
      exact Recast.refl _
  · have e0 : nodeC 4 0 = r12 := by decide +kernel
    have e1 : nodeC 4 1 = 0 := by decide +kernel
    have e2 : nodeC 4 2 = r12 := by decide +kernel
    rw [e0, e1, e2]
    have t4 : IntKind.i64.wrap ((4 : Int) - 3) = 1 := by decide
    refine callV (Z := []) tabOK mixedOK Tryz.func32 rfl (by kernel_rfl) rfl rfl (by kernel_rfl) rfl ?_
    intro W0 w0 ρ0 hE
    conv => whnf
    (repeat ((first | refine step_w2 rfl rfl ?_ | refine g_c (by assumption) ?_ | refine ⟨_, [], [], op_globIndex rfl (ev_ok rfl) (ev_ok rfl) (tgt rfl) rfl (tgt rfl) (by decide) (by decide), nil_fk, nil_new, ?_⟩ | refine ⟨_, [], [], op_globLoadA rfl (ev_ok rfl) (tgt rfl) rfl (vs := [2, 0]) rfl tabSides (by decide) (by decide), nil_fk, nil_new, ?_⟩ | rw [t4] | rw [Nat.zero_add]); conv => whnf))
    refine SW_loopN hE (fun k => k) [4, 5, 6, 7, 29, 30] [4, 6, 7] (fun m fr hp => ∃ (r : Nat) (x y z : Rat), m = 2 - r ∧ r ≤ 2 ∧ ((r = 0 → x = 0 ∧ y = 0 ∧ z = 0) ∧ (r = 1 → x = 0 ∧ y = 0 ∧ z = r12) ∧ (r = 2 → x = r12 ∧ y = 0 ∧ z = r12)) ∧
      fr = [(4, .ptr 4 0 0 0), (5, .val (.int .i64 0)), (6, .ptr 6 0 0 0), (7, .ptr 7 0 0 0), (29, .agg [.val (.int .i64 2), .val (.int .i64 0)]), (30, .val (.int .i64 (r : Nat)))] ∧ hp = [(4, a3 0 0 0), (6, a3 x y z), (7, fb r12)]) 2 ?_ ?_ ?_
    · kernel_rfl
    · exact ⟨0, 0, 0, 0, rfl, by decide, ⟨fun _ => ⟨rfl, rfl, rfl⟩, fun h => by omega, fun h => by omega⟩, rfl, rfl⟩
    rintro m _ _ ⟨r, x, y, z, rfl, hr, ⟨g0, g1, g2⟩, rfl, rfl⟩
    obtain rfl | rfl | rfl : r = 0 ∨ r = 1 ∨ r = 2 := by omega
    · obtain ⟨rfl, rfl, rfl⟩ := g0 rfl
      have t6 : decide (((0 : Nat) : Int) < 2) = true := by decide
      have t7 := winc (i := 0) (by decide)
      conv => whnf
      (repeat ((first | refine step_w1 rfl rfl ?_ | refine And.intro (by first | decide | omega | (simp only [tiB5, tiB23, tiB3, tiB2, tiB9, tiB36, tiB54, tiB121, tiB34, tiB28, tiB4, tiB50, tiB52, dlen, List.length_replicate, List.length_set, List.length_map, List.length_zipWith, List.length_take, List.length_append, List.length_cons, List.length_nil]; omega)) ?_ | refine ⟨_, [], [], op_indexAgg rfl (ev_ok rfl) (l := [.int .i64 2, .int .i64 0]) rfl (ev_ok rfl) (tgt rfl) rfl (tgt rfl) rfl rfl (by decide) (by decide) (v := .int .i64 2) rfl rfl, nil_fk, nil_new, ?_⟩ | rw [t6] | rw [t7] | rw [Nat.zero_add]); conv => whnf))
      exact ⟨1, fun k => k, [4, 5, 6, 7, 29, 30], [4, 6, 7], by decide, by kernel_rfl, 1, _, _, _, rfl, by decide, ⟨fun h => by omega, fun _ => ⟨rfl, rfl, rfl⟩, fun h => by omega⟩, rfl, rfl⟩
    · obtain ⟨rfl, rfl, rfl⟩ := g1 rfl
      have t6 : decide (((1 : Nat) : Int) < 2) = true := by decide
      have t7 := winc (i := 1) (by decide)
      conv => whnf
      (repeat ((first | refine step_w1 rfl rfl ?_ | refine And.intro (by first | decide | omega | (simp only [tiB5, tiB23, tiB3, tiB2, tiB9, tiB36, tiB54, tiB121, tiB34, tiB28, tiB4, tiB50, tiB52, dlen, List.length_replicate, List.length_set, List.length_map, List.length_zipWith, List.length_take, List.length_append, List.length_cons, List.length_nil]; omega)) ?_ | refine ⟨_, [], [], op_indexAgg rfl (ev_ok rfl) (l := [.int .i64 2, .int .i64 0]) rfl (ev_ok rfl) (tgt rfl) rfl (tgt rfl) rfl rfl (by decide) (by decide) (v := .int .i64 0) rfl rfl, nil_fk, nil_new, ?_⟩ | rw [t6] | rw [t7] | rw [Nat.zero_add]); conv => whnf))
      exact ⟨0, fun k => k, [4, 5, 6, 7, 29, 30], [4, 6, 7], by decide, by kernel_rfl, 2, _, _, _, rfl, by decide, ⟨fun h => by omega, fun h => by omega, fun _ => ⟨rfl, rfl, rfl⟩⟩, rfl, rfl⟩
    · obtain ⟨rfl, rfl, rfl⟩ := g2 rfl
      have t6 : decide (((2 : Nat) : Int) < 2) = false := by decide
      conv => whnf
      (repeat (first | (refine step_w2 rfl rfl ?_; conv => whnf)))
      exact Recast.refl _
  · have e0 : nodeC 5 0 = r12 := by decide +kernel
    have e1 : nodeC 5 1 = r12 := by decide +kernel
    have e2 : nodeC 5 2 = 0 := by decide +kernel
    rw [e0, e1, e2]
    have t4 : IntKind.i64.wrap ((5 : Int) - 3) = 2 := by decide
    refine callV (Z := []) tabOK mixedOK Tryz.func32 rfl (by kernel_rfl) rfl rfl (by kernel_rfl) rfl ?_
    intro W0 w0 ρ0 hE
    conv => whnf
    (repeat ((first | refine step_w2 rfl rfl ?_ | refine g_c (by assumption) ?_ | refine ⟨_, [], [], op_globIndex rfl (ev_ok rfl) (ev_ok rfl) (tgt rfl) rfl (tgt rfl) (by decide) (by decide), nil_fk, nil_new, ?_⟩ | refine ⟨_, [], [], op_globLoadA rfl (ev_ok rfl) (tgt rfl) rfl (vs := [0, 1]) rfl tabSides (by decide) (by decide), nil_fk, nil_new, ?_⟩ | rw [t4] | rw [Nat.zero_add]); conv => whnf))
    refine SW_loopN hE (fun k => k) [4, 5, 6, 7, 29, 30] [4, 6, 7] (fun m fr hp => ∃ (r : Nat) (x y z : Rat), m = 2 - r ∧ r ≤ 2 ∧ ((r = 0 → x = 0 ∧ y = 0 ∧ z = 0) ∧ (r = 1 → x = r12 ∧ y = 0 ∧ z = 0) ∧ (r = 2 → x = r12 ∧ y = r12 ∧ z = 0)) ∧
      fr = [(4, .ptr 4 0 0 0), (5, .val (.int .i64 0)), (6, .ptr 6 0 0 0), (7, .ptr 7 0 0 0), (29, .agg [.val (.int .i64 0), .val (.int .i64 1)]), (30, .val (.int .i64 (r : Nat)))] ∧ hp = [(4, a3 0 0 0), (6, a3 x y z), (7, fb r12)]) 2 ?_ ?_ ?_
    · kernel_rfl
    · exact ⟨0, 0, 0, 0, rfl, by decide, ⟨fun _ => ⟨rfl, rfl, rfl⟩, fun h => by omega, fun h => by omega⟩, rfl, rfl⟩
    rintro m _ _ ⟨r, x, y, z, rfl, hr, ⟨g0, g1, g2⟩, rfl, rfl⟩
    obtain rfl | rfl | rfl : r = 0 ∨ r = 1 ∨ r = 2 := by omega
    · obtain ⟨rfl, rfl, rfl⟩ := g0 rfl
      have t6 : decide (((0 : Nat) : Int) < 2) = true := by decide
      have t7 := winc (i := 0) (by decide)
      conv => whnf
      (repeat ((first | refine step_w1 rfl rfl ?_ | refine And.intro (by first | decide | omega | (simp only [tiB5, tiB23, tiB3, tiB2, tiB9, tiB36, tiB54, tiB121, tiB34, tiB28, tiB4, tiB50, tiB52, dlen, List.length_replicate, List.length_set, List.length_map, List.length_zipWith, List.length_take, List.length_append, List.length_cons, List.length_nil]; omega)) ?_ | refine ⟨_, [], [], op_indexAgg rfl (ev_ok rfl) (l := [.int .i64 0, .int .i64 1]) rfl (ev_ok rfl) (tgt rfl) rfl (tgt rfl) rfl rfl (by decide) (by decide) (v := .int .i64 0) rfl rfl, nil_fk, nil_new, ?_⟩ | rw [t6] | rw [t7] | rw [Nat.zero_add]); conv => whnf))
      exact ⟨1, fun k => k, [4, 5, 6, 7, 29, 30], [4, 6, 7], by decide, by kernel_rfl, 1, _, _, _, rfl, by decide, ⟨fun h => by omega, fun _ => ⟨rfl, rfl, rfl⟩, fun h => by omega⟩, rfl, rfl⟩
    · obtain ⟨rfl, rfl, rfl⟩ := g1 rfl
      have t6 : decide (((1 : Nat) : Int) < 2) = true := by decide
      have t7 := winc (i := 1) (by decide)
      conv => whnf
      (repeat ((first | refine step_w1 rfl rfl ?_ | refine And.intro (by first | decide | omega | (simp only [tiB5, tiB23, tiB3, tiB2, tiB9, tiB36, tiB54, tiB121, tiB34, tiB28, tiB4, tiB50, tiB52, dlen, List.length_replicate, List.length_set, List.length_map, List.length_zipWith, List.length_take, List.length_append, List.length_cons, List.length_nil]; omega)) ?_ | refine ⟨_, [], [], op_indexAgg rfl (ev_ok rfl) (l := [.int .i64 0, .int .i64 1]) rfl (ev_ok rfl) (tgt rfl) rfl (tgt rfl) rfl rfl (by decide) (by decide) (v := .int .i64 1) rfl rfl, nil_fk, nil_new, ?_⟩ | rw [t6] | rw [t7] | rw [Nat.zero_add]); conv => whnf))
      exact ⟨0, fun k => k, [4, 5, 6, 7, 29, 30], [4, 6, 7], by decide, by kernel_rfl, 2, _, _, _, rfl, by decide, ⟨fun h => by omega, fun h => by omega, fun _ => ⟨rfl, rfl, rfl⟩⟩, rfl, rfl⟩
    · obtain ⟨rfl, rfl, rfl⟩ := g2 rfl
      have t6 : decide (((2 : Nat) : Int) < 2) = false := by decide
      conv => whnf
      (repeat (first | (refine step_w2 rfl rfl ?_; conv => whnf)))
      exact Recast.refl _
theorem c_NodeNo (o n : Int) (h : thereF o n = false) : CallOK Tryz.prog 32 [.val (.int .i64 o), .val (.int .i64 n)] [] (.tup [.agg [.frac 0, .frac 0, .frac 0], .val (.int .i64 1)]) [] [] := by
  have k1 := c_there o n
  rw [h] at k1
  refine callV (Z := []) tabOK mixedOK Tryz.func32 rfl (by kernel_rfl) rfl rfl (by kernel_rfl) rfl ?_
  intro W0 w0 ρ0 hE
  conv => whnf
  (repeat (first | (refine step_w1 rfl rfl ?_; conv => whnf) | (refine g_c (by assumption) ?_; conv => whnf)))
  exact Recast.refl _
end Go.Proofs.YtdcaodkjofkmgaaGreatDoor

namespace Go.Proofs.YtdcaodkjofkmgaaGreatDoor
open Go.Sx
set_option linter.unusedSimpArgs false
set_option linter.unusedVariables false
set_option maxRecDepth 100000
set_option maxHeartbeats 4000000

end Go.Proofs.YtdcaodkjofkmgaaGreatDoor

namespace Go.Proofs.YtdcaodkjofkmgaaGreatDoor
open Go.Sx
set_option linter.unusedSimpArgs false
set_option linter.unusedVariables false
set_option maxRecDepth 100000
set_option maxHeartbeats 40000000

theorem nd : (nodeC 0 1 = 0 ∧ nodeC 0 2 = 0) ∧ (nodeC 1 1 = 1 ∧ nodeC 1 2 = 0) ∧ (nodeC 2 1 = 0 ∧ nodeC 2 2 = 1) ∧ (nodeC 3 1 = r12 ∧ nodeC 3 2 = r12) ∧ (nodeC 4 1 = 0 ∧ nodeC 4 2 = r12) ∧ (nodeC 5 1 = r12 ∧ nodeC 5 2 = 0) := by decide +kernel
end Go.Proofs.YtdcaodkjofkmgaaGreatDoor

namespace Go.Proofs.YtdcaodkjofkmgaaGreatDoor
open Go.Sx
set_option linter.unusedSimpArgs false
set_option linter.unusedVariables false
set_option maxRecDepth 100000

end Go.Proofs.YtdcaodkjofkmgaaGreatDoor

namespace Go.Proofs.YtdcaodkjofkmgaaGreatDoor
open Go.Sx
set_option linter.unusedSimpArgs false
set_option linter.unusedVariables false
set_option maxRecDepth 100000
set_option maxHeartbeats 40000000

end Go.Proofs.YtdcaodkjofkmgaaGreatDoor

namespace Go.Proofs.YtdcaodkjofkmgaaGreatDoor
open Go.Sx
set_option linter.unusedSimpArgs false
set_option linter.unusedVariables false
set_option maxRecDepth 100000
set_option maxHeartbeats 40000000

end Go.Proofs.YtdcaodkjofkmgaaGreatDoor

namespace Go.Proofs.YtdcaodkjofkmgaaGreatDoor
open Go.Sx
set_option linter.unusedSimpArgs false
set_option linter.unusedVariables false
set_option maxRecDepth 100000
set_option maxHeartbeats 4000000

theorem r_Many (o : Int) : CallOK Tryz.prog 14 [.val (.int .i64 o)] [] (.val (.int .i64 (manyF o : Nat))) [] [] := by
  refine callV (Z := []) tabOK mixedOK Tryz.func14 rfl (by kernel_rfl) rfl rfl (by kernel_rfl) rfl ?_
  intro W0 w0 ρ0 hE
  conv => whnf
  by_cases h1 : o = 1
  · subst h1
    (repeat (first | (refine step_w1 rfl rfl ?_; conv => whnf)))
    exact Recast.refl _
  · have t1 : (o == 1) = false := by rw [beq_eq_false_iff_ne]; exact h1
    by_cases h2 : o = 2
    · subst h2
      (repeat (first | (refine step_w1 rfl rfl ?_; conv => whnf) | (refine step_w2 rfl rfl ?_; conv => whnf)))
      exact Recast.refl _
    · have t2 : (o == 2) = false := by rw [beq_eq_false_iff_ne]; exact h2
      rw [show manyF o = 0 from by unfold manyF; rw [if_neg h1, if_neg h2]]
      (repeat (first | (refine step_w2 rfl rfl ?_; conv => whnf) | (rw [t1]; conv => whnf) | (rw [t2]; conv => whnf)))
      exact Recast.refl _
/-- A reference monomial. -/
def rP (e0 e1 e2 : Int) (c : Rat) : SV := .agg [.val (.int .i64 e0), .val (.int .i64 e1), .val (.int .i64 e2), zZ c.num, nN (c.den - 1)]
theorem rP_recast0 (a b c z n : SV) : Recast (.agg [a, b, c, .agg [z, n]]) (.agg [a, b, c, z, n]) := fun ρ v h => by
  simp only [Has, HasC, HasZ] at h ⊢
  obtain ⟨x, ⟨u, ⟨x1, r1, rfl, h1, x2, r2, rfl, h2, x3, r3, rfl, h3, x4, r4, rfl, ⟨y, ⟨y1, s1, rfl, g1, y2, s2, rfl, g2, rfl⟩, rfl⟩, rfl⟩, rfl⟩, hv⟩ := h
  refine ⟨_, ⟨[x1, x2, x3, y1, y2], ⟨x1, _, rfl, h1, x2, _, rfl, h2, x3, _, rfl, h3, y1, _, rfl, g1, y2, _, rfl, g2, rfl⟩, rfl⟩, ?_⟩
  simpa [mkV, SV.isOne] using hv
theorem rP_recast (a b c : SV) (q : Rat) : Recast (.agg [a, b, c, fF q]) (.agg [a, b, c, zZ q.num, nN (q.den - 1)]) := rP_recast0 _ _ _ _ _
def rPw (p : Pw) : SV := rP (p.i : Nat) (p.j : Nat) (p.k : Nat) p.c
theorem r_Ends (n : Int) (h : n = 3 ∨ n = 4 ∨ n = 5) : CallOK Tryz.prog 42 [.val (.int .i64 n)] [] (.tup [.val (.int .i64 ((endsF n).getD 0 0)), .val (.int .i64 ((endsF n).getD 1 0))]) [] [] := by
  obtain rfl | rfl | rfl := h
  · refine callV (Z := []) tabOK mixedOK Tryz.func42 rfl (by kernel_rfl) rfl rfl (by kernel_rfl) rfl ?_
    intro W0 w0 ρ0 hE
    conv => whnf
    (repeat (first | (refine And.intro (by first | decide | omega | (simp only [tiB5, tiB23, tiB3, tiB2, tiB9, tiB36, tiB54, tiB121, tiB34, tiB28, tiB4, tiB50, tiB52, dlen, List.length_replicate, List.length_set, List.length_map, List.length_zipWith, List.length_take, List.length_append, List.length_cons, List.length_nil]; omega)) ?_; conv => whnf)))
    exact Recast.refl _
  · refine callV (Z := []) tabOK mixedOK Tryz.func42 rfl (by kernel_rfl) rfl rfl (by kernel_rfl) rfl ?_
    intro W0 w0 ρ0 hE
    conv => whnf
    (repeat (first | (refine And.intro (by first | decide | omega | (simp only [tiB5, tiB23, tiB3, tiB2, tiB9, tiB36, tiB54, tiB121, tiB34, tiB28, tiB4, tiB50, tiB52, dlen, List.length_replicate, List.length_set, List.length_map, List.length_zipWith, List.length_take, List.length_append, List.length_cons, List.length_nil]; omega)) ?_; conv => whnf)))
    exact Recast.refl _
  · refine callV (Z := []) tabOK mixedOK Tryz.func42 rfl (by kernel_rfl) rfl rfl (by kernel_rfl) rfl ?_
    intro W0 w0 ρ0 hE
    conv => whnf
    (repeat (first | (refine And.intro (by first | decide | omega | (simp only [tiB5, tiB23, tiB3, tiB2, tiB9, tiB36, tiB54, tiB121, tiB34, tiB28, tiB4, tiB50, tiB52, dlen, List.length_replicate, List.length_set, List.length_map, List.length_zipWith, List.length_take, List.length_append, List.length_cons, List.length_nil]; omega)) ?_; conv => whnf)))
    exact Recast.refl _
theorem r_one0 (c : Int) (h0 : -9223372036854775808 ≤ c) (h1 : c < 9223372036854775808) : CallOK Tryz.prog 41 [.val (.int .i64 c), .val (.int .i64 0), .val (.int .i64 (-1))] [] (rP 1 0 0 c) [] [] := by
  have k1 := r3_Int c h0 h1
  refine callV (Z := []) tabOK mixedOK Tryz.func41 rfl (by kernel_rfl) rfl rfl (by kernel_rfl) rfl ?_
  intro W0 w0 ρ0 hE
  conv => whnf
  (repeat (first | (refine step_w2 rfl rfl ?_; conv => whnf) | (refine And.intro (by first | decide | omega | (simp only [tiB5, tiB23, tiB3, tiB2, tiB9, tiB36, tiB54, tiB121, tiB34, tiB28, tiB4, tiB50, tiB52, dlen, List.length_replicate, List.length_set, List.length_map, List.length_zipWith, List.length_take, List.length_append, List.length_cons, List.length_nil]; omega)) ?_; conv => whnf) | (refine g_c (by assumption) ?_; conv => whnf)))
  exact rP_recast _ _ _ _
theorem r_one1 (c : Int) (h0 : -9223372036854775808 ≤ c) (h1 : c < 9223372036854775808) : CallOK Tryz.prog 41 [.val (.int .i64 c), .val (.int .i64 1), .val (.int .i64 (-1))] [] (rP 0 1 0 c) [] [] := by
  have k1 := r3_Int c h0 h1
  refine callV (Z := []) tabOK mixedOK Tryz.func41 rfl (by kernel_rfl) rfl rfl (by kernel_rfl) rfl ?_
  intro W0 w0 ρ0 hE
  conv => whnf
  (repeat (first | (refine step_w2 rfl rfl ?_; conv => whnf) | (refine And.intro (by first | decide | omega | (simp only [tiB5, tiB23, tiB3, tiB2, tiB9, tiB36, tiB54, tiB121, tiB34, tiB28, tiB4, tiB50, tiB52, dlen, List.length_replicate, List.length_set, List.length_map, List.length_zipWith, List.length_take, List.length_append, List.length_cons, List.length_nil]; omega)) ?_; conv => whnf) | (refine g_c (by assumption) ?_; conv => whnf)))
  exact rP_recast _ _ _ _
theorem r_one2 (c : Int) (h0 : -9223372036854775808 ≤ c) (h1 : c < 9223372036854775808) : CallOK Tryz.prog 41 [.val (.int .i64 c), .val (.int .i64 2), .val (.int .i64 (-1))] [] (rP 0 0 1 c) [] [] := by
  have k1 := r3_Int c h0 h1
  refine callV (Z := []) tabOK mixedOK Tryz.func41 rfl (by kernel_rfl) rfl rfl (by kernel_rfl) rfl ?_
  intro W0 w0 ρ0 hE
  conv => whnf
  (repeat (first | (refine step_w2 rfl rfl ?_; conv => whnf) | (refine And.intro (by first | decide | omega | (simp only [tiB5, tiB23, tiB3, tiB2, tiB9, tiB36, tiB54, tiB121, tiB34, tiB28, tiB4, tiB50, tiB52, dlen, List.length_replicate, List.length_set, List.length_map, List.length_zipWith, List.length_take, List.length_append, List.length_cons, List.length_nil]; omega)) ?_; conv => whnf) | (refine g_c (by assumption) ?_; conv => whnf)))
  exact rP_recast _ _ _ _
theorem r_one00 (c : Int) (h0 : -9223372036854775808 ≤ c) (h1 : c < 9223372036854775808) : CallOK Tryz.prog 41 [.val (.int .i64 c), .val (.int .i64 0), .val (.int .i64 (0))] [] (rP 2 0 0 c) [] [] := by
  have k1 := r3_Int c h0 h1
  refine callV (Z := []) tabOK mixedOK Tryz.func41 rfl (by kernel_rfl) rfl rfl (by kernel_rfl) rfl ?_
  intro W0 w0 ρ0 hE
  conv => whnf
  (repeat (first | (refine step_w1 rfl rfl ?_; conv => whnf) | (refine And.intro (by first | decide | omega | (simp only [tiB5, tiB23, tiB3, tiB2, tiB9, tiB36, tiB54, tiB121, tiB34, tiB28, tiB4, tiB50, tiB52, dlen, List.length_replicate, List.length_set, List.length_map, List.length_zipWith, List.length_take, List.length_append, List.length_cons, List.length_nil]; omega)) ?_; conv => whnf) | (refine g_c (by assumption) ?_; conv => whnf)))
  exact rP_recast _ _ _ _
theorem r_one11 (c : Int) (h0 : -9223372036854775808 ≤ c) (h1 : c < 9223372036854775808) : CallOK Tryz.prog 41 [.val (.int .i64 c), .val (.int .i64 1), .val (.int .i64 (1))] [] (rP 0 2 0 c) [] [] := by
  have k1 := r3_Int c h0 h1
  refine callV (Z := []) tabOK mixedOK Tryz.func41 rfl (by kernel_rfl) rfl rfl (by kernel_rfl) rfl ?_
  intro W0 w0 ρ0 hE
  conv => whnf
  (repeat (first | (refine step_w1 rfl rfl ?_; conv => whnf) | (refine And.intro (by first | decide | omega | (simp only [tiB5, tiB23, tiB3, tiB2, tiB9, tiB36, tiB54, tiB121, tiB34, tiB28, tiB4, tiB50, tiB52, dlen, List.length_replicate, List.length_set, List.length_map, List.length_zipWith, List.length_take, List.length_append, List.length_cons, List.length_nil]; omega)) ?_; conv => whnf) | (refine g_c (by assumption) ?_; conv => whnf)))
  exact rP_recast _ _ _ _
theorem r_one22 (c : Int) (h0 : -9223372036854775808 ≤ c) (h1 : c < 9223372036854775808) : CallOK Tryz.prog 41 [.val (.int .i64 c), .val (.int .i64 2), .val (.int .i64 (2))] [] (rP 0 0 2 c) [] [] := by
  have k1 := r3_Int c h0 h1
  refine callV (Z := []) tabOK mixedOK Tryz.func41 rfl (by kernel_rfl) rfl rfl (by kernel_rfl) rfl ?_
  intro W0 w0 ρ0 hE
  conv => whnf
  (repeat (first | (refine step_w1 rfl rfl ?_; conv => whnf) | (refine And.intro (by first | decide | omega | (simp only [tiB5, tiB23, tiB3, tiB2, tiB9, tiB36, tiB54, tiB121, tiB34, tiB28, tiB4, tiB50, tiB52, dlen, List.length_replicate, List.length_set, List.length_map, List.length_zipWith, List.length_take, List.length_append, List.length_cons, List.length_nil]; omega)) ?_; conv => whnf) | (refine g_c (by assumption) ?_; conv => whnf)))
  exact rP_recast _ _ _ _
theorem r_one12 (c : Int) (h0 : -9223372036854775808 ≤ c) (h1 : c < 9223372036854775808) : CallOK Tryz.prog 41 [.val (.int .i64 c), .val (.int .i64 1), .val (.int .i64 (2))] [] (rP 0 1 1 c) [] [] := by
  have k1 := r3_Int c h0 h1
  refine callV (Z := []) tabOK mixedOK Tryz.func41 rfl (by kernel_rfl) rfl rfl (by kernel_rfl) rfl ?_
  intro W0 w0 ρ0 hE
  conv => whnf
  (repeat (first | (refine step_w1 rfl rfl ?_; conv => whnf) | (refine And.intro (by first | decide | omega | (simp only [tiB5, tiB23, tiB3, tiB2, tiB9, tiB36, tiB54, tiB121, tiB34, tiB28, tiB4, tiB50, tiB52, dlen, List.length_replicate, List.length_set, List.length_map, List.length_zipWith, List.length_take, List.length_append, List.length_cons, List.length_nil]; omega)) ?_; conv => whnf) | (refine g_c (by assumption) ?_; conv => whnf)))
  exact rP_recast _ _ _ _
theorem r_one20 (c : Int) (h0 : -9223372036854775808 ≤ c) (h1 : c < 9223372036854775808) : CallOK Tryz.prog 41 [.val (.int .i64 c), .val (.int .i64 2), .val (.int .i64 (0))] [] (rP 1 0 1 c) [] [] := by
  have k1 := r3_Int c h0 h1
  refine callV (Z := []) tabOK mixedOK Tryz.func41 rfl (by kernel_rfl) rfl rfl (by kernel_rfl) rfl ?_
  intro W0 w0 ρ0 hE
  conv => whnf
  (repeat (first | (refine step_w1 rfl rfl ?_; conv => whnf) | (refine And.intro (by first | decide | omega | (simp only [tiB5, tiB23, tiB3, tiB2, tiB9, tiB36, tiB54, tiB121, tiB34, tiB28, tiB4, tiB50, tiB52, dlen, List.length_replicate, List.length_set, List.length_map, List.length_zipWith, List.length_take, List.length_append, List.length_cons, List.length_nil]; omega)) ?_; conv => whnf) | (refine g_c (by assumption) ?_; conv => whnf)))
  exact rP_recast _ _ _ _
theorem r_one01 (c : Int) (h0 : -9223372036854775808 ≤ c) (h1 : c < 9223372036854775808) : CallOK Tryz.prog 41 [.val (.int .i64 c), .val (.int .i64 0), .val (.int .i64 (1))] [] (rP 1 1 0 c) [] [] := by
  have k1 := r3_Int c h0 h1
  refine callV (Z := []) tabOK mixedOK Tryz.func41 rfl (by kernel_rfl) rfl rfl (by kernel_rfl) rfl ?_
  intro W0 w0 ρ0 hE
  conv => whnf
  (repeat (first | (refine step_w1 rfl rfl ?_; conv => whnf) | (refine And.intro (by first | decide | omega | (simp only [tiB5, tiB23, tiB3, tiB2, tiB9, tiB36, tiB54, tiB121, tiB34, tiB28, tiB4, tiB50, tiB52, dlen, List.length_replicate, List.length_set, List.length_map, List.length_zipWith, List.length_take, List.length_append, List.length_cons, List.length_nil]; omega)) ?_; conv => whnf) | (refine g_c (by assumption) ?_; conv => whnf)))
  exact rP_recast _ _ _ _
theorem r_Powers (o n : Int) (h : thereF o n = true) : CallOK Tryz.prog 16 [.val (.int .i64 o), .val (.int .i64 n)] [] (mvec 6 rPw (powersF o n)) [] [] := by
  have k3 := r_Ends n
  obtain ⟨rfl, rfl | rfl | rfl⟩ | ⟨rfl, rfl | rfl | rfl | rfl | rfl | rfl⟩ := there_cases h
  · replace k3 := k3
    have k1 := r_one0 1 (by decide) (by decide)
    have k2 := r_one0 (-1) (by decide) (by decide)
    have e : powersF 1 0 = [⟨1, 0, 0, ((1 : Int) : Rat)⟩] := by rfl
    rw [e]
    refine callV (Z := [11, 19, 28]) tabOK mixedOK Tryz.func16 rfl (by kernel_rfl) rfl rfl (by kernel_rfl) rfl ?_
    intro W0 w0 ρ0 hE
    conv => whnf
    (repeat (first | (refine step_w1 rfl rfl ?_; conv => whnf) | (refine g_c (by assumption) ?_; conv => whnf)))
    exact Recast.refl _
  · replace k3 := k3
    have k1 := r_one1 1 (by decide) (by decide)
    have k2 := r_one0 (-1) (by decide) (by decide)
    have e : powersF 1 1 = [⟨0, 1, 0, ((1 : Int) : Rat)⟩] := by rfl
    rw [e]
    refine callV (Z := [11, 19, 28]) tabOK mixedOK Tryz.func16 rfl (by kernel_rfl) rfl rfl (by kernel_rfl) rfl ?_
    intro W0 w0 ρ0 hE
    conv => whnf
    (repeat (first | (refine step_w1 rfl rfl ?_; conv => whnf) | (refine g_c (by assumption) ?_; conv => whnf)))
    exact Recast.refl _
  · replace k3 := k3
    have k1 := r_one2 1 (by decide) (by decide)
    have k2 := r_one0 (-1) (by decide) (by decide)
    have e : powersF 1 2 = [⟨0, 0, 1, ((1 : Int) : Rat)⟩] := by rfl
    rw [e]
    refine callV (Z := [11, 19, 28]) tabOK mixedOK Tryz.func16 rfl (by kernel_rfl) rfl rfl (by kernel_rfl) rfl ?_
    intro W0 w0 ρ0 hE
    conv => whnf
    (repeat (first | (refine step_w1 rfl rfl ?_; conv => whnf) | (refine g_c (by assumption) ?_; conv => whnf)))
    exact Recast.refl _
  · replace k3 := k3
    have k1 := r_one00 2 (by decide) (by decide)
    have k2 := r_one0 (-1) (by decide) (by decide)
    have e : powersF 2 0 = [⟨2, 0, 0, ((2 : Int) : Rat)⟩, ⟨1, 0, 0, ((-1 : Int) : Rat)⟩] := by rfl
    rw [e]
    refine callV (Z := [11, 19, 28]) tabOK mixedOK Tryz.func16 rfl (by kernel_rfl) rfl rfl (by kernel_rfl) rfl ?_
    intro W0 w0 ρ0 hE
    conv => whnf
    (repeat (first | (refine step_w1 rfl rfl ?_; conv => whnf) | (refine step_w2 rfl rfl ?_; conv => whnf) | (refine g_c (by assumption) ?_; conv => whnf)))
    exact Recast.refl _
  · replace k3 := k3
    have k1 := r_one11 2 (by decide) (by decide)
    have k2 := r_one1 (-1) (by decide) (by decide)
    have e : powersF 2 1 = [⟨0, 2, 0, ((2 : Int) : Rat)⟩, ⟨0, 1, 0, ((-1 : Int) : Rat)⟩] := by rfl
    rw [e]
    refine callV (Z := [11, 19, 28]) tabOK mixedOK Tryz.func16 rfl (by kernel_rfl) rfl rfl (by kernel_rfl) rfl ?_
    intro W0 w0 ρ0 hE
    conv => whnf
    (repeat (first | (refine step_w1 rfl rfl ?_; conv => whnf) | (refine step_w2 rfl rfl ?_; conv => whnf) | (refine g_c (by assumption) ?_; conv => whnf)))
    exact Recast.refl _
  · replace k3 := k3
    have k1 := r_one22 2 (by decide) (by decide)
    have k2 := r_one2 (-1) (by decide) (by decide)
    have e : powersF 2 2 = [⟨0, 0, 2, ((2 : Int) : Rat)⟩, ⟨0, 0, 1, ((-1 : Int) : Rat)⟩] := by rfl
    rw [e]
    refine callV (Z := [11, 19, 28]) tabOK mixedOK Tryz.func16 rfl (by kernel_rfl) rfl rfl (by kernel_rfl) rfl ?_
    intro W0 w0 ρ0 hE
    conv => whnf
    (repeat (first | (refine step_w1 rfl rfl ?_; conv => whnf) | (refine step_w2 rfl rfl ?_; conv => whnf) | (refine g_c (by assumption) ?_; conv => whnf)))
    exact Recast.refl _
  · replace k3 := k3 (by simp)
    have k1 := r_one12 4 (by decide) (by decide)
    have k2 := r_one2 (-1) (by decide) (by decide)
    have e : powersF 2 3 = [⟨0, 1, 1, ((4 : Int) : Rat)⟩] := by rfl
    rw [e]
    refine callV (Z := [11, 19, 28]) tabOK mixedOK Tryz.func16 rfl (by kernel_rfl) rfl rfl (by kernel_rfl) rfl ?_
    intro W0 w0 ρ0 hE
    conv => whnf
    (repeat (first | (refine step_w2 rfl rfl ?_; conv => whnf) | (refine g_c (by assumption) ?_; conv => whnf)))
    exact Recast.refl _
  · replace k3 := k3 (by simp)
    have k1 := r_one20 4 (by decide) (by decide)
    have k2 := r_one2 (-1) (by decide) (by decide)
    have e : powersF 2 4 = [⟨1, 0, 1, ((4 : Int) : Rat)⟩] := by rfl
    rw [e]
    refine callV (Z := [11, 19, 28]) tabOK mixedOK Tryz.func16 rfl (by kernel_rfl) rfl rfl (by kernel_rfl) rfl ?_
    intro W0 w0 ρ0 hE
    conv => whnf
    (repeat (first | (refine step_w2 rfl rfl ?_; conv => whnf) | (refine g_c (by assumption) ?_; conv => whnf)))
    exact Recast.refl _
  · replace k3 := k3 (by simp)
    have k1 := r_one01 4 (by decide) (by decide)
    have k2 := r_one2 (-1) (by decide) (by decide)
    have e : powersF 2 5 = [⟨1, 1, 0, ((4 : Int) : Rat)⟩] := by rfl
    rw [e]
    refine callV (Z := [11, 19, 28]) tabOK mixedOK Tryz.func16 rfl (by kernel_rfl) rfl rfl (by kernel_rfl) rfl ?_
    intro W0 w0 ρ0 hE
    conv => whnf
    (repeat (first | (refine step_w2 rfl rfl ?_; conv => whnf) | (refine g_c (by assumption) ?_; conv => whnf)))
    exact Recast.refl _
end Go.Proofs.YtdcaodkjofkmgaaGreatDoor

namespace Go.Proofs.YtdcaodkjofkmgaaGreatDoor
open Go.Sx
set_option linter.unusedSimpArgs false
set_option linter.unusedVariables false
section
open Go.Shelf Go.RowKit Go.Sort Go.Lib

set_option maxHeartbeats 6400000 in
set_option maxRecDepth 100000 in
/-- internal/strconv.FormatUint at base 10, from 100 on. -/
theorem fmt_big (u : Nat) (hu : 100 ≤ u) (hu64 : u < 18446744073709551616) (w : World) (htab : Lib.TabIs Tryz.prog w "internal/strconv.uint64pow10" .u64 Lib.pow10Tab) :
    Calls Tryz.prog 125 #[.int .u64 u, .int .i64 10] w fun e w' => e = .returned (.string ⟨(Lib.decDigits u).toArray⟩) ∧ ∃ k os, w' = grow (w.drewN k) os := by
  have mixed : Tryz.prog.follows .mixedOrders = true := by kernel_rfl
  have t3 := Tryz.underlying3; have a3 := Tryz.isAgg3; have z3 := Tryz.sizeOf3; have v3 := Tryz.zeroValue3
  have t9 := Tryz.underlying9; have a9 := Tryz.isAgg9; have z9 := Tryz.sizeOf9; have v9 := Tryz.zeroValue9
  have t4 := Tryz.underlying4; have a4 := Tryz.isAgg4; have z4 := Tryz.sizeOf4; have v4 := Tryz.zeroValue4
  have t53 := Tryz.underlying28; have a53 := Tryz.isAgg28; have z53 := Tryz.sizeOf28; have v53 := Tryz.zeroValue28
  have t5 := Tryz.underlying5; have a5 := Tryz.isAgg5; have z5 := Tryz.sizeOf5; have v5 := Tryz.zeroValue5
  have t37 := Tryz.underlying180; have a37 := Tryz.isAgg180; have z37 := Tryz.sizeOf180; have v37 := Tryz.zeroValue180
  have t171 := Tryz.underlying201; have a171 := Tryz.isAgg201; have z171 := Tryz.sizeOf201; have v171 := Tryz.zeroValue201
  have t0 := Tryz.underlying0; have a0 := Tryz.isAgg0; have z0 := Tryz.sizeOf0; have v0 := Tryz.zeroValue0
  have e284 : ∀ args w, (callFunc 142 args).run Tryz.prog w = .ok (.enter 142 args) w := enters_of Tryz.func142 (by kernel_rfl) rfl
  have e285 : ∀ args w, (callFunc 143 args).run Tryz.prog w = .ok (.enter 143 args) w := enters_of Tryz.func143 (by kernel_rfl) rfl
  have hu1 : 1 ≤ u := by omega
  have hnd20 : Lib.nDigits u ≤ 20 := by have := Lib.numDigits_eq u hu1 hu64; split at this <;> omega
  have hal : Tryz.prog.arrayLen 201 = 24 := by simp [Program.arrayLen, t171]
  -- 'a[:nd]', for the walk to take
  have hsl : ∀ W, (Instr.sliceAt 201 (.pointer (some ⟨w.heap.size, 0, none⟩)) none (some (.int .i64 (Lib.nDigits u : Int))) none).run Tryz.prog W = .ok (.slice (some ⟨w.heap.size, 0, none⟩) (Lib.nDigits u) 24) W := fun W => by
    rw [run_sliceAt_array_h W 201 ⟨w.heap.size, 0, none⟩ (by simp [Program.arrayLen, Program.elem, t171]) .i64 (Lib.nDigits u : Int) (by omega) (by rw [hal]; omega)]
    go_simp
  -- formatBase10's contract at the new block's row of zeros
  have hH0 := Lib.holds_zero0 w 201 (Lib.nDigits u) (by omega)
  have hfmt := Tryz.internal_strconv_formatBase10 w.heap.size 0 24 u (Array.replicate (Lib.nDigits u) 0) (w.alloc (.cells Lib.zeros24 201)) hH0 (by rw [Array.size_replicate]; exact Lib.lt_pow_nDigits u) hu64 (by rw [Array.size_replicate]; omega)
  rw [Array.size_replicate] at hfmt
  have HH0 := Lib.hid hH0
  have iu : ¬ (u : Int) < 100 := by omega
  clear hH0 hal
  go_enter Tryz.func125, Tryz.ntmps125
  go_wp2_with (first
    | (go_at_fn 142; refine (Tryz.internal_strconv_numDigits u hu1 hu64 _ (Lib.tabIs_alloc htab _)).mono ?_; rintro e w' ⟨rfl, rfl⟩))
  go_at_fn 143
  refine hfmt.mono ?_
  rintro e w' ⟨rfl, k, v', dk, rfl, hF⟩
  -- 'string(a[:nd])', for the walk to take: the row reads as the numeral
  have hcv : (convert 180 9 (.slice (some ⟨w.heap.size, 0, none⟩) (Lib.nDigits u) 24)).run Tryz.prog ((putRow (fun (b : UInt8) => Value.int .u8 (b.toNat : Int)) (w.alloc (.cells Lib.zeros24 201)) w.heap.size 0 dk).drewN k) = .ok (.string ⟨(Lib.decDigits u).toArray⟩) ((putRow (fun (b : UInt8) => Value.int .u8 (b.toNat : Int)) (w.alloc (.cells Lib.zeros24 201)) w.heap.size 0 dk).drewN k) := by
    have h := run_convert_bytes_back (P := Tryz.prog) ((putRow (fun (b : UInt8) => Value.int .u8 (b.toNat : Int)) (w.alloc (.cells Lib.zeros24 201)) w.heap.size 0 dk).drewN k) 180 9 5 ⟨w.heap.size, 0, none⟩ 24 (Lib.decDigits u) t37 t5 t9 (fun j hj => by
      rw [Lib.row_is_numeral hF j hj, Lib.add_plain, World.cell?_drewN]
      exact cell?_putRow (fun (b : UInt8) => Value.int .u8 (b.toNat : Int)) _ w.heap.size 0 _ dk HH0.out (by rw [hF.size, Array.size_replicate]) j (by rw [hF.size]; rw [Lib.decDigits_length] at hj; exact hj))
    rw [Lib.decDigits_length] at h
    exact h
  go_wp2
  go_ret
  obtain ⟨os, eo⟩ := Lib.fin_at w (.cells Lib.zeros24 201) dk k 0
  exact ⟨rfl, k, os, eo⟩
end
end Go.Proofs.YtdcaodkjofkmgaaGreatDoor

namespace Go.Proofs.YtdcaodkjofkmgaaGreatDoor
open Go.Sx
set_option linter.unusedSimpArgs false
set_option linter.unusedVariables false
set_option maxRecDepth 100000
set_option maxHeartbeats 4000000

def padF : Nat → Nat → List UInt8
  | 0, _ => []
  | k + 1, r => padF k (r / 10) ++ [UInt8.ofNat (48 + r % 10)]
theorem dec_big {n : Nat} (h : 10 ≤ n) : Lib.decDigits n = Lib.decDigits (n / 10) ++ [UInt8.ofNat (48 + n % 10)] := by rw [Lib.decDigits, dif_neg (by omega)]
theorem dec_lt {n : Nat} (h : n < 10) : Lib.decDigits n = [UInt8.ofNat (48 + n)] := by rw [Lib.decDigits, dif_pos h]
theorem dec_split : ∀ k q r, 0 < q → r < 10 ^ k → Lib.decDigits (q * 10 ^ k + r) = Lib.decDigits q ++ padF k r
  | 0, q, r, hq, hr => by
    obtain rfl : r = 0 := by simp at hr; exact hr
    simp [padF]
  | k + 1, q, r, hq, hr => by
    have hp : 0 < 10 ^ k := Nat.pow_pos (by decide)
    have e : q * 10 ^ (k + 1) = 10 * (q * 10 ^ k) := by rw [Nat.pow_succ, ← Nat.mul_assoc, Nat.mul_comm]
    have hqp : 0 < q * 10 ^ k := Nat.mul_pos hq hp
    rw [Nat.pow_succ] at hr
    rw [dec_big (by omega), show (q * 10 ^ (k + 1) + r) / 10 = q * 10 ^ k + r / 10 by omega, show (q * 10 ^ (k + 1) + r) % 10 = r % 10 by omega, dec_split k q (r / 10) hq (by omega), padF, List.append_assoc]
theorem pad_zero : ∀ k, padF k 0 = List.replicate k 48
  | 0 => rfl
  | k + 1 => by rw [padF, Nat.zero_div, pad_zero k, List.replicate_succ']; rfl
theorem pad_dec : ∀ k r, r < 10 ^ k → 0 < k → padF k r = List.replicate (k - (Lib.decDigits r).length) 48 ++ Lib.decDigits r ∧ (Lib.decDigits r).length ≤ k
  | 0, r, h, h0 => by omega
  | k + 1, r, h, _ => by
    by_cases h1 : r < 10
    · rw [padF, show r / 10 = 0 by omega, pad_zero, dec_lt h1, show r % 10 = r by omega]
      exact ⟨rfl, by simp⟩
    · have hk : 0 < k := by rcases Nat.eq_zero_or_pos k with g | g
                            · subst g; simp at h; omega
                            · exact g
      rw [Nat.pow_succ] at h
      obtain ⟨h2, h3⟩ := pad_dec k (r / 10) (by omega) hk
      have e := dec_big (n := r) (by omega)
      rw [padF, h2, e, List.length_append, List.append_assoc, List.length_singleton]
      exact ⟨by rw [show k + 1 - ((Lib.decDigits (r / 10)).length + 1) = k - (Lib.decDigits (r / 10)).length by omega], by omega⟩

theorem pow_tab {ρ : Rho} {w : World} (h : ∀ b o, ρ.imm b = some o → w.heap[b]? = some o) : Lib.TabIs Tryz.prog w "internal/strconv.uint64pow10" .u64 Lib.pow10Tab := by
  obtain ⟨o, h1, _, ty, fz, rfl⟩ := ρ.glob 2 .u64 Lib.pow10Tab (by decide +kernel)
  exact tab_is (g := 2) (by kernel_rfl) (h _ _ h1)
theorem call_valsT {f : FuncId} {vs : List Value} {v : Value} (hf : FnOK Tryz.prog f) (hv : v.oneCell' = true) (h : ∀ w : World, Lib.TabIs Tryz.prog w "internal/strconv.uint64pow10" .u64 Lib.pow10Tab → Calls Tryz.prog f vs.toArray w fun e w' => e = .returned v ∧ RowKit.Below w.heap.size w w') : CallOK Tryz.prog f (vs.map .val) [] (.val v) [] [] := by
  refine .inl ⟨hf, fun ρ w z hz hp => ?_⟩
  rw [zip_vals hz]
  refine (h w (pow_tab hp.imm)).mono ?_
  rintro e w' ⟨rfl, hb⟩
  exact ⟨v, ρ, rfl, .of_below hb (has_val hv)⟩
theorem t_iFmtB (n : Nat) (h1 : 100 ≤ n) (h2 : n < 18446744073709551616) : CallOK Tryz.prog 125 [.val (.int .u64 (n : Nat)), .val (.int .i64 10)] [] (.val (.string (tN n))) [] [] :=
  call_valsT (vs := [.int .u64 (n : Nat), .int .i64 10]) ⟨Tryz.f125, Tryz.func125, rfl, by kernel_rfl⟩ rfl fun w ht => by
    rw [tN_eq]
    refine (fmt_big n h1 h2 w ht).mono ?_
    rintro e w' ⟨rfl, k, os, rfl⟩
    exact ⟨rfl, Lib.below_grow w.heap.size w (Nat.le_refl _) k os⟩
theorem t_FormatG (n : Nat) (h : n < 18446744073709551616) : CallOK Tryz.prog 99 [.val (.int .u64 (n : Nat)), .val (.int .i64 10)] [] (.val (.string (tN n))) [] [] := by
  by_cases hs : n < 100
  · exact t_Format n hs
  · have k1 := t_iFmtB n (by omega) h
    refine callV (Z := []) tabOK mixedOK Tryz.func99 rfl (by kernel_rfl) rfl rfl (by kernel_rfl) rfl ?_
    intro W0 w0 ρ0 hE
    conv => whnf
    (repeat (first | (refine g_c (by assumption) ?_; conv => whnf))); (first | exact Recast.refl _ | exact Frz.recast (Recast.refl _) rfl | (refine Frz.one rfl rfl ?_; skip) | (refine Frz.tup ?_; skip))
theorem t_Itoa (n : Nat) (h : n < 9223372036854775808) : CallOK Tryz.prog 102 [.val (.int .i64 (n : Nat))] [] (.val (.string (tN n))) [] [] :=
  call_valsT (vs := [.int .i64 (n : Nat)]) ⟨Tryz.f102, Tryz.func102, rfl, by kernel_rfl⟩ rfl fun w ht => by
    rw [tN_eq]
    refine (Tryz.strconv_Itoa n (by omega) (by omega) w ht).mono ?_
    rintro e w' ⟨rfl, k, os, rfl⟩
    refine ⟨?_, Lib.below_grow w.heap.size w (Nat.le_refl _) k os⟩
    rw [Lib.itoa_nonneg]
theorem t_Repeat (c : Nat) (hc : c ≤ 100) : CallOK Tryz.prog 103 [.val (.string ⟨#[48]⟩), .val (.int .i64 (c : Nat))] [] (.val (.string ⟨(List.replicate c 48).toArray⟩)) [] [] :=
  call_vals (vs := [.string ⟨#[48]⟩, .int .i64 (c : Nat)]) ⟨Tryz.f103, Tryz.func103, rfl, by kernel_rfl⟩ rfl fun w => by
    have e : ∀ c, Lib.repeatL [48] c = List.replicate c 48 := fun c => by
      induction c with
      | zero => rfl
      | succ c ih => show [48] ++ Lib.repeatL [48] c = _; rw [ih, List.replicate_succ, List.singleton_append]
    refine (Tryz.strings_Repeat ⟨#[48]⟩ c w (by omega) (by show 1 * c ≤ _; omega)).mono ?_
    rintro e' w' ⟨rfl, hb⟩
    exact ⟨by rw [show (⟨#[48]⟩ : ByteArray).data.toList = [48] from rfl, e], hb⟩

/-- A block of strings. -/
abbrev sblk (ss : List ByteArray) : Blk := ⟨9, true, .seq 1 (ss.map sel)⟩
theorem str_ext {a b : List ByteArray} {n : Nat} (ha : a.length = n) (hb : b.length = n) (h : ∀ i, i < n → a.getD i .empty = b.getD i .empty) : a = b := by
  refine List.ext_getElem (ha.trans hb.symm) fun i h1 h2 => ?_
  have := h i (by omega)
  rwa [List.getD_eq_getElem?_getD, List.getD_eq_getElem?_getD, List.getElem?_eq_getElem h1, List.getElem?_eq_getElem h2] at this
theorem str_set {l : List ByteArray} {i j : Nat} {v : ByteArray} (hi : i < l.length) : (l.set i v).getD j .empty = if i = j then v else l.getD j .empty := by
  simp only [List.getD_eq_getElem?_getD, List.getElem?_set]
  by_cases h : i = j
  · subst h; simp [hi]
  · simp [h]
theorem str_rev {l : List ByteArray} {n k : Nat} (hl : l.length = n) (hk : k < n) : l.reverse.getD k .empty = l.getD (n - 1 - k) .empty := by
  simp only [List.getD_eq_getElem?_getD]
  rw [List.getElem?_reverse (by omega), hl]
theorem t_Reverse (ss : List ByteArray) (n : Nat) (hn : ss.length = n) (hl : n < 1099511627776) (K : Nat) : CallOK Tryz.prog 104 [.slc K 1 0 n] [(K, sblk ss)] (.tup []) [] [(K, sblk ss.reverse)] := by
  have e0 : IntKind.i64.wrap ((n : Int) - 1) = (n : Int) - 1 := wrap_i64 (by omega) (by omega)
  refine callK (Z := []) tabOK mixedOK Tryz.func104 rfl (by kernel_rfl) (args := [.slc 1001 1 0 n]) (fk := [(1001, sblk ss)]) (c := .tup []) (new := []) (upd := [(1001, sblk ss.reverse)]) (ShapeOK.of rfl rfl rfl rfl rfl rfl rfl rfl rfl rfl rfl) rfl (fun _ => K) NamesOK.upd ?_
  intro W0 w0 ρ0 hE
  conv => whnf
  (repeat (first | (rw [e0]; conv => whnf)))
  refine SW_loopN hE (fun k => k) [0, 2, 3] [1001] (fun q fr hp => ∃ (i : Nat) (ys : List ByteArray), q = n - i ∧ (2 * i ≤ n) ∧ ys.length = n ∧ (∀ k, k < n → ys.getD k .empty = if k < i ∨ n - i ≤ k then ss.getD (n - 1 - k) .empty else ss.getD k .empty) ∧
    fr = [(0, .slc 1001 1 0 n), (2, .val (.int .i64 (i : Nat))), (3, .val (.int .i64 ((n : Int) - 1 - i)))] ∧ hp = [(1001, sblk ys)]) n ?_ ?_ ?_
  · kernel_rfl
  · exact ⟨0, ss, rfl, by omega, hn, (fun k hk => by rw [if_neg (by omega)]), by rw [show (n : Int) - 1 - ((0 : Nat) : Int) = (n : Int) - 1 by omega]; rfl, rfl⟩
  rintro q _ _ ⟨i, ys, rfl, hi, hy, hv, rfl, rfl⟩
  conv => whnf
  by_cases hgo : i + i + 1 < n
  · obtain ⟨j, hj⟩ : ∃ j, j = n - 1 - i := ⟨_, rfl⟩
    have ej : (n : Int) - 1 - i = (j : Int) := by omega
    rw [ej]
    have t1 : decide ((i : Int) < (j : Int)) = true := decide_eq_true (by omega)
    have e1 := winc (i := i) (by omega)
    have e2 : IntKind.i64.wrap ((j : Int) - 1) = (n : Int) - 1 - ((i + 1 : Nat) : Int) := by rw [wrap_i64 (by omega) (by omega)]; omega
    have g1 : (ys.map sel).getD i .any = .val (.string (ys.getD i .empty)) := by rw [map_get (d := ByteArray.empty) (by omega)]; rfl
    have g2 : (ys.map sel).getD j .any = .val (.string (ys.getD j .empty)) := by rw [map_get (d := ByteArray.empty) (by omega)]; rfl
    have g3 : ((ys.map sel).set i (.val (.string (ys.getD j .empty)))).getD j .any = .val (.string (ys.getD j .empty)) := by rw [← g2, List.getD_eq_getElem?_getD, List.getElem?_set_ne (by omega), ← List.getD_eq_getElem?_getD]
    have hlm : (ys.map sel).length = n := by rw [List.length_map]; exact hy
    have hset : (((ys.set i (ys.getD j .empty)).set j (ys.getD i .empty)).map sel) = ((ys.map sel).set i (.val (.string (ys.getD j .empty)))).set j (.val (.string (ys.getD i .empty))) := by rw [List.map_set, List.map_set]; rfl
    have hnew : ∀ k, k < n → ((ys.set i (ys.getD j .empty)).set j (ys.getD i .empty)).getD k .empty = if k < i + 1 ∨ n - (i + 1) ≤ k then ss.getD (n - 1 - k) .empty else ss.getD k .empty := by
      intro k hk
      rw [str_set (by rw [List.length_set]; omega), str_set (by omega)]
      by_cases h1 : j = k
      · rw [if_pos h1, if_pos (by omega), hv i (by omega), if_neg (by omega), show n - 1 - k = i by omega]
      · rw [if_neg h1]
        by_cases h2 : i = k
        · rw [if_pos h2, if_pos (by omega), hv j (by omega), if_neg (by omega), show n - 1 - k = j by omega]
        · rw [if_neg h2, hv k hk]
          by_cases h3 : k < i ∨ n - i ≤ k
          · rw [if_pos h3, if_pos (by omega)]
          · rw [if_neg h3, if_neg (by omega)]
    (repeat ((first | refine step_w1 rfl rfl ?_ | refine step_i (by kernel_rfl) ?_ | refine And.intro (by first | decide | omega | (simp only [tiB5, tiB23, tiB3, tiB2, tiB9, tiB36, tiB54, tiB121, tiB34, tiB28, tiB4, tiB50, tiB52, dlen, List.length_replicate, List.length_set, List.length_map, List.length_zipWith, List.length_take, List.length_append, List.length_cons, List.length_nil]; omega)) ?_ | rw [t1] | rw [show 0 + (i : Int).toNat = i from by omega] | rw [show 0 + (j : Int).toNat = j from by omega] | rw [g1] | rw [g2] | rw [g3] | rw [e1] | rw [e2]); conv => whnf))
    refine ⟨n - (i + 1), fun k => k, [0, 2, 3], [1001], by omega, by kernel_rfl, i + 1, _, rfl, by omega, ?_, hnew, rfl, ?_⟩
    · rw [List.length_set, List.length_set]; exact hy
    · rw [sblk, hset]; rfl
  · have t1 : decide ((i : Int) < (n : Int) - 1 - i) = false := decide_eq_false (by omega)
    have e : ys = ss.reverse := str_ext hy (by rw [List.length_reverse]; exact hn) fun k hk => by
      rw [hv k hk, str_rev hn hk]
      split
      · rfl
      · rw [show n - 1 - k = k by omega]
    rw [e]
    (repeat (first | (refine step_w2 rfl rfl ?_; conv => whnf) | (rw [t1]; conv => whnf)))
    exact ⟨Recast.refl _, (fun _ _ h => by cases h), fun k b hm => by simp only [List.mem_singleton, Prod.mk.injEq] at hm; obtain ⟨rfl, rfl⟩ := hm; rfl⟩

theorem call_strsM {P : Program} {f : FuncId} {ss : List ByteArray} {n : Nat} {sep : ByteArray} {v : Value} {ty : TypeId} (hn : ss.length = n) (hf : FnOK P f) (hv : v.oneCell' = true)
    (h0 : ss = [] → ∀ (a : Option Addr) (w : World), Calls P f #[.slice a 0 0, .string sep] w fun e w' => e = .returned v ∧ w' = w)
    (h : ∀ (bk o c : Nat) (w : World), (∀ (j : Nat) x, ss[j]? = some x → w.cell? ⟨bk, o + j, none⟩ = some (.string x)) → bk < w.heap.size → ss.length ≤ c → Calls P f #[.slice (some ⟨bk, o, none⟩) ss.length c, .string sep] w fun e w' => e = .returned v ∧ RowKit.Below w.heap.size w w') (K : Nat) :
    CallOK P f [.slc K 1 0 n, .val (.string sep)] [(K, ⟨ty, true, .seq 1 (ss.map sel)⟩)] (.val v) [] [] := by
  subst hn
  refine .inl ⟨hf, fun ρ w z hz hp => ?_⟩
  simp only [HasZ] at hz
  obtain ⟨x, _, rfl, hx, y, _, rfl, hy, rfl⟩ := hz
  simp only [HasC] at hy
  obtain ⟨rfl, _⟩ := hy
  have fin : ∀ (a : Value), (Calls P f #[a, .string sep] w fun e w' => e = .returned v ∧ RowKit.Below w.heap.size w w') → Calls P f (List.zipWith mkV [.slc K 1 0 ss.length, SV.val (.string sep)] [[a], [.string sep]]).toArray w fun e w' => ∃ v' ρ', e = .returned v' ∧ Post ρ w (.val v) [] [] v' ρ' w' := fun a hc => by
    have e : (List.zipWith mkV [.slc K 1 0 ss.length, SV.val (.string sep)] [[a], [.string sep]]).toArray = #[a, .string sep] := by simp [mkV, SV.isOne]
    rw [e]
    refine hc.mono ?_
    rintro e w' ⟨rfl, hb⟩
    exact ⟨v, ρ, rfl, .of_below hb (has_val hv)⟩
  obtain ⟨z, hz, hcase⟩ := blk_rows (hp.hfk K _ (List.mem_cons_self ..)) rfl rfl
  simp only [HasC] at hx
  rcases hx with ⟨b, t, cap, e1, e2, e3, rfl⟩ | ⟨hn, a, rfl⟩
  · rcases hcase with ⟨b', t', ex, h1, h2, h3, h4⟩ | ⟨h1, _⟩
    · rw [e1] at h1
      cases h1
      have hzf : ∀ (l : List ByteArray) (z : List (List Value)), HasZ (bareR ρ.imm ρ.glob) (l.map sel) z → z.flatten = l.map .string := by
        intro l
        induction l with
        | nil => intro z hz; simp only [List.map_nil, HasZ] at hz; subst hz; rfl
        | cons s l ih =>
          intro z hz
          simp only [List.map_cons, HasZ, sel, HasC] at hz
          obtain ⟨x, r, rfl, ⟨rfl, _⟩, h⟩ := hz
          simp [ih r h]
      refine fin _ ((h b 0 cap w (fun j x hj => ?_) ?_ e2))
      · rw [cell_of_row w b _ _ _ _ h2, List.getElem?_toArray, hzf ss z hz.2.1, Nat.zero_add]
        rw [List.getElem?_append_left (by rw [List.length_map]; exact (List.getElem?_eq_some_iff.1 hj).1), List.getElem?_map, hj]; rfl
      · rcases Nat.lt_or_ge b w.heap.size with h' | h'
        · exact h'
        · simp [Array.getElem?_eq_none h'] at h2
    · rw [e1] at h1; cases h1
  · refine fin _ ?_
    have hn : ss = [] := List.length_eq_zero_iff.1 hn
    subst hn
    exact (h0 rfl a w).mono fun _ _ ⟨he, hw⟩ => ⟨he, hw ▸ RowKit.Below.refl _ _⟩
theorem t_JoinM (ss : List ByteArray) (n : Nat) (hn : ss.length = n) (sep : ByteArray) (hN : ss.length ≤ 1099511627776) (hlen : (Lib.join (ss.map (·.data.toList)) sep.data.toList).length ≤ 140737488355328) (K : Nat) :
    CallOK Tryz.prog 105 [.slc K 1 0 n, .val (.string sep)] [(K, sblk ss)] (.val (.string ⟨(Lib.join (ss.map (·.data.toList)) sep.data.toList).toArray⟩)) [] [] := by
  refine call_strsM hn ⟨Tryz.f105, Tryz.func105, rfl, by kernel_rfl⟩ rfl ?_ ?_ K
  · rintro rfl a w
    exact Tryz.strings_Join_none a 0 sep w
  · intro bk o c w hc hb hcap
    exact Tryz.strings_Join bk o c ss sep w hc hb (by omega) hcap hlen
end Go.Proofs.YtdcaodkjofkmgaaGreatDoor

namespace Go.Proofs.YtdcaodkjofkmgaaGreatDoor
open Go.Sx
set_option linter.unusedSimpArgs false
set_option linter.unusedVariables false
set_option maxRecDepth 100000
set_option maxHeartbeats 4000000

theorem dec_len : ∀ k n, n < 2 ^ k → (Lib.decDigits n).length ≤ k + 1
  | 0, n, h => by
    obtain rfl : n = 0 := by simp at h; exact h
    rw [dec_lt (by decide)]; simp
  | k + 1, n, h => by
    by_cases h1 : n < 10
    · rw [dec_lt h1]; simp
    · rw [dec_big (by omega), List.length_append, List.length_singleton]
      have := dec_len k (n / 10) (by rw [Nat.pow_succ] at h; omega)
      omega
def cat (ss : List ByteArray) : List UInt8 := (ss.map (·.data.toList)).flatten
theorem join_empty (l : List (List UInt8)) : Lib.join l [] = l.flatten := by
  cases l with
  | nil => rfl
  | cons x r => rw [Lib.join_cons, Lib.joinTail]; simp
theorem cut_digs {v m : Nat} (h : v < 4294967296 ^ m) : cutN (digs v m) m = (wInts v).length ∧ (wInts v).length ≤ m := by
  have hlen := digs_len v m
  have hv := valI_digs v m
  rw [Nat.mod_eq_of_lt h] at hv
  have hc := valI_cut (digs v m) m
  have hle := cutN_le (digs v m) m
  have htop := cutN_top (digs v m) m
  have := wInts_of (cutN (digs v m) m) (digs v m) (digs_w32 v m) (by omega) htop
  rw [hc, hv, Int.toNat_natCast] at this
  have e : (wInts v).length = cutN (digs v m) m := by rw [this, List.length_take]; omega
  exact ⟨e.symm, by omega⟩
theorem sz_div9 {v : Nat} (h : 1000000000 ≤ v) : sz (v / 1000000000) + 29 ≤ sz v := by
  have h1 : v < 2 ^ sz v := sz_le.1 (Nat.le_refl _)
  have h2 : 29 ≤ sz v := by
    rcases Nat.lt_or_ge (sz v) 29 with g | g
    · have : 2 ^ sz v ≤ 2 ^ 29 := Nat.pow_le_pow_right (by decide) (by omega)
      omega
    · exact g
  have h3 : sz (v / 1000000000) ≤ sz v - 29 := sz_le.2 (by
    rw [Nat.div_lt_iff_lt_mul (by decide)]
    have e : 2 ^ sz v = 2 ^ (sz v - 29) * 2 ^ 29 := by rw [← Nat.pow_add]; congr 1; omega
    have : 2 ^ (sz v - 29) * 2 ^ 29 ≤ 2 ^ (sz v - 29) * 1000000000 := Nat.mul_le_mul_left _ (by decide)
    omega)
  omega
theorem tN_size9 {r : Nat} (h : r < 1000000000) : (tN r).size ≤ 9 := by
  rw [tN_eq]
  show (Lib.decDigits r).toArray.size ≤ 9
  have := (pad_dec 9 r h (by decide)).2
  simpa using this
/-- A part of a text, filled with zeros. -/
theorem pad_tN {r : Nat} (h : r < 1000000000) : ((⟨(List.replicate (9 - (tN r).size) 48).toArray⟩ : ByteArray) ++ tN r).data.toList = padF 9 r := by
  have hs : (tN r).size = (Lib.decDigits r).length := by rw [tN_eq]; show (Lib.decDigits r).toArray.size = _; simp
  rw [(pad_dec 9 r h (by decide)).1, hs, tN_eq, ByteArray.data_append]
  simp
theorem cat_snoc (ps : List ByteArray) (s : ByteArray) : cat (ps ++ [s]).reverse = s.data.toList ++ cat ps.reverse := by simp [cat]

theorem wl_of {n M : Nat} (h : sz n ≤ M) : (wInts n).length ≤ M := len_le_of (Nat.lt_of_lt_of_le (sz_le.1 h) (Nat.pow_le_pow_left (by decide) M))
theorem t_NatB (n : Nat) (h : ¬ n < 18446744073709551616) (hs : sz n ≤ 1073741824) : CallOK Tryz.prog 71 [.nat n] [] (.val (.string (tN n))) [] [] := by
  have hwl : (wInts n).length < 1099511627776 := Nat.lt_of_le_of_lt (wl_of hs) (by decide)
  have k1 := c_words n 3001 hwl
  have e2 : ((big n).toList == (ByteArray.mk #[]).toList) = false := by rw [big_eq]; exact decide_eq_false h
  have hwa := wArr_len n
  refine callF (Z := []) tabOK mixedOK Tryz.func71 rfl (by kernel_rfl) (by first | rfl | (simp [keylessL, keyless, keylessL_map, *]; done)) (by first | rfl | (simp [keylessL, keyless, keylessL_map, *]; done)) (by kernel_rfl) rfl ?_
  intro w0 ρ0 hE
  conv => whnf
  (repeat ((first | refine step_w2 rfl rfl ?_ | refine g_cn (by assumption) rfl ?_ | rw [e2] | rw [Nat.zero_add]); conv => whnf))
  refine SWx_adopt (t := 3) (k := 2002) (s := 1) (blk := sblk []) rfl rfl rfl ?_
  have hwn := wInts_val n
  refine SW_loopN hE (fun k => k) [3, 4] [2002, 3001] (fun q fr hp => ∃ (v : Nat) (L : List Int) (ps : List ByteArray), q = v ∧ (wInts v).length ≤ L.length ∧ L.length < 1099511627776 ∧ W32 L ∧ valI L (wInts v).length = (v : Int) ∧ ((v ≠ 0 ∧ Lib.decDigits n = Lib.decDigits v ++ cat ps.reverse ∧ ps.length * 29 + sz v ≤ sz n) ∨ (v = 0 ∧ Lib.decDigits n = cat ps.reverse ∧ ps.length * 29 ≤ sz n + 29)) ∧
    fr = [(3, .slc 2002 1 0 ps.length), (4, .slc 3001 1 0 (wInts v).length)] ∧ hp = [(2002, sblk ps), (3001, ⟨23, true, .ints .u32 L⟩)]) n ?_ ?_ ?_
  · kernel_rfl
  · have hwA : (wArr n) = wInts n := by rw [wArr, if_neg h]
    refine ⟨n, wArr n, [], rfl, hwa, by rw [hwA]; exact hwl, by rw [hwA]; exact wInts_w32 n, by rw [hwA]; exact hwn, .inl ⟨by omega, ?_, by simp⟩, rfl, rfl⟩
    simp [cat]
  rintro q _ _ ⟨v, L, ps, rfl, hL, hLl, hLw, hLv, hrel, rfl, rfl⟩
  conv => whnf
  have hpl : ps.length < 1099511627776 := by rcases hrel with ⟨_, _, g⟩ | ⟨_, _, g⟩ <;> omega
  by_cases h0 : 0 < q
  · obtain ⟨_, hdec, hlen⟩ := hrel.resolve_right (by omega)
    clear hrel
    have hm := wInts_top (n := q) (by omega)
    have t1 : decide (((wInts q).length : Int) > 0) = true := decide_eq_true (by omega)
    have hqm : q < 4294967296 ^ (wInts q).length := lt_of_len q
    have k2 := c_short L (wInts q).length hL (by omega) hLw 1000000000 (by decide) (by decide) 3001 3002 (by decide) true q hLv
    obtain ⟨hcut, hcle⟩ := cut_digs (v := q / 1000000000) (m := (wInts q).length) (Nat.lt_of_le_of_lt (Nat.div_le_self _ _) hqm)
    have hdl := digs_len (q / 1000000000) (wInts q).length
    have k3 := c_cut (digs (q / 1000000000) (wInts q).length) (wInts q).length (by omega) (by omega) 3002 true
    rw [hcut] at k3
    have hr : q % 1000000000 < 1000000000 := Nat.mod_lt _ (by decide)
    have k4 := t_Itoa (q % 1000000000) (by omega)
    have e1 : IntKind.i64.wrap ((q % 1000000000 : Nat) : Int) = ((q % 1000000000 : Nat) : Int) := wrap_i64 (by omega) (by omega)
    have hsz := tN_size9 hr
    have hdw : W32 (digs (q / 1000000000) (wInts q).length) := digs_w32 _ _
    have hdv : valI (digs (q / 1000000000) (wInts q).length) (wInts (q / 1000000000)).length = ((q / 1000000000 : Nat) : Int) := by
      have h1 := valI_cut (digs (q / 1000000000) (wInts q).length) (wInts q).length
      rw [hcut, valI_digs, Nat.mod_eq_of_lt (Nat.lt_of_le_of_lt (Nat.div_le_self _ _) hqm)] at h1
      exact h1
    have hqv : q / 1000000000 * 1000000000 + q % 1000000000 = q := by have := Nat.div_add_mod q 1000000000; omega
    by_cases hq : 1000000000 ≤ q
    · have hv0 : 0 < q / 1000000000 := Nat.div_pos hq (by decide)
      have hs9 := sz_div9 hq
      have hsplit := dec_split 9 (q / 1000000000) (q % 1000000000) hv0 hr
      rw [show 10 ^ 9 = 1000000000 from rfl, hqv, ← pad_tN hr] at hsplit
      have hm2 := wInts_top (n := q / 1000000000) (by omega)
      have t2 : decide (((wInts (q / 1000000000)).length : Int) > 0) = true := decide_eq_true (by omega)
      have e2 : IntKind.i64.wrap (9 - ((tN (q % 1000000000)).size : Int)) = ((9 - (tN (q % 1000000000)).size : Nat) : Int) := by rw [wrap_i64 (by omega) (by omega)]; omega
      have k5 := t_Repeat (9 - (tN (q % 1000000000)).size) (by omega)
      have hrs : (⟨(List.replicate (9 - (tN (q % 1000000000)).size) 48).toArray⟩ : ByteArray).size = 9 - (tN (q % 1000000000)).size := by show (List.replicate _ _).toArray.size = _; simp
      have hob : (⟨(List.replicate (9 - (tN (q % 1000000000)).size) 48).toArray⟩ : ByteArray).size + (tN (q % 1000000000)).size ≤ 9223372036854775807 := by omega
      have hd2 : Lib.decDigits n = Lib.decDigits (q / 1000000000) ++ cat (ps ++ [(⟨(List.replicate (9 - (tN (q % 1000000000)).size) 48).toArray⟩ : ByteArray) ++ tN (q % 1000000000)]).reverse := by
        rw [hdec, hsplit, cat_snoc, List.append_assoc]
      clear hdec hsplit
      generalize (⟨(List.replicate (9 - (tN (q % 1000000000)).size) 48).toArray⟩ : ByteArray) = z9 at *
      have hpm : (ps.map sel).length = ps.length := List.length_map ..
      (repeat ((first | refine step_w1 rfl rfl ?_ | refine And.intro (by first | decide | omega | (simp only [tiB5, tiB23, tiB3, tiB2, tiB9, tiB36, tiB54, tiB121, tiB34, tiB28, tiB4, tiB50, tiB52, dlen, List.length_replicate, List.length_set, List.length_map, List.length_zipWith, List.length_take, List.length_append, List.length_cons, List.length_nil]; omega)) ?_ | refine g_c (by assumption) ?_ | refine g_c1 (by assumption) rfl ?_ | refine g_c1n (by assumption) rfl rfl ?_ | rw [t1] | rw [e1] | rw [t2] | rw [e2]); conv => whnf))
      refine ⟨q / 1000000000, renBy [(41, 2002), (3002, 3001)], [3, 4], [41, 3002], by omega, by kernel_rfl, q / 1000000000, _, ps ++ [z9 ++ tN (q % 1000000000)], rfl, by rw [hdl]; exact hcle, by omega, hdw, hdv, .inl ⟨by omega, hd2, by rw [List.length_append, List.length_singleton]; omega⟩, by rw [List.length_append]; rfl, ?_⟩
      have e9 : sblk (ps ++ [z9 ++ tN (q % 1000000000)]) = ⟨9, true, .seq 1 (List.take ps.length (ps.map sel) ++ List.take 1 (List.drop 0 [SV.val (.string (z9 ++ tN (q % 1000000000)))]))⟩ := by
        rw [sblk, List.take_of_length_le (by omega), List.map_append]; rfl
      rw [e9]; rfl
    · have hv0 : q / 1000000000 = 0 := Nat.div_eq_of_lt (by omega)
      have t2 : decide (((wInts (q / 1000000000)).length : Int) > 0) = false := by rw [hv0]; rfl
      have hmod : q % 1000000000 = q := Nat.mod_eq_of_lt (by omega)
      have hd2 : Lib.decDigits n = cat (ps ++ [tN (q % 1000000000)]).reverse := by
        rw [hdec, cat_snoc, hmod, tN_eq]
      clear hdec
      have hpm : (ps.map sel).length = ps.length := List.length_map ..
      (repeat ((first | refine step_w1 rfl rfl ?_ | refine step_w2 rfl rfl ?_ | refine And.intro (by first | decide | omega | (simp only [tiB5, tiB23, tiB3, tiB2, tiB9, tiB36, tiB54, tiB121, tiB34, tiB28, tiB4, tiB50, tiB52, dlen, List.length_replicate, List.length_set, List.length_map, List.length_zipWith, List.length_take, List.length_append, List.length_cons, List.length_nil]; omega)) ?_ | refine g_c (by assumption) ?_ | refine g_c1 (by assumption) rfl ?_ | refine g_c1n (by assumption) rfl rfl ?_ | rw [t1] | rw [e1] | rw [t2]); conv => whnf))
      refine ⟨q / 1000000000, renBy [(41, 2002), (3002, 3001)], [3, 4], [41, 3002], by omega, by kernel_rfl, q / 1000000000, _, ps ++ [tN (q % 1000000000)], rfl, by rw [hdl]; exact hcle, by omega, hdw, hdv, .inr ⟨hv0, hd2, by rw [List.length_append, List.length_singleton]; omega⟩, by rw [List.length_append]; rfl, ?_⟩
      have e9 : sblk (ps ++ [tN (q % 1000000000)]) = ⟨9, true, .seq 1 (List.take ps.length (ps.map sel) ++ List.take 1 (List.drop 0 [SV.val (.string (tN (q % 1000000000)))]))⟩ := by
        rw [sblk, List.take_of_length_le (by omega), List.map_append]; rfl
      rw [e9]; rfl
  · obtain rfl : q = 0 := by omega
    obtain ⟨_, hdec, _⟩ := hrel.resolve_left (fun h => h.1 rfl)
    have t1 : decide (((wInts 0).length : Int) > 0) = false := rfl
    have k2 := t_Reverse ps ps.length rfl (by omega) 2002
    have hdl : (Lib.decDigits n).length ≤ 140737488355328 := by
      exact Nat.le_trans (dec_len (sz n) n (sz_le.1 (Nat.le_refl _))) (by omega)
    have k3 := t_JoinM ps.reverse ps.length (by rw [List.length_reverse]) ⟨#[]⟩ (by rw [List.length_reverse]; omega) (by
      rw [show (⟨#[]⟩ : ByteArray).data.toList = [] from rfl, join_empty]
      show (cat ps.reverse).length ≤ _
      rw [← hdec]; exact hdl) 2002
    have e : (⟨(Lib.join (ps.reverse.map (·.data.toList)) (⟨#[]⟩ : ByteArray).data.toList).toArray⟩ : ByteArray) = tN n := by
      rw [show (⟨#[]⟩ : ByteArray).data.toList = [] from rfl, join_empty, tN_eq, hdec]; rfl
    rw [e] at k3
    (repeat (first | (refine step_w2 rfl rfl ?_; conv => whnf) | (refine g_c1 (by assumption) rfl ?_; conv => whnf) | (refine g_c1u (by assumption) rfl rfl ?_; conv => whnf))); (first | exact Recast.refl _ | exact Frz.recast (Recast.refl _) rfl | (refine Frz.one rfl rfl ?_; skip) | (refine Frz.tup ?_; skip))

theorem tN_sizeG (n : Nat) : (tN n).size ≤ sz n + 1 := by
  rw [tN_eq]
  show (Lib.decDigits n).toArray.size ≤ _
  simpa using dec_len (sz n) n (sz_le.1 (Nat.le_refl _))
theorem t_NatG (n : Nat) (hs : sz n ≤ 1073741824) : CallOK Tryz.prog 71 [.nat n] [] (.val (.string (tN n))) [] [] := by
  by_cases h : n < 18446744073709551616
  · have k1 := t_FormatG n h
    have e1 : low n = (n : Int) := low_small h
    have e2 : ((big n).toList == (ByteArray.mk #[]).toList) = true := by rw [big_eq]; exact decide_eq_true h
    refine callV (Z := []) tabOK mixedOK Tryz.func71 rfl (by kernel_rfl) rfl rfl (by kernel_rfl) rfl ?_
    intro W0 w0 ρ0 hE
    conv => whnf
    (repeat ((first | refine step_w1 rfl rfl ?_ | refine g_c (by assumption) ?_ | rw [e2] | rw [e1]); conv => whnf)); (first | exact Recast.refl _ | exact Frz.recast (Recast.refl _) rfl | (refine Frz.one rfl rfl ?_; skip) | (refine Frz.tup ?_; skip))
  · exact t_NatB n h hs
theorem t_IntG (z : Int) (h : sz z.natAbs ≤ 1073741824) : CallOK Tryz.prog 70 [.int z] [] (.val (.string (tZ z))) [] [] := by
  have k1 := t_NatG z.natAbs h
  have hs := tN_sizeG z.natAbs
  have h1 : (ByteArray.mk #[45]).size = 1 := rfl
  have h2 : (ByteArray.mk #[45]).size + (tN z.natAbs).size ≤ 9223372036854775807 := by omega
  unfold tZ
  refine callV (Z := []) tabOK mixedOK Tryz.func70 rfl (by kernel_rfl) rfl rfl (by kernel_rfl) rfl ?_
  intro W0 w0 ρ0 hE
  conv => whnf
  by_cases hz : z < 0
  · have t1 : decide (z < 0) = true := decide_eq_true hz
    rw [if_pos hz]
    (repeat ((first | refine step_w1 rfl rfl ?_ | refine And.intro (by first | decide | omega | (simp only [tiB5, tiB23, tiB3, tiB2, tiB9, tiB36, tiB54, tiB121, tiB34, tiB28, tiB4, tiB50, tiB52, dlen, List.length_replicate, List.length_set, List.length_map, List.length_zipWith, List.length_take, List.length_append, List.length_cons, List.length_nil]; omega)) ?_ | refine g_c (by assumption) ?_ | rw [t1]); conv => whnf)); (first | exact Recast.refl _ | exact Frz.recast (Recast.refl _) rfl | (refine Frz.one rfl rfl ?_; skip) | (refine Frz.tup ?_; skip))
  · have t1 : decide (z < 0) = false := decide_eq_false hz
    rw [if_neg hz]
    (repeat (first | (refine step_w2 rfl rfl ?_; conv => whnf) | (refine g_c (by assumption) ?_; conv => whnf) | (rw [t1]; conv => whnf))); (first | exact Recast.refl _ | exact Frz.recast (Recast.refl _) rfl | (refine Frz.one rfl rfl ?_; skip) | (refine Frz.tup ?_; skip))
theorem tZ_sizeG (z : Int) : (tZ z).size ≤ sz z.natAbs + 2 := by
  have hs := tN_sizeG z.natAbs
  unfold tZ
  split
  · rw [ByteArray.size_append]; have : ("-".toUTF8).size = 1 := rfl; omega
  · omega
theorem t_FracG (q : Rat) (h : fs q ≤ 1073741824) : CallOK Tryz.prog 43 [.frac q] [] (.val (.string (tQ q))) [] [] := by
  have n1 := fsz_num q
  have n2 := fsz_den q
  unfold fs at h
  have kw := c_Whole q
  have k1 := t_IntG q.num (by omega)
  have k2 := t_NatG q.den (by omega)
  have k3 := c_den natBig q (by omega)
  have hs := tZ_sizeG q.num
  have hs2 := tN_sizeG q.den
  have h1 : (ByteArray.mk #[47]).size = 1 := rfl
  have h2 : (tZ q.num).size + (ByteArray.mk #[47]).size ≤ 9223372036854775807 := by omega
  have h3 : (tZ q.num ++ (ByteArray.mk #[47])).size + (tN q.den).size ≤ 9223372036854775807 := by rw [ByteArray.size_append]; omega
  unfold tQ
  refine callV (Z := []) tabOK mixedOK Tryz.func43 rfl (by kernel_rfl) rfl rfl (by kernel_rfl) rfl ?_
  intro W0 w0 ρ0 hE
  conv => whnf
  by_cases hd : q.den = 1
  · rw [decide_eq_true hd] at kw
    rw [if_pos hd]
    (repeat (first | (refine step_w1 rfl rfl ?_; conv => whnf) | (refine g_c (by assumption) ?_; conv => whnf))); (first | exact Recast.refl _ | exact Frz.recast (Recast.refl _) rfl | (refine Frz.one rfl rfl ?_; skip) | (refine Frz.tup ?_; skip))
  · rw [decide_eq_false hd] at kw
    rw [if_neg hd]
    (repeat ((first | refine step_w2 rfl rfl ?_ | refine step_i (by kernel_rfl) ?_ | refine And.intro (by first | decide | omega | (simp only [tiB5, tiB23, tiB3, tiB2, tiB9, tiB36, tiB54, tiB121, tiB34, tiB28, tiB4, tiB50, tiB52, dlen, List.length_replicate, List.length_set, List.length_map, List.length_zipWith, List.length_take, List.length_append, List.length_cons, List.length_nil]; omega)) ?_ | refine g_c (by assumption) ?_); conv => whnf)); (first | exact Recast.refl _ | exact Frz.recast (Recast.refl _) rfl | (refine Frz.one rfl rfl ?_; skip) | (refine Frz.tup ?_; skip))
end Go.Proofs.YtdcaodkjofkmgaaGreatDoor

namespace Go.Proofs.YtdcaodkjofkmgaaGreatDoor
open Go.Sx
set_option linter.unusedSimpArgs false
set_option linter.unusedVariables false
set_option maxRecDepth 100000
set_option maxHeartbeats 4000000

/-- string(byte): a digit. -/
theorem op_digit {P : Program} {o : Oper} {fr : List (Nat × SV)} {fk : List (Nat × Blk)} {src dst : TypeId} {x : Operand} {ti td : TI} {kd kd' : IntKind} {d : Nat} (ho : o.op = .convert src dst x) (hx : EvOK fr x (.val (.int kd (d : Nat)))) (hd : d < 128)
    (ht : TOK P src ti) (hk : ti.kind = .int kd') (htd : TOK P dst td) (hkd : td.kind = .str) : OpOK P o fr fk (.val (.string ⟨#[UInt8.ofNat d]⟩)) [] [] :=
  ok_pure fun ρ a w hp => by
    have hv := of_has_val (hx ρ a hp.hft)
    have hu := ht.kind; rw [hk] at hu
    have hud := htd.kind; rw [hkd] at hud
    refine ⟨_, ?_, has_val rfl⟩
    have e : Utf8.encode (d : Int) = ⟨#[UInt8.ofNat d]⟩ := by
      exact (show ∀ d, d < 128 → Utf8.encode ((d : Nat) : Int) = ⟨#[UInt8.ofNat d]⟩ by decide +kernel) d hd
    simp only [execOp, ho, hv, convert, Sem.run_bind, run_underlying hu, run_underlying hud, Result.andThen_ok, Conv.intToString, Sem.run_pure, e]

theorem pad_front : ∀ e n, padF (e + 1) (n % 10 ^ (e + 1)) = UInt8.ofNat (48 + n / 10 ^ e % 10) :: padF e (n % 10 ^ e)
  | 0, n => by simp [padF]
  | e + 1, n => by
    have h1 : n % 10 ^ (e + 2) / 10 = n / 10 % 10 ^ (e + 1) := by rw [Nat.pow_succ 10 (e + 1), Nat.mul_comm, Nat.mod_mul_right_div_self]
    have h2 : n % 10 ^ (e + 1) / 10 = n / 10 % 10 ^ e := by rw [Nat.pow_succ, Nat.mul_comm, Nat.mod_mul_right_div_self]
    have h3 : n % 10 ^ (e + 2) % 10 = n % 10 := Nat.mod_mod_of_dvd _ (Nat.dvd_trans (by exact ⟨1, rfl⟩) (Nat.dvd_trans (show 10 ∣ 10 ^ 1 from ⟨1, rfl⟩) (Nat.pow_dvd_pow 10 (by omega))))
    have h4 : n % 10 ^ (e + 1) % 10 = n % 10 := Nat.mod_mod_of_dvd _ (Nat.dvd_trans (show 10 ∣ 10 ^ 1 from ⟨1, rfl⟩) (Nat.pow_dvd_pow 10 (by omega)))
    rw [padF, h1, h3, pad_front e (n / 10), padF, h2, h4, Nat.div_div_eq_div_mul, ← Nat.pow_succ']
    rfl
/-- All digits, when the first is not zero. -/
theorem pad_full : ∀ e n, n < 10 ^ (e + 1) → (e = 0 ∨ 10 ^ e ≤ n) → padF (e + 1) n = Lib.decDigits n
  | 0, n, h, _ => by
    have h : n < 10 := by simpa using h
    rw [padF, dec_lt h, show n % 10 = n by omega]; rfl
  | e + 1, n, h, h' => by
    have h2 : 10 ^ (e + 1) ≤ n := h'.resolve_left (by omega)
    have h10 : 10 ≤ n := Nat.le_trans (Nat.le_trans (by decide) (Nat.pow_le_pow_right (n := 10) (by decide) (show 1 ≤ e + 1 by omega))) h2
    rw [Nat.pow_succ] at h
    rw [padF, dec_big h10, pad_full e (n / 10) (by omega) (by
      rw [Nat.pow_succ] at h2
      exact .inr (by omega))]
theorem bytes_cons (c : UInt8) (l : List UInt8) : (⟨#[c]⟩ : ByteArray) ++ ⟨l.toArray⟩ = ⟨(c :: l).toArray⟩ := by
  apply ByteArray.ext
  rw [ByteArray.data_append]
  apply Array.ext'
  simp

abbrev dS (l : List UInt8) : SV := .val (.string ⟨l.toArray⟩)
theorem padF_len : ∀ k r, (padF k r).length = k
  | 0, _ => rfl
  | k + 1, r => by rw [padF, List.length_append, padF_len k]; rfl
theorem r_Text (n : Nat) (hn : (td n).length < 268435456) : CallOK Tryz.prog 73 [nN n] [] (.val (.string (tN n))) [] [] := by
  rw [tN_eq]
  by_cases h0 : n = 0
  · subst h0
    have t1 : (((td 0).length : Int) == 0) = true := rfl
    have e : (⟨(Lib.decDigits 0).toArray⟩ : ByteArray) = ⟨#[48]⟩ := by rw [dec_lt (by decide)]; rfl
    rw [e]
    refine callV (Z := []) tabOK mixedOK Tryz.func73 rfl (by kernel_rfl) rfl rfl (by kernel_rfl) rfl ?_
    intro W0 w0 ρ0 hE
    conv => whnf
    (repeat (first | (refine step_w1 rfl rfl ?_; conv => whnf) | (refine g_o (op_lenM rfl rfl rfl (ev_ok rfl) (tgt rfl) rfl) ?_; conv => whnf))); (first | exact Recast.refl _ | exact Frz.recast (Recast.refl _) rfl | (refine Frz.one rfl rfl ?_; skip) | (refine Frz.tup ?_; skip))
  have hl0 := td_len_zero (n := n)
  have t1 : (((td n).length : Int) == 0) = false := beq_false_of_ne (by omega)
  have htop := td_ge_pow h0
  have hnlt := tlt_len n
  have p10 : ∀ i, (10000 : Nat) ^ i = 10 ^ (4 * i) := fun i => by rw [Nat.pow_mul]
  refine callV (Z := []) tabOK mixedOK Tryz.func73 rfl (by kernel_rfl) rfl rfl (by kernel_rfl) rfl ?_
  intro W0 w0 ρ0 hE
  conv => whnf
  (repeat (first | (refine step_w2 rfl rfl ?_; conv => whnf) | (refine g_o (op_lenM rfl rfl rfl (ev_ok rfl) (tgt rfl) rfl) ?_; conv => whnf) | (rw [t1]; conv => whnf)))
  refine SW_loopN hE (fun k => k) [0, 3, 4] [] (fun q fr hp => ∃ (i : Nat) (l : List UInt8), q = (td n).length - i ∧ i ≤ (td n).length ∧ l.length ≤ 4 * i ∧ (i < (td n).length → l = padF (4 * i) (n % 10 ^ (4 * i))) ∧ (i = (td n).length → l = Lib.decDigits n) ∧
    fr = [(0, nN n), (3, dS l), (4, .val (.int .i64 (i : Nat)))] ∧ hp = []) (td n).length ?_ ?_ ?_
  · kernel_rfl
  · exact ⟨0, [], rfl, Nat.zero_le _, by simp, (fun _ => rfl), (fun h => by omega), rfl, rfl⟩
  rintro q _ _ ⟨i, l, rfl, hi, hll, hl1, hl2, rfl, rfl⟩
  conv => whnf
  by_cases hlt : i < (td n).length
  · have t2 : decide ((i : Int) < ((td n).length : Int)) = true := decide_eq_true (by omega)
    have e1 := winc (i := i) (by omega)
    obtain rfl := hl1 hlt
    clear hl1 hl2 hll
    have hg := td_get n i
    have hd : n / 10000 ^ i % 10000 = n / 10 ^ (4 * i) % 10 ^ 4 := by rw [p10]
    have hlast : i + 1 = (td n).length → n / 10 ^ (4 * i) < 10 ^ 4 ∧ 0 < n / 10 ^ (4 * i) := fun h => by
      rw [← p10]
      constructor
      · rw [Nat.div_lt_iff_lt_mul (Nat.pow_pos (by decide)), show (10 : Nat) ^ 4 = 10000 ^ 1 from rfl, ← Nat.pow_add, Nat.add_comm, h]; exact hnlt
      · exact Nat.div_pos (by rw [← h, Nat.add_sub_cancel] at htop; exact htop) (Nat.pow_pos (by decide))
    (repeat ((first | refine step_w1 rfl rfl ?_ | refine g_o (op_lenM rfl rfl rfl (ev_ok rfl) (tgt rfl) rfl) ?_ | refine g_o (op_loadA rfl (ev_ok rfl) (tgt rfl) rfl (Nat.succ_ne_zero _) rfl) ?_ | refine g_o (op_indexN (α := Int) (d := 0) rfl (ev_ok rfl) (ev_ok rfl) (tgt rfl) rfl (tgt rfl) rfl (by omega)) ?_ | rw [t2] | rw [hg]); conv => whnf))
    refine SW_loopN hE (fun k => k) [0, 3, 4, 5, 6] [] (fun q fr hp => ∃ k : Nat, q = 4 - k ∧ k ≤ 4 ∧ (i + 1 = (td n).length → k = 0 ∨ 0 < n / 10 ^ (4 * i + (k - 1))) ∧
      fr = [(0, nN n), (3, dS (padF (4 * i + k) (n % 10 ^ (4 * i + k)))), (4, .val (.int .i64 (i : Nat))), (5, .val (.int .i64 ((n / 10 ^ (4 * i) % 10 ^ 4 / 10 ^ k : Nat) : Int))), (6, .val (.int .i64 (k : Nat)))] ∧ hp = []) 4 ?_ ?_ ?_
    · kernel_rfl
    · exact ⟨0, rfl, Nat.zero_le _, (fun _ => .inl rfl), by rw [Nat.add_zero, Nat.pow_zero, Nat.div_one, ← hd]; rfl, rfl⟩
    rintro q _ _ ⟨k, rfl, hk, hkl, rfl, rfl⟩
    have hlen := padF_len (4 * i + k) (n % 10 ^ (4 * i + k))
    have hdv : n / 10 ^ (4 * i) % 10 ^ 4 / 10 ^ k < 10000 := Nat.lt_of_le_of_lt (Nat.div_le_self _ _) (Nat.mod_lt _ (by decide))
    have hnext : n / 10 ^ (4 * i) % 10 ^ 4 / 10 ^ k / 10 = n / 10 ^ (4 * i) % 10 ^ 4 / 10 ^ (k + 1) := by rw [Nat.div_div_eq_div_mul, ← Nat.pow_succ]
    have hdig : k < 4 → n / 10 ^ (4 * i) % 10 ^ 4 / 10 ^ k % 10 = n / 10 ^ (4 * i + k) % 10 := fun h => by
      have e4 : (10 : Nat) ^ 4 = 10 ^ k * 10 ^ (4 - k) := by rw [← Nat.pow_add]; congr 1; omega
      rw [e4, Nat.mod_mul_right_div_self, Nat.div_div_eq_div_mul, ← Nat.pow_add]
      refine Nat.mod_mod_of_dvd _ ?_
      exact Nat.dvd_trans (show 10 ∣ 10 ^ 1 from ⟨1, rfl⟩) (Nat.pow_dvd_pow 10 (by omega))
    have hlz : i + 1 = (td n).length → n / 10 ^ (4 * i) % 10 ^ 4 / 10 ^ k = n / 10 ^ (4 * i + k) := fun h => by
      rw [Nat.mod_eq_of_lt (hlast h).1, Nat.div_div_eq_div_mul, ← Nat.pow_add]
    have hfront := pad_front (4 * i + k) n
    conv => whnf
    generalize hD : n / 10 ^ (4 * i) % 10 ^ 4 / 10 ^ k = D at *
    by_cases hk4 : k < 4
    · have t3 : decide ((k : Int) < 4) = true := decide_eq_true (by omega)
      have e2 := winc (i := k) (by omega)
      have hgoes : (i + 1 < (td n).length ∨ 0 < D) → True := fun _ => trivial
      have e3 : (D : Int).tmod 10 = ((D % 10 : Nat) : Int) := by rw [Int.tmod_eq_emod_of_nonneg (by omega)]; rfl
      have e4 : IntKind.i64.wrap (48 + ((D % 10 : Nat) : Int)) = ((48 + D % 10 : Nat) : Int) := by rw [wrap_i64 (by omega) (by omega)]; omega
      have e5 : IntKind.u8.wrap ((48 + D % 10 : Nat) : Int) = ((48 + D % 10 : Nat) : Int) := by rw [IntKind.wrap_u8]; omega
      have e6 : IntKind.i64.wrap ((D : Int).tdiv 10) = ((D / 10 : Nat) : Int) := by rw [Int.tdiv_eq_ediv_of_nonneg (by omega)]; exact wrap_i64 (by omega) (by omega)
      have e7 : (D : Int).tdiv 10 = ((D / 10 : Nat) : Int) := by rw [Int.tdiv_eq_ediv_of_nonneg (by omega)]; rfl
      have hob : (⟨#[UInt8.ofNat (48 + D % 10)]⟩ : ByteArray).size + (⟨(padF (4 * i + k) (n % 10 ^ (4 * i + k))).toArray⟩ : ByteArray).size ≤ 9223372036854775807 := by
        have h1 : (⟨(padF (4 * i + k) (n % 10 ^ (4 * i + k))).toArray⟩ : ByteArray).size = 4 * i + k := by show (padF _ _).toArray.size = _; rw [List.size_toArray, hlen]
        have h2 : (⟨#[UInt8.ofNat (48 + D % 10)]⟩ : ByteArray).size = 1 := rfl
        omega
      have hbc := bytes_cons (UInt8.ofNat (48 + D % 10)) (padF (4 * i + k) (n % 10 ^ (4 * i + k)))
      rw [hdig hk4] at hbc
      rw [← hfront] at hbc
      rw [← hdig hk4] at hbc
      by_cases hm : i + 1 < (td n).length
      · have t4 : decide (((i + 1 : Nat) : Int) < ((td n).length : Int)) = true := decide_eq_true (by omega)
        (repeat ((first | refine step_w1 rfl rfl ?_ | refine step_w2 rfl rfl ?_ | refine step_oM (by first | omega | decide | (simp only [tiB5, tiB23, tiB3, tiB2, tiB9, tiB36, tiB54, tiB121, tiB34, tiB28, tiB4, tiB50, tiB52, dlen, List.length_replicate, List.length_set, List.length_map, List.length_zipWith, List.length_take, List.length_append, List.length_cons, List.length_nil]; omega)) ?_ | refine step_oN (by first | omega | decide | (simp only [tiB5, tiB23, tiB3, tiB2, tiB9, tiB36, tiB54, tiB121, tiB34, tiB28, tiB4, tiB50, tiB52, dlen, List.length_replicate, List.length_set, List.length_map, List.length_zipWith, List.length_take, List.length_append, List.length_cons, List.length_nil]; omega)) ?_ | refine g_o (op_pickT rfl (ev_ok rfl) (ev_ok rfl)) ?_ | refine g_o (op_lenM rfl rfl rfl (ev_ok rfl) (tgt rfl) rfl) ?_ | refine ⟨_, [], [], op_digit rfl (ev_ok rfl) (by omega) (tabOK.get (t := 5) rfl) rfl (tabOK.get (t := 9) rfl) rfl, nil_fk, nil_new, ?_⟩ | rw [t3] | rw [e1] | rw [t4] | rw [e3] | rw [e4] | rw [e5] | rw [e6] | rw [hbc] | rw [e2]); conv => whnf))
        exact ⟨4 - (k + 1), fun k => k, [0, 3, 4, 5, 6], [], by omega, by kernel_rfl, k + 1, rfl, by omega, (fun h => by omega), by rw [← hnext]; rfl, rfl⟩
      · have t4 : decide (((i + 1 : Nat) : Int) < ((td n).length : Int)) = false := decide_eq_false (by omega)
        by_cases hd0 : 0 < D
        · have t5 : decide ((D : Int) > 0) = true := decide_eq_true (by omega)
          have hpos : 0 < n / 10 ^ (4 * i + (k + 1 - 1)) := by rw [Nat.add_sub_cancel, ← hlz (by omega)]; exact hd0
          (repeat ((first | refine step_w1 rfl rfl ?_ | refine step_oM (by first | omega | decide | (simp only [tiB5, tiB23, tiB3, tiB2, tiB9, tiB36, tiB54, tiB121, tiB34, tiB28, tiB4, tiB50, tiB52, dlen, List.length_replicate, List.length_set, List.length_map, List.length_zipWith, List.length_take, List.length_append, List.length_cons, List.length_nil]; omega)) ?_ | refine step_oN (by first | omega | decide | (simp only [tiB5, tiB23, tiB3, tiB2, tiB9, tiB36, tiB54, tiB121, tiB34, tiB28, tiB4, tiB50, tiB52, dlen, List.length_replicate, List.length_set, List.length_map, List.length_zipWith, List.length_take, List.length_append, List.length_cons, List.length_nil]; omega)) ?_ | refine g_o (op_pickT rfl (ev_ok rfl) (ev_ok rfl)) ?_ | refine g_o (op_pickF rfl (ev_ok rfl) (ev_ok rfl)) ?_ | refine g_o (op_lenM rfl rfl rfl (ev_ok rfl) (tgt rfl) rfl) ?_ | refine ⟨_, [], [], op_digit rfl (ev_ok rfl) (by omega) (tabOK.get (t := 5) rfl) rfl (tabOK.get (t := 9) rfl) rfl, nil_fk, nil_new, ?_⟩ | rw [t3] | rw [e1] | rw [t4] | rw [t5] | rw [e3] | rw [e4] | rw [e5] | rw [e6] | rw [hbc] | rw [e2]); conv => whnf))
          exact ⟨4 - (k + 1), fun k => k, [0, 3, 4, 5, 6], [], by omega, by kernel_rfl, k + 1, rfl, by omega, (fun _ => .inr hpos), by rw [← hnext]; rfl, rfl⟩
        · have t5 : decide ((D : Int) > 0) = false := decide_eq_false (by omega)
          have hz := hlz (by omega)
          have hfull : padF (4 * i + k) (n % 10 ^ (4 * i + k)) = Lib.decDigits n := by
            have hlt10 : n < 10 ^ (4 * i + k) := by
              rcases Nat.lt_or_ge n (10 ^ (4 * i + k)) with g | g
              · exact g
              · have := Nat.div_pos g (Nat.pow_pos (n := 4 * i + k) (by decide)); omega
            rcases hkl (by omega) with g | g
            · subst g
              have := (hlast (by omega)).2
              rw [Nat.add_zero] at hz; omega
            · obtain ⟨k, rfl⟩ : ∃ j, k = j + 1 := by
                rcases Nat.eq_zero_or_pos k with g2 | g2
                · subst g2; have := (hlast (by omega)).2; rw [Nat.add_zero] at hz; omega
                · exact ⟨k - 1, by omega⟩
              rw [Nat.mod_eq_of_lt hlt10]
              refine pad_full (4 * i + k) n hlt10 (.inr ?_)
              rcases Nat.lt_or_ge n (10 ^ (4 * i + k)) with g3 | g3
              · rw [Nat.add_sub_cancel, Nat.div_eq_of_lt g3] at g; omega
              · exact g3
          (repeat ((first | refine step_w1 rfl rfl ?_ | refine step_w2 rfl rfl ?_ | refine g_o (op_pickT rfl (ev_ok rfl) (ev_ok rfl)) ?_ | refine g_o (op_pickF rfl (ev_ok rfl) (ev_ok rfl)) ?_ | refine g_o (op_lenM rfl rfl rfl (ev_ok rfl) (tgt rfl) rfl) ?_ | rw [t3] | rw [e1] | rw [t4] | rw [t5]); conv => whnf))
          exact ⟨(td n).length - (i + 1), fun k => k, [0, 3, 4], [], by omega, by kernel_rfl, i + 1, _, rfl, by omega, by rw [padF_len]; omega, (fun h => by omega), (fun _ => hfull), rfl, rfl⟩
    · obtain rfl : k = 4 := by omega
      have t3 : decide (((4 : Nat) : Int) < 4) = false := rfl
      have hfull : i + 1 = (td n).length → padF (4 * i + 4) (n % 10 ^ (4 * i + 4)) = Lib.decDigits n := fun h => by
        have h1 := (hlast h).1
        rw [Nat.div_lt_iff_lt_mul (Nat.pow_pos (by decide)), ← Nat.pow_add, Nat.add_comm] at h1
        have g := (hkl h).resolve_left (by decide)
        rw [Nat.mod_eq_of_lt h1]
        refine pad_full (4 * i + 3) n h1 (.inr ?_)
        rcases Nat.lt_or_ge n (10 ^ (4 * i + 3)) with g3 | g3
        · rw [show 4 - 1 = 3 from rfl, Nat.div_eq_of_lt g3] at g; omega
        · exact g3
      (repeat ((first | refine step_w2 rfl rfl ?_ | refine g_o (op_pickF rfl (ev_ok rfl) (ev_ok rfl)) ?_ | rw [t3] | rw [e1]); conv => whnf))
      exact ⟨(td n).length - (i + 1), fun k => k, [0, 3, 4], [], by omega, by kernel_rfl, i + 1, _, rfl, by omega, by rw [padF_len]; omega, (fun h => rfl), hfull, rfl, rfl⟩
  · obtain rfl : i = (td n).length := by omega
    have t2 : decide (((td n).length : Int) < ((td n).length : Int)) = false := decide_eq_false (by omega)
    obtain rfl := hl2 rfl
    (repeat (first | (refine step_w2 rfl rfl ?_; conv => whnf) | (refine g_o (op_lenM rfl rfl rfl (ev_ok rfl) (tgt rfl) rfl) ?_; conv => whnf) | (rw [t2]; conv => whnf))); (first | exact Recast.refl _ | exact Frz.recast (Recast.refl _) rfl | (refine Frz.one rfl rfl ?_; skip) | (refine Frz.tup ?_; skip))
end Go.Proofs.YtdcaodkjofkmgaaGreatDoor

namespace Go.Proofs.YtdcaodkjofkmgaaGreatDoor
open Go.Sx
set_option linter.unusedSimpArgs false
set_option linter.unusedVariables false
set_option maxRecDepth 100000
set_option maxHeartbeats 4000000

end Go.Proofs.YtdcaodkjofkmgaaGreatDoor

namespace Go.Proofs.YtdcaodkjofkmgaaGreatDoor
open Go.Sx
set_option linter.unusedSimpArgs false
set_option linter.unusedVariables false
set_option maxRecDepth 100000
set_option maxHeartbeats 4000000

section
variable {a b z : List Rat} {n i : Nat} {c : Rat}
end

end Go.Proofs.YtdcaodkjofkmgaaGreatDoor

namespace Go.Proofs.YtdcaodkjofkmgaaGreatDoor
open Go.Sx
set_option linter.unusedSimpArgs false
set_option linter.unusedVariables false
set_option maxRecDepth 100000
set_option maxHeartbeats 4000000

theorem r2_Text (z : Int) (hz : sz z.natAbs ≤ 100000000) : CallOK Tryz.prog 72 [zZ z] [] (.val (.string (tZ z))) [] [] := by
  have k1 := r_Text z.natAbs (Nat.lt_of_le_of_lt (tl_sz hz) (by decide))
  have hs := tN_sizeG z.natAbs
  have h1 : (ByteArray.mk #[45]).size = 1 := rfl
  have h2 : (ByteArray.mk #[45]).size + (tN z.natAbs).size ≤ 9223372036854775807 := by omega
  unfold tZ
  refine callV (Z := [1]) tabOK mixedOK Tryz.func72 rfl (by kernel_rfl) rfl rfl (by kernel_rfl) rfl ?_
  intro W0 w0 ρ0 hE
  conv => whnf
  by_cases hn : z < 0
  · have t1 : decide (z < 0) = true := decide_eq_true hn
    rw [if_pos hn]
    (repeat ((first | refine step_w1 rfl rfl ?_ | refine step_oM (by first | omega | decide | (simp only [tiB5, tiB23, tiB3, tiB2, tiB9, tiB36, tiB54, tiB121, tiB34, tiB28, tiB4, tiB50, tiB52, dlen, List.length_replicate, List.length_set, List.length_map, List.length_zipWith, List.length_take, List.length_append, List.length_cons, List.length_nil]; omega)) ?_ | refine g_c (by assumption) ?_ | refine g_o (op_loadA rfl (ev_ok rfl) (tgt rfl) rfl (Nat.succ_ne_zero _) rfl) ?_ | refine g_o (op_fieldA rfl (ev_ok rfl) (tgt rfl) rfl rfl (Nat.succ_ne_zero _) rfl) ?_ | rw [t1]); conv => whnf)); (first | exact Recast.refl _ | exact Frz.recast (Recast.refl _) rfl | (refine Frz.one rfl rfl ?_; skip) | (refine Frz.tup ?_; skip))
  · have t1 : decide (z < 0) = false := decide_eq_false hn
    rw [if_neg hn]
    (repeat ((first | refine step_w2 rfl rfl ?_ | refine g_c (by assumption) ?_ | refine g_o (op_loadA rfl (ev_ok rfl) (tgt rfl) rfl (Nat.succ_ne_zero _) rfl) ?_ | refine g_o (op_fieldA rfl (ev_ok rfl) (tgt rfl) rfl rfl (Nat.succ_ne_zero _) rfl) ?_ | rw [t1]); conv => whnf)); (first | exact Recast.refl _ | exact Frz.recast (Recast.refl _) rfl | (refine Frz.one rfl rfl ?_; skip) | (refine Frz.tup ?_; skip))
theorem r3_Text (q : Rat) (h : fs q ≤ 100000000) : CallOK Tryz.prog 44 [fF q] [] (.val (.string (tQ q))) [] [] := by
  have n1 := fsz_num q
  have n2 := fsz_den q
  unfold fs at h
  have k1 := r2_Text q.num (by omega)
  have hdl : (td q.den).length ≤ 100000000 := tl_sz (by omega)
  have k2 := r3_Den q (by omega)
  have k3 := r_Text q.den (by omega)
  have hs := tZ_sizeG q.num
  have hs2 := tN_sizeG q.den
  have h1 : (ByteArray.mk #[47]).size = 1 := rfl
  have h2 : (tZ q.num).size + (ByteArray.mk #[47]).size ≤ 9223372036854775807 := by omega
  have h3 : (tZ q.num ++ (ByteArray.mk #[47])).size + (tN q.den).size ≤ 9223372036854775807 := by rw [ByteArray.size_append]; omega
  have hz := td_len_zero (n := q.den - 1)
  have hp := q.den_pos
  unfold tQ
  refine callV (Z := [1]) tabOK mixedOK Tryz.func44 rfl (by kernel_rfl) rfl rfl (by kernel_rfl) rfl ?_
  intro W0 w0 ρ0 hE
  conv => whnf
  by_cases hd : q.den = 1
  · have t1 : (((td (q.den - 1)).length : Int) == 0) = true := beq_iff_eq.2 (by omega)
    rw [if_pos hd]
    (repeat ((first | refine step_w1 rfl rfl ?_ | refine g_c (by assumption) ?_ | refine g_o (op_lenM rfl rfl rfl (ev_ok rfl) (tgt rfl) rfl) ?_ | refine g_o (op_loadA rfl (ev_ok rfl) (tgt rfl) rfl (Nat.succ_ne_zero _) rfl) ?_ | refine g_o (op_fieldA rfl (ev_ok rfl) (tgt rfl) rfl rfl (Nat.succ_ne_zero _) rfl) ?_ | rw [t1]); conv => whnf)); (first | exact Recast.refl _ | exact Frz.recast (Recast.refl _) rfl | (refine Frz.one rfl rfl ?_; skip) | (refine Frz.tup ?_; skip))
  · have t1 : (((td (q.den - 1)).length : Int) == 0) = false := beq_false_of_ne (by omega)
    rw [if_neg hd]
    (repeat ((first | refine step_w2 rfl rfl ?_ | refine step_i (by kernel_rfl) ?_ | refine step_oM (by first | omega | decide | (simp only [tiB5, tiB23, tiB3, tiB2, tiB9, tiB36, tiB54, tiB121, tiB34, tiB28, tiB4, tiB50, tiB52, dlen, List.length_replicate, List.length_set, List.length_map, List.length_zipWith, List.length_take, List.length_append, List.length_cons, List.length_nil]; omega)) ?_ | refine g_c (by assumption) ?_ | refine g_o (op_lenM rfl rfl rfl (ev_ok rfl) (tgt rfl) rfl) ?_ | refine g_o (op_loadA rfl (ev_ok rfl) (tgt rfl) rfl (Nat.succ_ne_zero _) rfl) ?_ | refine g_o (op_fieldA rfl (ev_ok rfl) (tgt rfl) rfl rfl (Nat.succ_ne_zero _) rfl) ?_ | rw [t1]); conv => whnf)); (first | exact Recast.refl _ | exact Frz.recast (Recast.refl _) rfl | (refine Frz.one rfl rfl ?_; skip) | (refine Frz.tup ?_; skip))

end Go.Proofs.YtdcaodkjofkmgaaGreatDoor

namespace Go.Proofs.YtdcaodkjofkmgaaGreatDoor
open Go.Sx
set_option linter.unusedSimpArgs false
set_option linter.unusedVariables false
set_option maxRecDepth 100000
set_option maxHeartbeats 4000000

end Go.Proofs.YtdcaodkjofkmgaaGreatDoor

namespace Go.Proofs.YtdcaodkjofkmgaaGreatDoor
open Go.Sx
set_option linter.unusedSimpArgs false
set_option linter.unusedVariables false
set_option maxRecDepth 100000
set_option maxHeartbeats 40000000

/-- The zero value of a reference fraction. -/
abbrev zFz : SV := .agg [.val (.bool false), .val (.slice none 0 0), .val (.slice none 0 0)]
theorem zFz_has {ρ : Rho} {x : List Value} (h : HasC ρ zFz x) : HasC ρ (fF 0) x := by
  simp only [HasC, HasZ] at h
  obtain ⟨z, ⟨x1, r1, rfl, h1, x2, r2, rfl, h2, x3, r3, rfl, h3, rfl⟩, rfl⟩ := h
  have g2 : HasC ρ (nN 0) x2 := nil_vec (a := none) (by simp only [HasC]; exact h2)
  have g3 : HasC ρ (nN 0) x3 := nil_vec (a := none) (by simp only [HasC]; exact h3)
  have g1 : HasC ρ (zZ 0) (x1 ++ x2) := by
    show HasC ρ (.agg [.val (.bool false), nN 0]) _
    simp only [HasC, HasZ]
    exact ⟨[x1, x2], ⟨x1, [x2], rfl, h1, x2, [], rfl, g2, rfl⟩, by simp⟩
  show HasC ρ (.agg [zZ 0, nN 0]) _
  rw [HasC]
  exact ⟨[x1 ++ x2, x3], by simp only [HasZ]; exact ⟨_, _, rfl, g1, _, _, rfl, g3, rfl⟩, by simp⟩
theorem CallOK.zf2 {P : Program} {f : FuncId} {c d : SV} {r : List SV} (h : CallOK P f (d :: fF 0 :: r) [] c [] []) : CallOK P f (d :: zFz :: r) [] c [] [] :=
  h.args (fun ρ z hz => by
    simp only [HasZ] at hz ⊢
    obtain ⟨x, t, rfl, h1, y, u, rfl, h2, h3⟩ := hz
    exact ⟨x, _, rfl, h1, y, u, rfl, zFz_has h2, h3⟩) (fun z => by rcases z with _ | ⟨_, _ | ⟨_, z⟩⟩ <;> simp [mkV, SV.isOne])

theorem r_Same (q : Rat) (h : fs q ≤ 100000000) : CallOK Tryz.prog 17 [.frac q, fF q] [] (.val (.bool true)) [] [] := by
  have k1 := t_FracG q (by omega)
  have k2 := r3_Text q h
  generalize tQ q = s at *
  have t1 : (s.toList == s.toList) = true := beq_self_eq_true _
  refine callV (Z := [2, 3]) tabOK mixedOK Tryz.func17 rfl (by kernel_rfl) rfl rfl (by kernel_rfl) rfl ?_
  intro W0 w0 ρ0 hE
  conv => whnf
  (repeat ((first | refine step_i (by kernel_rfl) ?_ | refine g_c (by assumption) ?_ | rw [beq_self_eq_true] | refine g_o (op_loadA rfl (ev_ok rfl) (tgt rfl) rfl (Nat.succ_ne_zero _) rfl) ?_); conv => whnf))
  exact Recast.refl _
theorem r_Same0 : CallOK Tryz.prog 17 [.frac 0, zFz] [] (.val (.bool true)) [] [] := CallOK.zf2 (r_Same 0 (by rw [fs_zero]; decide))

abbrev ob (q : Rat) : Blk := ⟨54, true, .one [zZ q.num, nN (q.den - 1)]⟩
end Go.Proofs.YtdcaodkjofkmgaaGreatDoor

namespace Go.Sx
/-- A slice's value that has these elements, and no room for more. -/
def vecCH (w : Nat) (xs : List SV) (imm : Nat → Option Obj) (vs : List Value) : Prop :=
  ∃ (hg : globOK imm) (b : Nat) (z : List (List Value)) (pre ex : List Value) (ty : TypeId) (fz : Nat × Nat), imm b = some (.cells (pre ++ (z.flatten ++ ex)).toArray ty fz) ∧ HasZ (bareR imm hg) xs z ∧ (∀ x ∈ xs, x.width = w) ∧
    xs.length * w ≤ (z.flatten ++ ex).length ∧ vs = [.slice (some ⟨b, pre.length, none⟩) xs.length xs.length]
def vecCP (w : Nat) (xs : List SV) : Pred where
  h := vecCH w xs
  mono i i' vs hle h := by
    obtain ⟨hg, b, z, pre, ex, ty, fz, h1, h2, h3⟩ := h
    exact ⟨hg.mono hle, b, z, pre, ex, ty, fz, hle _ _ h1, HasZ.mono (bareR_le hle hg _) _ _ h2, h3⟩
  width := 1
  len i vs h := by
    obtain ⟨hg, b, z, pre, ex, _, _, _, _, _, _, rfl⟩ := h
    simp [Value.oneCell']
  bare := true
  bareLen _ := rfl
abbrev vecC (w : Nat) (xs : List SV) : SV := .atom (vecCP w xs)
theorem has_vecC {ρ : Rho} {w : Nat} {xs : List SV} {v : Value} (h : Has ρ (vecC w xs) v) :
    ∃ (b : Nat) (z : List (List Value)) (pre ex : List Value) (ty : TypeId) (fz : Nat × Nat), ρ.imm b = some (.cells (pre ++ (z.flatten ++ ex)).toArray ty fz) ∧ HasZ (bareR ρ.imm ρ.glob) xs z ∧ (∀ x ∈ xs, x.width = w) ∧
    xs.length * w ≤ (z.flatten ++ ex).length ∧ v = .slice (some ⟨b, pre.length, none⟩) xs.length xs.length := by
  simp only [Has, HasC] at h
  obtain ⟨x, h1, rfl⟩ := h
  obtain ⟨hg, b, z, pre, ex, ty, fz, h1, h2, h3, h5, rfl⟩ := h1
  exact ⟨b, z, pre, ex, ty, fz, h1, h2, h3, h5, by simp [mkV, SV.isOne, vecCP]⟩
theorem vecC_has {ρ : Rho} {w : Nat} {xs : List SV} {v : Value} (h : ∃ (b : Nat) (z : List (List Value)) (pre ex : List Value) (ty : TypeId) (fz : Nat × Nat), ρ.imm b = some (.cells (pre ++ (z.flatten ++ ex)).toArray ty fz) ∧ HasZ (bareR ρ.imm ρ.glob) xs z ∧ (∀ x ∈ xs, x.width = w) ∧
    xs.length * w ≤ (z.flatten ++ ex).length ∧ v = .slice (some ⟨b, pre.length, none⟩) xs.length xs.length) : Has ρ (vecC w xs) v := by
  simp only [Has, HasC]
  obtain ⟨b, z, pre, ex, ty, fz, h1, h2, h3, h5, rfl⟩ := h
  exact ⟨_, ⟨ρ.glob, b, z, pre, ex, ty, fz, h1, h2, h3, h5, rfl⟩, by simp [mkV, SV.isOne, vecCP]⟩
theorem vecC_vecA {w : Nat} {xs : List SV} : Recast (vecC w xs) (vecA w xs) := fun ρ v h => by
  obtain ⟨b, z, pre, ex, ty, fz, h1, h2, h3, h5, rfl⟩ := has_vecC h
  exact vec_has (.inr ⟨b, xs.length, z, pre, ex, ty, fz, h1, h2, h3, Nat.le_refl _, h5, rfl⟩)
theorem EvOK.weak {ft : List (Nat × SV)} {x : Operand} {c d : SV} (hx : EvOK ft x c) (h : Recast c d) : EvOK ft x d := fun ρ a hp => h ρ _ (hx ρ a hp)

theorem vec_newC {ρ : Rho} {w : World} {e : TypeId} {s n : Nat} {l : List SV} {z : List (List Value)} (himm : ∀ b o, ρ.imm b = some o → w.heap[b]? = some o) (hz : HasZ ρ l z) (hkl : keylessL l = true) (hw : ∀ x ∈ l, x.width = s) (hn : l.length = n) :
    ∃ ρ', Post ρ w (vecC s l) [] [] (.slice (some ⟨w.heap.size, 0, none⟩) n n) ρ' (w.alloc (.cells z.flatten.toArray e (0, 0))) := by
  have hnone : ∀ o', ρ.imm w.heap.size ≠ some o' := fun o' ho' => by have := himm _ _ ho'; simp at this
  let ob : Obj := .cells z.flatten.toArray e (0, 0)
  have hup : ∀ b o', ρ.imm b = some o' → (fun b => if b = w.heap.size then some ob else ρ.imm b) b = some o' := fun b o' hb => by
    show (if b = w.heap.size then some ob else ρ.imm b) = some o'
    by_cases hbw : b = w.heap.size
    · subst hbw; exact absurd hb (hnone o')
    · rw [if_neg hbw]; exact hb
  let ρ' : Rho := ⟨ρ.key, fun b => if b = w.heap.size then some ob else ρ.imm b, ρ.glob.mono hup⟩
  have hle : ρ.Le ρ' := ⟨fun k x hx => hx, hup⟩
  have hzw := HasZ_widths l z hz hw
  refine ⟨ρ', ⟨hle, ?_, fun _ _ => rfl, .of_below ((RowKit.Below.refl _ _).alloc (Nat.le_refl _) _), (fun k b h => by rcases h with h | h <;> cases h), (fun _ _ _ h => by cases h), (fun k b x h => by cases h), (fun k b k' b' x x' h => by cases h), ?_⟩⟩
  · subst hn
    refine vecC_has ⟨w.heap.size, z, [], [], e, (0, 0), ?_, keylessL_has (ρ := ρ) (ρ' := bareR ρ'.imm ρ'.glob) hup l z hkl hz, hw, ?_, rfl⟩
    · show (if w.heap.size = w.heap.size then some ob else ρ.imm w.heap.size) = _
      rw [if_pos rfl]; simp [ob]
    · rw [List.append_nil, flatten_len _ hzw, HasZ_length hz]; exact Nat.le_refl _
  · intro b o' hb
    have hb : (if b = w.heap.size then some ob else ρ.imm b) = some o' := hb
    by_cases hbw : b = w.heap.size
    · subst hbw
      rw [if_pos rfl] at hb
      simp only [Option.some.injEq] at hb
      subst hb
      exact .inr ⟨Nat.le_refl _, heap_alloc_new _ _, fun k blk x h => by cases h⟩
    · rw [if_neg hbw] at hb; exact .inl hb
section
variable {P : Program} {o : Oper} {ft : List (Nat × SV)} {fk : List (Nat × Blk)} {w : Nat} {xs cs : List SV}
theorem op_buildSliceC {t e : TypeId} {len : Nat} {parts : Array (Nat × Operand)} {ti te : TI} {ps : List (Nat × List SV)} {l : List SV} (ho : o.op = .buildSlice t len parts) (ht : TOK P t ti) (hk : ti.kind = .slc e) (he : TOK P e te)
    (hps : evParts ft parts.toList = some ps) (hb : buildC 64 (fun i => some (i * te.size, te.size)) (repN len te.zero) ps = some l) (hkl : keylessL l = true) (hal : allW te.size l = true) (hln : l.length = len) (hsz : len * te.size ≤ 16777216) :
    OpOK P o ft fk (vecC te.size l) [] [] :=
  ok_value fun ρ a w hp => by
    obtain ⟨i, z, i1, i2, i3, i4, i5, i6, i7, _⟩ := he.info
    have hu := ht.kind; rw [hk] at hu
    obtain ⟨p1, p2⟩ := evParts_ok hps ρ a hp.hft
    have hz0 := repN_has (zero_has (ρ := ρ) i6) len
    have hmade : (madeCells z.cells (len * te.size)).toList = ((List.replicate len (te.zero.map zcell)).flatten).flatten := by
      rw [madeCells_flat z.cells te.size i7 len, i5]
      have : ∀ n, (List.replicate n (te.zero.flatMap zcell)).flatten = ((List.replicate n (te.zero.map zcell)).flatten).flatten := by
        intro n
        induction n with
        | zero => rfl
        | succ n ih => rw [List.replicate_succ, List.replicate_succ, List.flatten_cons, List.flatten_cons, List.flatten_append, ← ih, List.flatMap_def]
      exact this len
    obtain ⟨L', z', e1, e2, e3⟩ := fill_has (ρ := ρ) ps _ l (parts.toList.map fun p => (p.1, Act.eval a p.2)) (madeCells z.cells (len * te.size)) _ hb hz0 hmade p1 p2
    have hmap : (parts.map fun (i, x) => (i, Act.eval a x)).toList = parts.toList.map fun p => (p.1, Act.eval a p.2) := by simp
    have hLl : L' = z'.flatten.toArray := by rw [← e3]
    obtain ⟨ρ', hpost⟩ := vec_newC (e := e) hp.imm e2 hkl (allW_spec hal) hln
    refine ⟨_, _, ρ', ?_, hpost⟩
    have hsz' : ¬ len * te.size > 16777216 := by omega
    by_cases h0 : len * te.size = 0
    · have hm : (Array.range 0).map (fun x => (#[] : Array Value)[x % (#[] : Array Value).size]!) = madeCells z.cells (len * te.size) := by simp [h0, madeCells]
      simp only [execOp, ho, Instr.buildSlice, Sem.run_bind, run_underlying hu, Result.andThen_ok, he.sizeOf, h0, hmap]
      rw [h0] at hm
      simp only [Nat.reducePow, Nat.not_lt_zero, gt_iff_lt, if_false, if_true, Sem.run_bind, Sem.run_pure, Result.andThen_ok, hm]
      rw [h0] at e1
      simp only [e1, Sem.run_bind, newRow, run_newObj, Sem.run_pure, Result.andThen_ok, hLl, World.alloc_eq]
    · have hm : (Array.range (len * te.size)).map (fun x => z.cells[x % z.cells.size]!) = madeCells z.cells (len * te.size) := rfl
      have hzv : (Go.zeroValue e).run P w = .ok z w := by simp [Go.zeroValue, typeInfo, i1, i4]
      simp only [execOp, ho, Instr.buildSlice, Sem.run_bind, run_underlying hu, Result.andThen_ok, he.sizeOf, h0, hmap, Nat.reducePow, hsz', if_false, hzv, Sem.run_pure, hm, e1, newRow, run_newObj, hLl, World.alloc_eq]
theorem op_capC {x : Operand} {t : TypeId} {xs' : Array Operand} {ts : Array TypeId} {ti : TI} {e : TypeId} (ho : o.op = .call ⟨.builtin .cap, xs', ts⟩) (hxs : xs' = #[x]) (hts : ts = #[t]) (hx : EvOK ft x (vecC w xs)) (ht : TOK P t ti)
    (hk : ti.kind = .slc e) : OpOK P o ft fk (.val (.int .i64 (xs.length : Int))) [] [] :=
  ok_pure fun ρ a w hp => by
    have hv := hx ρ a hp.hft
    refine ⟨_, ?_, has_val rfl⟩
    have hu := ht.kind
    rw [hk] at hu
    obtain ⟨b, z, pre, ex, _, _, _, _, _, _, h4⟩ := has_vecC hv
    simp [execOp, ho, hxs, hts, resolve, invoke, builtin, Builtin.cap_, run_underlying hu, h4, goInt]
end
end Go.Sx
namespace Go.Proofs.YtdcaodkjofkmgaaGreatDoor
open Go.Sx
set_option linter.unusedSimpArgs false
set_option linter.unusedVariables false
set_option maxRecDepth 100000
set_option maxHeartbeats 4000000

/-- The types but that of a slice of monomials. -/
def tabP : List (TypeId × TI) := tab.filter fun x => !Nat.beq x.1 78
theorem TabOK.filter {P : Program} (f : TypeId × TI → Bool) : ∀ {T : List (TypeId × TI)}, TabOK P T → TabOK P (T.filter f)
  | [], _ => trivial
  | (t, ti) :: r, h => by
    rw [List.filter_cons]
    split
    · exact ⟨h.1, TabOK.filter f h.2⟩
    · exact TabOK.filter f h.2
theorem tabPOK : TabOK Tryz.prog tabP := TabOK.filter _ tabOK

theorem c_PowersC (o n : Int) (h : thereF o n = true) : CallOK Tryz.prog 33 [.val (.int .i64 o), .val (.int .i64 n)] [] (.tup [vecC 8 ((powersF o n).map Pw.sv), .val (.int .i64 0)]) [] [] := by
  have k1 := c_there o n
  rw [h] at k1
  have e : powersF o n = if o = 1 then [unitP 1 [n]] else if n < 3 then [unitP 2 [n, n], unitP (-1) [n]] else [unitP 4 (endsF n)] := by rw [powersF, if_pos h]
  rw [e]
  rcases there_cases h with ⟨rfl, hn⟩ | ⟨rfl, hn⟩
  · have k2 := c_power 1 (by decide) [n] (by simp) (by intro x hx; simp only [List.mem_singleton] at hx; subst hx; exact hn)
    refine callV (Z := [16]) tabPOK mixedOK Tryz.func33 rfl (by kernel_rfl) rfl rfl (by kernel_rfl) rfl ?_
    intro W0 w0 ρ0 hE
    conv => whnf
    (repeat ((first | refine step_w1 rfl rfl ?_ | refine step_w2 rfl rfl ?_ | refine g_c (by assumption) ?_ | rw [beq_self_eq_true] | refine ⟨_, [], [], [], op_buildSliceC rfl (tgt rfl) rfl (tgt rfl) rfl rfl rfl rfl rfl (by decide), nil_fk, nil_new, nil_upd, ?_⟩); conv => whnf))
    exact Recast.refl _
  · by_cases h3 : n < 3
    · have hn' : n = 0 ∨ n = 1 ∨ n = 2 := by omega
      have k2 := c_power 2 (by decide) [n, n] (by simp) (by intro x hx; simp only [List.mem_cons, List.not_mem_nil, or_false] at hx; rcases hx with rfl | rfl <;> exact hn')
      have k3 := c_power (-1) (by decide) [n] (by simp) (by intro x hx; simp only [List.mem_singleton] at hx; subst hx; exact hn')
      have t3 : decide (n < 3) = true := decide_eq_true h3
      rw [if_neg (by decide), if_pos h3]
      refine callV (Z := [24, 27]) tabPOK mixedOK Tryz.func33 rfl (by kernel_rfl) rfl rfl (by kernel_rfl) rfl ?_
      intro W0 w0 ρ0 hE
      conv => whnf
      (repeat ((first | refine step_w1 rfl rfl ?_ | refine step_w2 rfl rfl ?_ | refine g_c (by assumption) ?_ | refine ⟨_, [], [], [], op_buildSliceC rfl (tgt rfl) rfl (tgt rfl) rfl rfl rfl rfl rfl (by decide), nil_fk, nil_new, nil_upd, ?_⟩ | rw [t3]); conv => whnf))
      exact Recast.refl _
    · have hn' : n = 3 ∨ n = 4 ∨ n = 5 := by omega
      have t3 : decide (n < 3) = false := decide_eq_false h3
      rw [if_neg (by decide), if_neg h3]
      rcases hn' with rfl | rfl | rfl
      · skip
        have t4 : IntKind.i64.wrap ((3 : Int) - 3) = 0 := by decide
        have k2 := c_power 4 (by decide) [1, 2] (by decide) (by decide)
        refine callV (Z := [38]) tabPOK mixedOK Tryz.func33 rfl (by kernel_rfl) rfl rfl (by kernel_rfl) rfl ?_
        intro W0 w0 ρ0 hE
        conv => whnf
        (repeat ((first | refine step_w2 rfl rfl ?_ | refine And.intro (by first | decide | omega | (simp only [tiB5, tiB23, tiB3, tiB2, tiB9, tiB36, tiB54, tiB121, tiB34, tiB28, tiB4, tiB50, tiB52, tiB49, tiB30, dlen, List.length_replicate, List.length_set, List.length_map, List.length_zipWith, List.length_take, List.length_append, List.length_cons, List.length_nil]; omega)) ?_ | refine g_c (by assumption) ?_ | refine ⟨_, [], [], [], op_buildSliceC rfl (tgt rfl) rfl (tgt rfl) rfl rfl rfl rfl rfl (by decide), nil_fk, nil_new, nil_upd, ?_⟩ | refine ⟨_, [], [], op_globIndex rfl (ev_ok rfl) (ev_ok rfl) (tgt rfl) rfl (tgt rfl) (by decide) (by decide), nil_fk, nil_new, ?_⟩ | refine ⟨_, [], [], op_globLoadA rfl (ev_ok rfl) (tgt rfl) rfl (vs := [1, 2]) rfl tabSides (by decide) (by decide), nil_fk, nil_new, ?_⟩); conv => whnf))
        exact Recast.refl _
      · skip
        have t4 : IntKind.i64.wrap ((4 : Int) - 3) = 1 := by decide
        have k2 := c_power 4 (by decide) [2, 0] (by decide) (by decide)
        refine callV (Z := [38]) tabPOK mixedOK Tryz.func33 rfl (by kernel_rfl) rfl rfl (by kernel_rfl) rfl ?_
        intro W0 w0 ρ0 hE
        conv => whnf
        (repeat ((first | refine step_w2 rfl rfl ?_ | refine And.intro (by first | decide | omega | (simp only [tiB5, tiB23, tiB3, tiB2, tiB9, tiB36, tiB54, tiB121, tiB34, tiB28, tiB4, tiB50, tiB52, tiB49, tiB30, dlen, List.length_replicate, List.length_set, List.length_map, List.length_zipWith, List.length_take, List.length_append, List.length_cons, List.length_nil]; omega)) ?_ | refine g_c (by assumption) ?_ | refine ⟨_, [], [], [], op_buildSliceC rfl (tgt rfl) rfl (tgt rfl) rfl rfl rfl rfl rfl (by decide), nil_fk, nil_new, nil_upd, ?_⟩ | refine ⟨_, [], [], op_globIndex rfl (ev_ok rfl) (ev_ok rfl) (tgt rfl) rfl (tgt rfl) (by decide) (by decide), nil_fk, nil_new, ?_⟩ | refine ⟨_, [], [], op_globLoadA rfl (ev_ok rfl) (tgt rfl) rfl (vs := [2, 0]) rfl tabSides (by decide) (by decide), nil_fk, nil_new, ?_⟩); conv => whnf))
        exact Recast.refl _
      · skip
        have t4 : IntKind.i64.wrap ((5 : Int) - 3) = 2 := by decide
        have k2 := c_power 4 (by decide) [0, 1] (by decide) (by decide)
        refine callV (Z := [38]) tabPOK mixedOK Tryz.func33 rfl (by kernel_rfl) rfl rfl (by kernel_rfl) rfl ?_
        intro W0 w0 ρ0 hE
        conv => whnf
        (repeat ((first | refine step_w2 rfl rfl ?_ | refine And.intro (by first | decide | omega | (simp only [tiB5, tiB23, tiB3, tiB2, tiB9, tiB36, tiB54, tiB121, tiB34, tiB28, tiB4, tiB50, tiB52, tiB49, tiB30, dlen, List.length_replicate, List.length_set, List.length_map, List.length_zipWith, List.length_take, List.length_append, List.length_cons, List.length_nil]; omega)) ?_ | refine g_c (by assumption) ?_ | refine ⟨_, [], [], [], op_buildSliceC rfl (tgt rfl) rfl (tgt rfl) rfl rfl rfl rfl rfl (by decide), nil_fk, nil_new, nil_upd, ?_⟩ | refine ⟨_, [], [], op_globIndex rfl (ev_ok rfl) (ev_ok rfl) (tgt rfl) rfl (tgt rfl) (by decide) (by decide), nil_fk, nil_new, ?_⟩ | refine ⟨_, [], [], op_globLoadA rfl (ev_ok rfl) (tgt rfl) rfl (vs := [0, 1]) rfl tabSides (by decide) (by decide), nil_fk, nil_new, ?_⟩); conv => whnf))
        exact Recast.refl _

/-- The reference's nodes: three fractions, laid flat. -/
abbrev zC : List SV := [.val (.bool false), .val (.slice none 0 0), .val (.slice none 0 0)]
abbrev oC (q : Rat) : List SV := [zZ q.num, nN (q.den - 1)]
def nodeS (n : Int) : SV := .agg ((if nodeC n 0 = 0 then zC else oC (nodeC n 0)) ++ (if nodeC n 1 = 0 then zC else oC (nodeC n 1)) ++ (if nodeC n 2 = 0 then zC else oC (nodeC n 2)))
theorem r_Node (o n : Int) (h : thereF o n = true) : CallOK Tryz.prog 34 [.val (.int .i64 o), .val (.int .i64 n)] [] (nodeS n) [] [] := by
  have k1 := r3_Int 1 (by decide) (by decide)
  have k2 := r3_Of 1 2 (by decide) (by decide) (by decide) (by decide) (by decide)
  have hn : n = 0 ∨ n = 1 ∨ n = 2 ∨ n = 3 ∨ n = 4 ∨ n = 5 := by have := there_cases h; omega
  clear h
  have k3 := r_Ends n
  rcases hn with rfl | rfl | rfl | rfl | rfl | rfl
  · have e : nodeS 0 = .agg (oC ((1 : Int) : Rat) ++ zC ++ zC) := by rw [nodeS, show nodeC 0 0 = ((1 : Int) : Rat) by decide +kernel, show nodeC 0 1 = 0 by decide +kernel, show nodeC 0 2 = 0 by decide +kernel]; rw [if_neg (by decide +kernel), if_pos rfl]
    rw [e]
    refine callV (Z := []) tabOK mixedOK Tryz.func34 rfl (by kernel_rfl) rfl rfl (by kernel_rfl) rfl ?_
    intro W0 w0 ρ0 hE
    conv => whnf
    (repeat (first | (refine step_w1 rfl rfl ?_; conv => whnf) | (refine And.intro (by first | decide | omega | (simp only [tiB5, tiB23, tiB3, tiB2, tiB9, tiB36, tiB54, tiB121, tiB34, tiB28, tiB4, tiB50, tiB52, tiB49, tiB30, dlen, List.length_replicate, List.length_set, List.length_map, List.length_zipWith, List.length_take, List.length_append, List.length_cons, List.length_nil]; omega)) ?_; conv => whnf) | (refine g_c (by assumption) ?_; conv => whnf)))
    exact Recast.refl _
  · have e : nodeS 1 = .agg (zC ++ oC ((1 : Int) : Rat) ++ zC) := by rw [nodeS, show nodeC 1 0 = 0 by decide +kernel, show nodeC 1 1 = ((1 : Int) : Rat) by decide +kernel, show nodeC 1 2 = 0 by decide +kernel]; rw [if_pos rfl, if_neg (by decide +kernel)]
    rw [e]
    refine callV (Z := []) tabOK mixedOK Tryz.func34 rfl (by kernel_rfl) rfl rfl (by kernel_rfl) rfl ?_
    intro W0 w0 ρ0 hE
    conv => whnf
    (repeat (first | (refine step_w1 rfl rfl ?_; conv => whnf) | (refine And.intro (by first | decide | omega | (simp only [tiB5, tiB23, tiB3, tiB2, tiB9, tiB36, tiB54, tiB121, tiB34, tiB28, tiB4, tiB50, tiB52, tiB49, tiB30, dlen, List.length_replicate, List.length_set, List.length_map, List.length_zipWith, List.length_take, List.length_append, List.length_cons, List.length_nil]; omega)) ?_; conv => whnf) | (refine g_c (by assumption) ?_; conv => whnf)))
    exact Recast.refl _
  · have e : nodeS 2 = .agg (zC ++ zC ++ oC ((1 : Int) : Rat)) := by rw [nodeS, show nodeC 2 0 = 0 by decide +kernel, show nodeC 2 1 = 0 by decide +kernel, show nodeC 2 2 = ((1 : Int) : Rat) by decide +kernel]; rw [if_pos rfl, if_neg (by decide +kernel)]
    rw [e]
    refine callV (Z := []) tabOK mixedOK Tryz.func34 rfl (by kernel_rfl) rfl rfl (by kernel_rfl) rfl ?_
    intro W0 w0 ρ0 hE
    conv => whnf
    (repeat (first | (refine step_w1 rfl rfl ?_; conv => whnf) | (refine And.intro (by first | decide | omega | (simp only [tiB5, tiB23, tiB3, tiB2, tiB9, tiB36, tiB54, tiB121, tiB34, tiB28, tiB4, tiB50, tiB52, tiB49, tiB30, dlen, List.length_replicate, List.length_set, List.length_map, List.length_zipWith, List.length_take, List.length_append, List.length_cons, List.length_nil]; omega)) ?_; conv => whnf) | (refine g_c (by assumption) ?_; conv => whnf)))
    exact Recast.refl _
  all_goals replace k3 := k3 (by simp)
  · have e : nodeS 3 = .agg (zC ++ oC r12 ++ oC r12) := by rw [nodeS, show nodeC 3 0 = 0 by decide +kernel, show nodeC 3 1 = r12 by decide +kernel, show nodeC 3 2 = r12 by decide +kernel]; rw [if_pos rfl, if_neg (by decide +kernel)]
    rw [e]
    refine callV (Z := []) tabOK mixedOK Tryz.func34 rfl (by kernel_rfl) rfl rfl (by kernel_rfl) rfl ?_
    intro W0 w0 ρ0 hE
    conv => whnf
    (repeat (first | (refine step_w2 rfl rfl ?_; conv => whnf) | (refine And.intro (by first | decide | omega | (simp only [tiB5, tiB23, tiB3, tiB2, tiB9, tiB36, tiB54, tiB121, tiB34, tiB28, tiB4, tiB50, tiB52, tiB49, tiB30, dlen, List.length_replicate, List.length_set, List.length_map, List.length_zipWith, List.length_take, List.length_append, List.length_cons, List.length_nil]; omega)) ?_; conv => whnf) | (refine g_c (by assumption) ?_; conv => whnf)))
    exact Recast.refl _
  · have e : nodeS 4 = .agg (oC r12 ++ zC ++ oC r12) := by rw [nodeS, show nodeC 4 0 = r12 by decide +kernel, show nodeC 4 1 = 0 by decide +kernel, show nodeC 4 2 = r12 by decide +kernel]; rw [if_neg (by decide +kernel), if_pos rfl]
    rw [e]
    refine callV (Z := []) tabOK mixedOK Tryz.func34 rfl (by kernel_rfl) rfl rfl (by kernel_rfl) rfl ?_
    intro W0 w0 ρ0 hE
    conv => whnf
    (repeat (first | (refine step_w2 rfl rfl ?_; conv => whnf) | (refine And.intro (by first | decide | omega | (simp only [tiB5, tiB23, tiB3, tiB2, tiB9, tiB36, tiB54, tiB121, tiB34, tiB28, tiB4, tiB50, tiB52, tiB49, tiB30, dlen, List.length_replicate, List.length_set, List.length_map, List.length_zipWith, List.length_take, List.length_append, List.length_cons, List.length_nil]; omega)) ?_; conv => whnf) | (refine g_c (by assumption) ?_; conv => whnf)))
    exact Recast.refl _
  · have e : nodeS 5 = .agg (oC r12 ++ oC r12 ++ zC) := by rw [nodeS, show nodeC 5 0 = r12 by decide +kernel, show nodeC 5 1 = r12 by decide +kernel, show nodeC 5 2 = 0 by decide +kernel]; rw [if_neg (by decide +kernel), if_pos rfl]
    rw [e]
    refine callV (Z := []) tabOK mixedOK Tryz.func34 rfl (by kernel_rfl) rfl rfl (by kernel_rfl) rfl ?_
    intro W0 w0 ρ0 hE
    conv => whnf
    (repeat (first | (refine step_w2 rfl rfl ?_; conv => whnf) | (refine And.intro (by first | decide | omega | (simp only [tiB5, tiB23, tiB3, tiB2, tiB9, tiB36, tiB54, tiB121, tiB34, tiB28, tiB4, tiB50, tiB52, tiB49, tiB30, dlen, List.length_replicate, List.length_set, List.length_map, List.length_zipWith, List.length_take, List.length_append, List.length_cons, List.length_nil]; omega)) ?_; conv => whnf) | (refine g_c (by assumption) ?_; conv => whnf)))
    exact Recast.refl _
end Go.Proofs.YtdcaodkjofkmgaaGreatDoor

namespace Go.Proofs.YtdcaodkjofkmgaaGreatDoor
open Go.Sx
set_option linter.unusedSimpArgs false
set_option linter.unusedVariables false
set_option maxRecDepth 100000
set_option maxHeartbeats 40000000

end Go.Proofs.YtdcaodkjofkmgaaGreatDoor

namespace Go.Proofs.YtdcaodkjofkmgaaGreatDoor
open Go.Sx
set_option linter.unusedSimpArgs false
set_option linter.unusedVariables false
set_option maxRecDepth 100000
set_option maxHeartbeats 40000000

end Go.Proofs.YtdcaodkjofkmgaaGreatDoor

namespace Go.Proofs.YtdcaodkjofkmgaaGreatDoor
open Go.Sx
set_option linter.unusedSimpArgs false
set_option linter.unusedVariables false
set_option maxRecDepth 100000
set_option maxHeartbeats 40000000

theorem g_3I : Tryz.prog.eqGuardType Tryz.prog.depth 70 = false := by kernel_rfl
theorem eq_3I (a0 a1 a2 b0 b1 b2 : Int) (w : World) : (Op.equalIn 10000 70 (.agg [.int .i64 a0, .int .i64 a1, .int .i64 a2].toArray) (.agg [.int .i64 b0, .int .i64 b1, .int .i64 b2].toArray)).run Tryz.prog w = .ok (decide (a0 = b0 ∧ a1 = b1 ∧ a2 = b2)) w := by
  have h := eqArr_run tabOK goodOK (t := 70) (e := 3) (n := 3) rfl rfl rfl [.int .i64 a0, .int .i64 a1, .int .i64 a2] [.int .i64 b0, .int .i64 b1, .int .i64 b2]
    (fun i => match i with | 0 => (a0 == b0) | 1 => (a1 == b1) | _ => (a2 == b2)) (fun i hi => by
      obtain rfl | rfl | rfl : i = 0 ∨ i = 1 ∨ i = 2 := by omega
      · rfl
      · rfl
      · rfl) 10000 w (by decide)
  rw [h]
  congr 1
  show ((a0 == b0) && ((a1 == b1) && ((a2 == b2) && true))) = _
  rw [Bool.eq_iff_iff]; simp
theorem eq_3I' (a0 a1 a2 : Int) (w : World) : (Op.equalIn 10000 70 (.agg [.int .i64 a0, .int .i64 a1, .int .i64 a2].toArray) (.agg [.int .i64 a0, .int .i64 a1, .int .i64 a2].toArray)).run Tryz.prog w = .ok true w := by
  rw [eq_3I, decide_eq_true ⟨rfl, rfl, rfl⟩]
theorem eq_3F0 (w : World) : (Op.equalIn 10000 40 (.agg (fracCells 0 ++ (fracCells 0 ++ (fracCells 0 ++ []))).toArray) (.agg (fracCells 0 ++ (fracCells 0 ++ (fracCells 0 ++ []))).toArray)).run Tryz.prog w = .ok true w := by
  rw [eq_3F, decide_eq_true ⟨rfl, rfl, rfl⟩]
theorem c_MadeNo (o n : Int) (h : thereF o n = false) : CallOK Tryz.prog 8 [.val (.int .i64 o), .val (.int .i64 n)] [] (.val (.bool true)) [] [] := by
  have km := r_Many o
  have km2 := c_Many o
  have kn := c_NodeNo o n h
  have kp := c_PowersNo o n h
  have kl := l_lives
  have hm : n < 0 ∨ (0 ≤ n ∧ n ≥ (manyF o : Nat)) := by
    unfold thereF at h
    simp only [Bool.and_eq_false_iff, decide_eq_false_iff_not] at h
    omega
  generalize manyF o = M at *
  clear h
  refine callV (Z := []) tabOK mixedOK Tryz.func8 rfl (by kernel_rfl) rfl rfl (by kernel_rfl) rfl ?_
  intro W0 w0 ρ0 hE
  conv => whnf
  rcases hm with hm | ⟨hm, hm'⟩
  · have t3 : decide (n < 0) = true := decide_eq_true hm
    (repeat ((first | refine step_w1 rfl rfl ?_ | refine step_w2 rfl rfl ?_ | refine g_c (by assumption) ?_ | refine g_o (op_pickT rfl (ev_ok rfl) (ev_ok rfl)) ?_ | rw [beq_self_eq_true] | rw [bne_self_eq_false] | refine g_o (op_lenM rfl rfl rfl (ev_ok rfl) (tgt rfl) rfl) ?_ | refine ⟨_, op_eqlE rfl (ev_ok rfl) (ev_ok rfl) rfl rfl eq_3F0 g_3F, ?_⟩ | rw [t3]); conv => whnf)); (first | exact Recast.refl _ | exact Frz.recast (Recast.refl _) rfl | (refine Frz.one rfl rfl ?_; skip) | (refine Frz.tup ?_; skip))
  · have t3 : decide (n < 0) = false := decide_eq_false (by omega)
    have t4 : decide (n ≥ (M : Int)) = true := decide_eq_true hm'
    (repeat ((first | refine step_w1 rfl rfl ?_ | refine step_w2 rfl rfl ?_ | refine g_c (by assumption) ?_ | refine g_o (op_pickT rfl (ev_ok rfl) (ev_ok rfl)) ?_ | refine g_o (op_pickF rfl (ev_ok rfl) (ev_ok rfl)) ?_ | rw [beq_self_eq_true] | rw [bne_self_eq_false] | refine g_o (op_lenM rfl rfl rfl (ev_ok rfl) (tgt rfl) rfl) ?_ | refine ⟨_, op_eqlE rfl (ev_ok rfl) (ev_ok rfl) rfl rfl eq_3F0 g_3F, ?_⟩ | rw [t3] | rw [t4]); conv => whnf)); (first | exact Recast.refl _ | exact Frz.recast (Recast.refl _) rfl | (refine Frz.one rfl rfl ?_; skip) | (refine Frz.tup ?_; skip))

theorem c_MadeYes (o n : Int) (h : thereF o n = true) : CallOK Tryz.prog 8 [.val (.int .i64 o), .val (.int .i64 n)] [] (.val (.bool true)) [] [] := by
  have km := r_Many o
  have km2 := c_Many o
  have kn := c_NodeYes o n h
  have kp := c_PowersC o n h
  have kr := r_Node o n h
  have kq := r_Powers o n h
  have kl := l_lives
  have hL := powersF_ok o n
  have hl : (powersF o n).length ≤ 10 := Nat.le_trans (powersF_small o n).1 (by decide)
  have hm : 0 ≤ n ∧ n < (manyF o : Nat) := by
    have h' := h
    unfold thereF at h'
    simpa only [Bool.and_eq_true, decide_eq_true_eq] using h'
  have hn : n = 0 ∨ n = 1 ∨ n = 2 ∨ n = 3 ∨ n = 4 ∨ n = 5 := by have := there_cases h; omega
  have t3 : decide (n < 0) = false := decide_eq_false (by omega)
  have t4 : decide (n ≥ (manyF o : Int)) = false := decide_eq_false (by omega)
  generalize powersF o n = P at *
  generalize manyF o = M at *
  have e1 : (((P.map Pw.sv).length : Int) != ((P.length : Nat) : Int)) = false := by rw [List.length_map]; exact bne_self_eq_false _
  have e2 : (((P.map Pw.sv).length : Int) != ((P.map Pw.sv).length : Int)) = false := bne_self_eq_false _
  clear h hm
  rcases hn with rfl | rfl | rfl | rfl | rfl | rfl
  · have hS : nodeS 0 = .agg (oC ((1 : Int) : Rat) ++ zC ++ zC) := by rw [nodeS, show nodeC 0 0 = ((1 : Int) : Rat) by decide +kernel, show nodeC 0 1 = 0 by decide +kernel, show nodeC 0 2 = 0 by decide +kernel]; rw [if_neg (by decide +kernel), if_pos rfl]
    rw [hS] at kr
    rw [show nodeC 0 0 = ((1 : Int) : Rat) by decide +kernel, show nodeC 0 1 = 0 by decide +kernel, show nodeC 0 2 = 0 by decide +kernel] at kn
    have z0 := r_Same0
    have z1 := r_Same (((1 : Int) : Rat)) (by decide +kernel)
    refine callV (Z := []) tabOK mixedOK Tryz.func8 rfl (by kernel_rfl) rfl rfl (by kernel_rfl) rfl ?_
    intro W0 w0 ρ0 hE
    conv => whnf
    (repeat ((first | refine step_w1 rfl rfl ?_ | refine step_w2 rfl rfl ?_ | refine g_c (by assumption) ?_ | refine g_o (op_pickF rfl (ev_ok rfl) (ev_ok rfl)) ?_ | rw [bne_self_eq_false] | refine g_o (op_lenM rfl rfl rfl (ev_ok rfl) (tgt rfl) rfl) ?_ | refine g_o (op_capC rfl rfl rfl (ev_ok rfl) (tgt rfl) rfl) ?_ | refine g_o (op_lenA rfl rfl rfl ((ev_ok rfl).weak vecC_vecA) (tgt rfl) rfl) ?_ | rw [t3] | rw [t4] | rw [e1]); conv => whnf))
    refine SW_loopN hE (fun k => k) [6, 8, 10, 11, 12] [6, 10] (fun m fr hp => ∃ (r : Nat), m = 3 - r ∧ r ≤ 3 ∧ fr = [(6, .ptr 6 0 0 0), (8, vecC 8 (P.map Pw.sv)), (10, .ptr 10 0 0 0), (11, mvec 6 rPw P), (12, .val (.int .i64 (r : Nat)))] ∧ hp = [(6, a3 ((1 : Int) : Rat) 0 0), (10, ⟨56, true, .one (oC ((1 : Int) : Rat) ++ zC ++ zC)⟩)]) 3 ?_ ?_ ?_
    · kernel_rfl
    · exact ⟨0, rfl, by decide, rfl, rfl⟩
    rintro m _ _ ⟨r, rfl, hr, rfl, rfl⟩
    clear kn kr kp kq km km2
    obtain rfl | rfl | rfl | rfl : r = 0 ∨ r = 1 ∨ r = 2 ∨ r = 3 := by omega
    · skip
      have t6 : decide ((((0 : Nat) : Int)) < 3) = true := by decide
      have t7 := winc (i := 0) (by decide)
      conv => whnf
      (repeat ((first | refine step_w1 rfl rfl ?_ | refine step_w2 rfl rfl ?_ | refine step_i (by kernel_rfl) ?_ | refine And.intro (by first | decide | omega | (simp only [tiB5, tiB23, tiB3, tiB2, tiB9, tiB36, tiB54, tiB121, tiB34, tiB28, tiB4, tiB50, tiB52, tiB49, tiB30, dlen, List.length_replicate, List.length_set, List.length_map, List.length_zipWith, List.length_take, List.length_append, List.length_cons, List.length_nil]; omega)) ?_ | refine g_c (by assumption) ?_ | rw [t6] | rw [Int.toNat_natCast] | rw [Nat.zero_add]); conv => whnf))
      rw [t7]
      exact ⟨2, fun k => k, [6, 8, 10, 11, 12], [6, 10], by decide, by kernel_rfl, 1, rfl, by decide, rfl, rfl⟩
    · skip
      have t6 : decide ((((1 : Nat) : Int)) < 3) = true := by decide
      have t7 := winc (i := 1) (by decide)
      conv => whnf
      (repeat ((first | refine step_w1 rfl rfl ?_ | refine step_w2 rfl rfl ?_ | refine step_i (by kernel_rfl) ?_ | refine And.intro (by first | decide | omega | (simp only [tiB5, tiB23, tiB3, tiB2, tiB9, tiB36, tiB54, tiB121, tiB34, tiB28, tiB4, tiB50, tiB52, tiB49, tiB30, dlen, List.length_replicate, List.length_set, List.length_map, List.length_zipWith, List.length_take, List.length_append, List.length_cons, List.length_nil]; omega)) ?_ | refine g_c (by assumption) ?_ | rw [t6] | rw [Int.toNat_natCast] | rw [Nat.zero_add]); conv => whnf))
      rw [t7]
      exact ⟨1, fun k => k, [6, 8, 10, 11, 12], [6, 10], by decide, by kernel_rfl, 2, rfl, by decide, rfl, rfl⟩
    · skip
      have t6 : decide ((((2 : Nat) : Int)) < 3) = true := by decide
      have t7 := winc (i := 2) (by decide)
      conv => whnf
      (repeat ((first | refine step_w1 rfl rfl ?_ | refine step_w2 rfl rfl ?_ | refine step_i (by kernel_rfl) ?_ | refine And.intro (by first | decide | omega | (simp only [tiB5, tiB23, tiB3, tiB2, tiB9, tiB36, tiB54, tiB121, tiB34, tiB28, tiB4, tiB50, tiB52, tiB49, tiB30, dlen, List.length_replicate, List.length_set, List.length_map, List.length_zipWith, List.length_take, List.length_append, List.length_cons, List.length_nil]; omega)) ?_ | refine g_c (by assumption) ?_ | rw [t6] | rw [Int.toNat_natCast] | rw [Nat.zero_add]); conv => whnf))
      rw [t7]
      exact ⟨0, fun k => k, [6, 8, 10, 11, 12], [6, 10], by decide, by kernel_rfl, 3, rfl, by decide, rfl, rfl⟩
    have t6 : decide (((3 : Nat) : Int) < 3) = false := by decide
    conv => whnf
    (repeat (first | (refine step_w2 rfl rfl ?_; conv => whnf) | (rw [t6]; conv => whnf)))
    refine SW_loopN hE (fun k => k) [8, 11, 13] [] (fun m fr hp => ∃ (i : Nat), m = P.length - i ∧ i ≤ P.length ∧ fr = [(8, vecC 8 (P.map Pw.sv)), (11, mvec 6 rPw P), (13, .val (.int .i64 (i : Nat)))] ∧ hp = []) P.length ?_ ?_ ?_
    · kernel_rfl
    · exact ⟨0, rfl, Nat.zero_le _, rfl, rfl⟩
    rintro m _ _ ⟨i, rfl, hi, rfl, rfl⟩
    have lP : (P.map Pw.sv).length = P.length := List.length_map ..
    conv => whnf
    by_cases hlt : i < P.length
    · have t7 : decide ((i : Int) < ((P.map Pw.sv).length : Int)) = true := by rw [lP]; exact decide_eq_true (by omega)
      have t8 := winc (i := i) (by omega)
      have hp := hL _ (getD_mem (d := pw0) hlt)
      have z2 := r_Same (P.getD i pw0).c (Nat.le_trans hp.2.2.2 (by decide))
      (repeat ((first | refine step_w1 rfl rfl ?_ | refine step_w2 rfl rfl ?_ | refine step_i (by kernel_rfl) ?_ | refine g_c (by assumption) ?_ | refine g_o (op_pickF rfl (ev_ok rfl) (ev_ok rfl)) ?_ | refine g_o (op_loadA rfl (ev_ok rfl) (tgt rfl) rfl (Nat.succ_ne_zero _) rfl) ?_ | refine g_o (op_fieldA rfl (ev_ok rfl) (tgt rfl) rfl rfl (Nat.succ_ne_zero _) rfl) ?_ | refine g_o (op_lenA rfl rfl rfl ((ev_ok rfl).weak vecC_vecA) (tgt rfl) rfl) ?_ | refine g_o (op_indexN (α := Pw) (d := pw0) rfl ((ev_ok rfl).weak vecC_vecA) (ev_ok rfl) (tgt rfl) rfl (tgt rfl) rfl (by omega)) ?_ | refine g_o (op_indexN (α := Pw) (d := pw0) rfl (ev_ok rfl) (ev_ok rfl) (tgt rfl) rfl (tgt rfl) rfl (by omega)) ?_ | refine ⟨_, op_neqE rfl (ev_ok rfl) (ev_ok rfl) rfl rfl (eq_3I' _ _ _) g_3I, ?_⟩ | rw [t7] | rw [t8]); conv => whnf))
      exact ⟨P.length - (i + 1), fun k => k, [8, 11, 13], [], by omega, by kernel_rfl, i + 1, rfl, hlt, rfl, rfl⟩
    · have t7 : decide ((i : Int) < ((P.map Pw.sv).length : Int)) = false := by rw [lP]; exact decide_eq_false (by omega)
      (repeat ((first | refine step_w2 rfl rfl ?_ | refine g_c (by assumption) ?_ | refine g_o (op_lenA rfl rfl rfl ((ev_ok rfl).weak vecC_vecA) (tgt rfl) rfl) ?_ | rw [t7]); conv => whnf)); (first | exact Recast.refl _ | exact Frz.recast (Recast.refl _) rfl | (refine Frz.one rfl rfl ?_; skip) | (refine Frz.tup ?_; skip))
  · have hS : nodeS 1 = .agg (zC ++ oC ((1 : Int) : Rat) ++ zC) := by rw [nodeS, show nodeC 1 0 = 0 by decide +kernel, show nodeC 1 1 = ((1 : Int) : Rat) by decide +kernel, show nodeC 1 2 = 0 by decide +kernel]; rw [if_pos rfl, if_neg (by decide +kernel)]
    rw [hS] at kr
    rw [show nodeC 1 0 = 0 by decide +kernel, show nodeC 1 1 = ((1 : Int) : Rat) by decide +kernel, show nodeC 1 2 = 0 by decide +kernel] at kn
    have z0 := r_Same0
    have z1 := r_Same (((1 : Int) : Rat)) (by decide +kernel)
    refine callV (Z := []) tabOK mixedOK Tryz.func8 rfl (by kernel_rfl) rfl rfl (by kernel_rfl) rfl ?_
    intro W0 w0 ρ0 hE
    conv => whnf
    (repeat ((first | refine step_w1 rfl rfl ?_ | refine step_w2 rfl rfl ?_ | refine g_c (by assumption) ?_ | refine g_o (op_pickF rfl (ev_ok rfl) (ev_ok rfl)) ?_ | rw [bne_self_eq_false] | refine g_o (op_lenM rfl rfl rfl (ev_ok rfl) (tgt rfl) rfl) ?_ | refine g_o (op_capC rfl rfl rfl (ev_ok rfl) (tgt rfl) rfl) ?_ | refine g_o (op_lenA rfl rfl rfl ((ev_ok rfl).weak vecC_vecA) (tgt rfl) rfl) ?_ | rw [t3] | rw [t4] | rw [e1]); conv => whnf))
    refine SW_loopN hE (fun k => k) [6, 8, 10, 11, 12] [6, 10] (fun m fr hp => ∃ (r : Nat), m = 3 - r ∧ r ≤ 3 ∧ fr = [(6, .ptr 6 0 0 0), (8, vecC 8 (P.map Pw.sv)), (10, .ptr 10 0 0 0), (11, mvec 6 rPw P), (12, .val (.int .i64 (r : Nat)))] ∧ hp = [(6, a3 0 ((1 : Int) : Rat) 0), (10, ⟨56, true, .one (zC ++ oC ((1 : Int) : Rat) ++ zC)⟩)]) 3 ?_ ?_ ?_
    · kernel_rfl
    · exact ⟨0, rfl, by decide, rfl, rfl⟩
    rintro m _ _ ⟨r, rfl, hr, rfl, rfl⟩
    clear kn kr kp kq km km2
    obtain rfl | rfl | rfl | rfl : r = 0 ∨ r = 1 ∨ r = 2 ∨ r = 3 := by omega
    · skip
      have t6 : decide ((((0 : Nat) : Int)) < 3) = true := by decide
      have t7 := winc (i := 0) (by decide)
      conv => whnf
      (repeat ((first | refine step_w1 rfl rfl ?_ | refine step_w2 rfl rfl ?_ | refine step_i (by kernel_rfl) ?_ | refine And.intro (by first | decide | omega | (simp only [tiB5, tiB23, tiB3, tiB2, tiB9, tiB36, tiB54, tiB121, tiB34, tiB28, tiB4, tiB50, tiB52, tiB49, tiB30, dlen, List.length_replicate, List.length_set, List.length_map, List.length_zipWith, List.length_take, List.length_append, List.length_cons, List.length_nil]; omega)) ?_ | refine g_c (by assumption) ?_ | rw [t6] | rw [Int.toNat_natCast] | rw [Nat.zero_add]); conv => whnf))
      rw [t7]
      exact ⟨2, fun k => k, [6, 8, 10, 11, 12], [6, 10], by decide, by kernel_rfl, 1, rfl, by decide, rfl, rfl⟩
    · skip
      have t6 : decide ((((1 : Nat) : Int)) < 3) = true := by decide
      have t7 := winc (i := 1) (by decide)
      conv => whnf
      (repeat ((first | refine step_w1 rfl rfl ?_ | refine step_w2 rfl rfl ?_ | refine step_i (by kernel_rfl) ?_ | refine And.intro (by first | decide | omega | (simp only [tiB5, tiB23, tiB3, tiB2, tiB9, tiB36, tiB54, tiB121, tiB34, tiB28, tiB4, tiB50, tiB52, tiB49, tiB30, dlen, List.length_replicate, List.length_set, List.length_map, List.length_zipWith, List.length_take, List.length_append, List.length_cons, List.length_nil]; omega)) ?_ | refine g_c (by assumption) ?_ | rw [t6] | rw [Int.toNat_natCast] | rw [Nat.zero_add]); conv => whnf))
      rw [t7]
      exact ⟨1, fun k => k, [6, 8, 10, 11, 12], [6, 10], by decide, by kernel_rfl, 2, rfl, by decide, rfl, rfl⟩
    · skip
      have t6 : decide ((((2 : Nat) : Int)) < 3) = true := by decide
      have t7 := winc (i := 2) (by decide)
      conv => whnf
      (repeat ((first | refine step_w1 rfl rfl ?_ | refine step_w2 rfl rfl ?_ | refine step_i (by kernel_rfl) ?_ | refine And.intro (by first | decide | omega | (simp only [tiB5, tiB23, tiB3, tiB2, tiB9, tiB36, tiB54, tiB121, tiB34, tiB28, tiB4, tiB50, tiB52, tiB49, tiB30, dlen, List.length_replicate, List.length_set, List.length_map, List.length_zipWith, List.length_take, List.length_append, List.length_cons, List.length_nil]; omega)) ?_ | refine g_c (by assumption) ?_ | rw [t6] | rw [Int.toNat_natCast] | rw [Nat.zero_add]); conv => whnf))
      rw [t7]
      exact ⟨0, fun k => k, [6, 8, 10, 11, 12], [6, 10], by decide, by kernel_rfl, 3, rfl, by decide, rfl, rfl⟩
    have t6 : decide (((3 : Nat) : Int) < 3) = false := by decide
    conv => whnf
    (repeat (first | (refine step_w2 rfl rfl ?_; conv => whnf) | (rw [t6]; conv => whnf)))
    refine SW_loopN hE (fun k => k) [8, 11, 13] [] (fun m fr hp => ∃ (i : Nat), m = P.length - i ∧ i ≤ P.length ∧ fr = [(8, vecC 8 (P.map Pw.sv)), (11, mvec 6 rPw P), (13, .val (.int .i64 (i : Nat)))] ∧ hp = []) P.length ?_ ?_ ?_
    · kernel_rfl
    · exact ⟨0, rfl, Nat.zero_le _, rfl, rfl⟩
    rintro m _ _ ⟨i, rfl, hi, rfl, rfl⟩
    have lP : (P.map Pw.sv).length = P.length := List.length_map ..
    conv => whnf
    by_cases hlt : i < P.length
    · have t7 : decide ((i : Int) < ((P.map Pw.sv).length : Int)) = true := by rw [lP]; exact decide_eq_true (by omega)
      have t8 := winc (i := i) (by omega)
      have hp := hL _ (getD_mem (d := pw0) hlt)
      have z2 := r_Same (P.getD i pw0).c (Nat.le_trans hp.2.2.2 (by decide))
      (repeat ((first | refine step_w1 rfl rfl ?_ | refine step_w2 rfl rfl ?_ | refine step_i (by kernel_rfl) ?_ | refine g_c (by assumption) ?_ | refine g_o (op_pickF rfl (ev_ok rfl) (ev_ok rfl)) ?_ | refine g_o (op_loadA rfl (ev_ok rfl) (tgt rfl) rfl (Nat.succ_ne_zero _) rfl) ?_ | refine g_o (op_fieldA rfl (ev_ok rfl) (tgt rfl) rfl rfl (Nat.succ_ne_zero _) rfl) ?_ | refine g_o (op_lenA rfl rfl rfl ((ev_ok rfl).weak vecC_vecA) (tgt rfl) rfl) ?_ | refine g_o (op_indexN (α := Pw) (d := pw0) rfl ((ev_ok rfl).weak vecC_vecA) (ev_ok rfl) (tgt rfl) rfl (tgt rfl) rfl (by omega)) ?_ | refine g_o (op_indexN (α := Pw) (d := pw0) rfl (ev_ok rfl) (ev_ok rfl) (tgt rfl) rfl (tgt rfl) rfl (by omega)) ?_ | refine ⟨_, op_neqE rfl (ev_ok rfl) (ev_ok rfl) rfl rfl (eq_3I' _ _ _) g_3I, ?_⟩ | rw [t7] | rw [t8]); conv => whnf))
      exact ⟨P.length - (i + 1), fun k => k, [8, 11, 13], [], by omega, by kernel_rfl, i + 1, rfl, hlt, rfl, rfl⟩
    · have t7 : decide ((i : Int) < ((P.map Pw.sv).length : Int)) = false := by rw [lP]; exact decide_eq_false (by omega)
      (repeat ((first | refine step_w2 rfl rfl ?_ | refine g_c (by assumption) ?_ | refine g_o (op_lenA rfl rfl rfl ((ev_ok rfl).weak vecC_vecA) (tgt rfl) rfl) ?_ | rw [t7]); conv => whnf)); (first | exact Recast.refl _ | exact Frz.recast (Recast.refl _) rfl | (refine Frz.one rfl rfl ?_; skip) | (refine Frz.tup ?_; skip))
  · have hS : nodeS 2 = .agg (zC ++ zC ++ oC ((1 : Int) : Rat)) := by rw [nodeS, show nodeC 2 0 = 0 by decide +kernel, show nodeC 2 1 = 0 by decide +kernel, show nodeC 2 2 = ((1 : Int) : Rat) by decide +kernel]; rw [if_pos rfl, if_neg (by decide +kernel)]
    rw [hS] at kr
    rw [show nodeC 2 0 = 0 by decide +kernel, show nodeC 2 1 = 0 by decide +kernel, show nodeC 2 2 = ((1 : Int) : Rat) by decide +kernel] at kn
    have z0 := r_Same0
    have z1 := r_Same (((1 : Int) : Rat)) (by decide +kernel)
    refine callV (Z := []) tabOK mixedOK Tryz.func8 rfl (by kernel_rfl) rfl rfl (by kernel_rfl) rfl ?_
    intro W0 w0 ρ0 hE
    conv => whnf
    (repeat ((first | refine step_w1 rfl rfl ?_ | refine step_w2 rfl rfl ?_ | refine g_c (by assumption) ?_ | refine g_o (op_pickF rfl (ev_ok rfl) (ev_ok rfl)) ?_ | rw [bne_self_eq_false] | refine g_o (op_lenM rfl rfl rfl (ev_ok rfl) (tgt rfl) rfl) ?_ | refine g_o (op_capC rfl rfl rfl (ev_ok rfl) (tgt rfl) rfl) ?_ | refine g_o (op_lenA rfl rfl rfl ((ev_ok rfl).weak vecC_vecA) (tgt rfl) rfl) ?_ | rw [t3] | rw [t4] | rw [e1]); conv => whnf))
    refine SW_loopN hE (fun k => k) [6, 8, 10, 11, 12] [6, 10] (fun m fr hp => ∃ (r : Nat), m = 3 - r ∧ r ≤ 3 ∧ fr = [(6, .ptr 6 0 0 0), (8, vecC 8 (P.map Pw.sv)), (10, .ptr 10 0 0 0), (11, mvec 6 rPw P), (12, .val (.int .i64 (r : Nat)))] ∧ hp = [(6, a3 0 0 ((1 : Int) : Rat)), (10, ⟨56, true, .one (zC ++ zC ++ oC ((1 : Int) : Rat))⟩)]) 3 ?_ ?_ ?_
    · kernel_rfl
    · exact ⟨0, rfl, by decide, rfl, rfl⟩
    rintro m _ _ ⟨r, rfl, hr, rfl, rfl⟩
    clear kn kr kp kq km km2
    obtain rfl | rfl | rfl | rfl : r = 0 ∨ r = 1 ∨ r = 2 ∨ r = 3 := by omega
    · skip
      have t6 : decide ((((0 : Nat) : Int)) < 3) = true := by decide
      have t7 := winc (i := 0) (by decide)
      conv => whnf
      (repeat ((first | refine step_w1 rfl rfl ?_ | refine step_w2 rfl rfl ?_ | refine step_i (by kernel_rfl) ?_ | refine And.intro (by first | decide | omega | (simp only [tiB5, tiB23, tiB3, tiB2, tiB9, tiB36, tiB54, tiB121, tiB34, tiB28, tiB4, tiB50, tiB52, tiB49, tiB30, dlen, List.length_replicate, List.length_set, List.length_map, List.length_zipWith, List.length_take, List.length_append, List.length_cons, List.length_nil]; omega)) ?_ | refine g_c (by assumption) ?_ | rw [t6] | rw [Int.toNat_natCast] | rw [Nat.zero_add]); conv => whnf))
      rw [t7]
      exact ⟨2, fun k => k, [6, 8, 10, 11, 12], [6, 10], by decide, by kernel_rfl, 1, rfl, by decide, rfl, rfl⟩
    · skip
      have t6 : decide ((((1 : Nat) : Int)) < 3) = true := by decide
      have t7 := winc (i := 1) (by decide)
      conv => whnf
      (repeat ((first | refine step_w1 rfl rfl ?_ | refine step_w2 rfl rfl ?_ | refine step_i (by kernel_rfl) ?_ | refine And.intro (by first | decide | omega | (simp only [tiB5, tiB23, tiB3, tiB2, tiB9, tiB36, tiB54, tiB121, tiB34, tiB28, tiB4, tiB50, tiB52, tiB49, tiB30, dlen, List.length_replicate, List.length_set, List.length_map, List.length_zipWith, List.length_take, List.length_append, List.length_cons, List.length_nil]; omega)) ?_ | refine g_c (by assumption) ?_ | rw [t6] | rw [Int.toNat_natCast] | rw [Nat.zero_add]); conv => whnf))
      rw [t7]
      exact ⟨1, fun k => k, [6, 8, 10, 11, 12], [6, 10], by decide, by kernel_rfl, 2, rfl, by decide, rfl, rfl⟩
    · skip
      have t6 : decide ((((2 : Nat) : Int)) < 3) = true := by decide
      have t7 := winc (i := 2) (by decide)
      conv => whnf
      (repeat ((first | refine step_w1 rfl rfl ?_ | refine step_w2 rfl rfl ?_ | refine step_i (by kernel_rfl) ?_ | refine And.intro (by first | decide | omega | (simp only [tiB5, tiB23, tiB3, tiB2, tiB9, tiB36, tiB54, tiB121, tiB34, tiB28, tiB4, tiB50, tiB52, tiB49, tiB30, dlen, List.length_replicate, List.length_set, List.length_map, List.length_zipWith, List.length_take, List.length_append, List.length_cons, List.length_nil]; omega)) ?_ | refine g_c (by assumption) ?_ | rw [t6] | rw [Int.toNat_natCast] | rw [Nat.zero_add]); conv => whnf))
      rw [t7]
      exact ⟨0, fun k => k, [6, 8, 10, 11, 12], [6, 10], by decide, by kernel_rfl, 3, rfl, by decide, rfl, rfl⟩
    have t6 : decide (((3 : Nat) : Int) < 3) = false := by decide
    conv => whnf
    (repeat (first | (refine step_w2 rfl rfl ?_; conv => whnf) | (rw [t6]; conv => whnf)))
    refine SW_loopN hE (fun k => k) [8, 11, 13] [] (fun m fr hp => ∃ (i : Nat), m = P.length - i ∧ i ≤ P.length ∧ fr = [(8, vecC 8 (P.map Pw.sv)), (11, mvec 6 rPw P), (13, .val (.int .i64 (i : Nat)))] ∧ hp = []) P.length ?_ ?_ ?_
    · kernel_rfl
    · exact ⟨0, rfl, Nat.zero_le _, rfl, rfl⟩
    rintro m _ _ ⟨i, rfl, hi, rfl, rfl⟩
    have lP : (P.map Pw.sv).length = P.length := List.length_map ..
    conv => whnf
    by_cases hlt : i < P.length
    · have t7 : decide ((i : Int) < ((P.map Pw.sv).length : Int)) = true := by rw [lP]; exact decide_eq_true (by omega)
      have t8 := winc (i := i) (by omega)
      have hp := hL _ (getD_mem (d := pw0) hlt)
      have z2 := r_Same (P.getD i pw0).c (Nat.le_trans hp.2.2.2 (by decide))
      (repeat ((first | refine step_w1 rfl rfl ?_ | refine step_w2 rfl rfl ?_ | refine step_i (by kernel_rfl) ?_ | refine g_c (by assumption) ?_ | refine g_o (op_pickF rfl (ev_ok rfl) (ev_ok rfl)) ?_ | refine g_o (op_loadA rfl (ev_ok rfl) (tgt rfl) rfl (Nat.succ_ne_zero _) rfl) ?_ | refine g_o (op_fieldA rfl (ev_ok rfl) (tgt rfl) rfl rfl (Nat.succ_ne_zero _) rfl) ?_ | refine g_o (op_lenA rfl rfl rfl ((ev_ok rfl).weak vecC_vecA) (tgt rfl) rfl) ?_ | refine g_o (op_indexN (α := Pw) (d := pw0) rfl ((ev_ok rfl).weak vecC_vecA) (ev_ok rfl) (tgt rfl) rfl (tgt rfl) rfl (by omega)) ?_ | refine g_o (op_indexN (α := Pw) (d := pw0) rfl (ev_ok rfl) (ev_ok rfl) (tgt rfl) rfl (tgt rfl) rfl (by omega)) ?_ | refine ⟨_, op_neqE rfl (ev_ok rfl) (ev_ok rfl) rfl rfl (eq_3I' _ _ _) g_3I, ?_⟩ | rw [t7] | rw [t8]); conv => whnf))
      exact ⟨P.length - (i + 1), fun k => k, [8, 11, 13], [], by omega, by kernel_rfl, i + 1, rfl, hlt, rfl, rfl⟩
    · have t7 : decide ((i : Int) < ((P.map Pw.sv).length : Int)) = false := by rw [lP]; exact decide_eq_false (by omega)
      (repeat ((first | refine step_w2 rfl rfl ?_ | refine g_c (by assumption) ?_ | refine g_o (op_lenA rfl rfl rfl ((ev_ok rfl).weak vecC_vecA) (tgt rfl) rfl) ?_ | rw [t7]); conv => whnf)); (first | exact Recast.refl _ | exact Frz.recast (Recast.refl _) rfl | (refine Frz.one rfl rfl ?_; skip) | (refine Frz.tup ?_; skip))
  · have hS : nodeS 3 = .agg (zC ++ oC r12 ++ oC r12) := by rw [nodeS, show nodeC 3 0 = 0 by decide +kernel, show nodeC 3 1 = r12 by decide +kernel, show nodeC 3 2 = r12 by decide +kernel]; rw [if_pos rfl, if_neg (by decide +kernel)]
    rw [hS] at kr
    rw [show nodeC 3 0 = 0 by decide +kernel, show nodeC 3 1 = r12 by decide +kernel, show nodeC 3 2 = r12 by decide +kernel] at kn
    have z0 := r_Same0
    have z1 := r_Same (r12) (by decide +kernel)
    refine callV (Z := []) tabOK mixedOK Tryz.func8 rfl (by kernel_rfl) rfl rfl (by kernel_rfl) rfl ?_
    intro W0 w0 ρ0 hE
    conv => whnf
    (repeat ((first | refine step_w1 rfl rfl ?_ | refine step_w2 rfl rfl ?_ | refine g_c (by assumption) ?_ | refine g_o (op_pickF rfl (ev_ok rfl) (ev_ok rfl)) ?_ | rw [bne_self_eq_false] | refine g_o (op_lenM rfl rfl rfl (ev_ok rfl) (tgt rfl) rfl) ?_ | refine g_o (op_capC rfl rfl rfl (ev_ok rfl) (tgt rfl) rfl) ?_ | refine g_o (op_lenA rfl rfl rfl ((ev_ok rfl).weak vecC_vecA) (tgt rfl) rfl) ?_ | rw [t3] | rw [t4] | rw [e1]); conv => whnf))
    refine SW_loopN hE (fun k => k) [6, 8, 10, 11, 12] [6, 10] (fun m fr hp => ∃ (r : Nat), m = 3 - r ∧ r ≤ 3 ∧ fr = [(6, .ptr 6 0 0 0), (8, vecC 8 (P.map Pw.sv)), (10, .ptr 10 0 0 0), (11, mvec 6 rPw P), (12, .val (.int .i64 (r : Nat)))] ∧ hp = [(6, a3 0 r12 r12), (10, ⟨56, true, .one (zC ++ oC r12 ++ oC r12)⟩)]) 3 ?_ ?_ ?_
    · kernel_rfl
    · exact ⟨0, rfl, by decide, rfl, rfl⟩
    rintro m _ _ ⟨r, rfl, hr, rfl, rfl⟩
    clear kn kr kp kq km km2
    obtain rfl | rfl | rfl | rfl : r = 0 ∨ r = 1 ∨ r = 2 ∨ r = 3 := by omega
    · skip
      have t6 : decide ((((0 : Nat) : Int)) < 3) = true := by decide
      have t7 := winc (i := 0) (by decide)
      conv => whnf
      (repeat ((first | refine step_w1 rfl rfl ?_ | refine step_w2 rfl rfl ?_ | refine step_i (by kernel_rfl) ?_ | refine And.intro (by first | decide | omega | (simp only [tiB5, tiB23, tiB3, tiB2, tiB9, tiB36, tiB54, tiB121, tiB34, tiB28, tiB4, tiB50, tiB52, tiB49, tiB30, dlen, List.length_replicate, List.length_set, List.length_map, List.length_zipWith, List.length_take, List.length_append, List.length_cons, List.length_nil]; omega)) ?_ | refine g_c (by assumption) ?_ | rw [t6] | rw [Int.toNat_natCast] | rw [Nat.zero_add]); conv => whnf))
      rw [t7]
      exact ⟨2, fun k => k, [6, 8, 10, 11, 12], [6, 10], by decide, by kernel_rfl, 1, rfl, by decide, rfl, rfl⟩
    · skip
      have t6 : decide ((((1 : Nat) : Int)) < 3) = true := by decide
      have t7 := winc (i := 1) (by decide)
      conv => whnf
      (repeat ((first | refine step_w1 rfl rfl ?_ | refine step_w2 rfl rfl ?_ | refine step_i (by kernel_rfl) ?_ | refine And.intro (by first | decide | omega | (simp only [tiB5, tiB23, tiB3, tiB2, tiB9, tiB36, tiB54, tiB121, tiB34, tiB28, tiB4, tiB50, tiB52, tiB49, tiB30, dlen, List.length_replicate, List.length_set, List.length_map, List.length_zipWith, List.length_take, List.length_append, List.length_cons, List.length_nil]; omega)) ?_ | refine g_c (by assumption) ?_ | rw [t6] | rw [Int.toNat_natCast] | rw [Nat.zero_add]); conv => whnf))
      rw [t7]
      exact ⟨1, fun k => k, [6, 8, 10, 11, 12], [6, 10], by decide, by kernel_rfl, 2, rfl, by decide, rfl, rfl⟩
    · skip
      have t6 : decide ((((2 : Nat) : Int)) < 3) = true := by decide
      have t7 := winc (i := 2) (by decide)
      conv => whnf
      (repeat ((first | refine step_w1 rfl rfl ?_ | refine step_w2 rfl rfl ?_ | refine step_i (by kernel_rfl) ?_ | refine And.intro (by first | decide | omega | (simp only [tiB5, tiB23, tiB3, tiB2, tiB9, tiB36, tiB54, tiB121, tiB34, tiB28, tiB4, tiB50, tiB52, tiB49, tiB30, dlen, List.length_replicate, List.length_set, List.length_map, List.length_zipWith, List.length_take, List.length_append, List.length_cons, List.length_nil]; omega)) ?_ | refine g_c (by assumption) ?_ | rw [t6] | rw [Int.toNat_natCast] | rw [Nat.zero_add]); conv => whnf))
      rw [t7]
      exact ⟨0, fun k => k, [6, 8, 10, 11, 12], [6, 10], by decide, by kernel_rfl, 3, rfl, by decide, rfl, rfl⟩
    have t6 : decide (((3 : Nat) : Int) < 3) = false := by decide
    conv => whnf
    (repeat (first | (refine step_w2 rfl rfl ?_; conv => whnf) | (rw [t6]; conv => whnf)))
    refine SW_loopN hE (fun k => k) [8, 11, 13] [] (fun m fr hp => ∃ (i : Nat), m = P.length - i ∧ i ≤ P.length ∧ fr = [(8, vecC 8 (P.map Pw.sv)), (11, mvec 6 rPw P), (13, .val (.int .i64 (i : Nat)))] ∧ hp = []) P.length ?_ ?_ ?_
    · kernel_rfl
    · exact ⟨0, rfl, Nat.zero_le _, rfl, rfl⟩
    rintro m _ _ ⟨i, rfl, hi, rfl, rfl⟩
    have lP : (P.map Pw.sv).length = P.length := List.length_map ..
    conv => whnf
    by_cases hlt : i < P.length
    · have t7 : decide ((i : Int) < ((P.map Pw.sv).length : Int)) = true := by rw [lP]; exact decide_eq_true (by omega)
      have t8 := winc (i := i) (by omega)
      have hp := hL _ (getD_mem (d := pw0) hlt)
      have z2 := r_Same (P.getD i pw0).c (Nat.le_trans hp.2.2.2 (by decide))
      (repeat ((first | refine step_w1 rfl rfl ?_ | refine step_w2 rfl rfl ?_ | refine step_i (by kernel_rfl) ?_ | refine g_c (by assumption) ?_ | refine g_o (op_pickF rfl (ev_ok rfl) (ev_ok rfl)) ?_ | refine g_o (op_loadA rfl (ev_ok rfl) (tgt rfl) rfl (Nat.succ_ne_zero _) rfl) ?_ | refine g_o (op_fieldA rfl (ev_ok rfl) (tgt rfl) rfl rfl (Nat.succ_ne_zero _) rfl) ?_ | refine g_o (op_lenA rfl rfl rfl ((ev_ok rfl).weak vecC_vecA) (tgt rfl) rfl) ?_ | refine g_o (op_indexN (α := Pw) (d := pw0) rfl ((ev_ok rfl).weak vecC_vecA) (ev_ok rfl) (tgt rfl) rfl (tgt rfl) rfl (by omega)) ?_ | refine g_o (op_indexN (α := Pw) (d := pw0) rfl (ev_ok rfl) (ev_ok rfl) (tgt rfl) rfl (tgt rfl) rfl (by omega)) ?_ | refine ⟨_, op_neqE rfl (ev_ok rfl) (ev_ok rfl) rfl rfl (eq_3I' _ _ _) g_3I, ?_⟩ | rw [t7] | rw [t8]); conv => whnf))
      exact ⟨P.length - (i + 1), fun k => k, [8, 11, 13], [], by omega, by kernel_rfl, i + 1, rfl, hlt, rfl, rfl⟩
    · have t7 : decide ((i : Int) < ((P.map Pw.sv).length : Int)) = false := by rw [lP]; exact decide_eq_false (by omega)
      (repeat ((first | refine step_w2 rfl rfl ?_ | refine g_c (by assumption) ?_ | refine g_o (op_lenA rfl rfl rfl ((ev_ok rfl).weak vecC_vecA) (tgt rfl) rfl) ?_ | rw [t7]); conv => whnf)); (first | exact Recast.refl _ | exact Frz.recast (Recast.refl _) rfl | (refine Frz.one rfl rfl ?_; skip) | (refine Frz.tup ?_; skip))
  · have hS : nodeS 4 = .agg (oC r12 ++ zC ++ oC r12) := by rw [nodeS, show nodeC 4 0 = r12 by decide +kernel, show nodeC 4 1 = 0 by decide +kernel, show nodeC 4 2 = r12 by decide +kernel]; rw [if_neg (by decide +kernel), if_pos rfl]
    rw [hS] at kr
    rw [show nodeC 4 0 = r12 by decide +kernel, show nodeC 4 1 = 0 by decide +kernel, show nodeC 4 2 = r12 by decide +kernel] at kn
    have z0 := r_Same0
    have z1 := r_Same (r12) (by decide +kernel)
    refine callV (Z := []) tabOK mixedOK Tryz.func8 rfl (by kernel_rfl) rfl rfl (by kernel_rfl) rfl ?_
    intro W0 w0 ρ0 hE
    conv => whnf
    (repeat ((first | refine step_w1 rfl rfl ?_ | refine step_w2 rfl rfl ?_ | refine g_c (by assumption) ?_ | refine g_o (op_pickF rfl (ev_ok rfl) (ev_ok rfl)) ?_ | rw [bne_self_eq_false] | refine g_o (op_lenM rfl rfl rfl (ev_ok rfl) (tgt rfl) rfl) ?_ | refine g_o (op_capC rfl rfl rfl (ev_ok rfl) (tgt rfl) rfl) ?_ | refine g_o (op_lenA rfl rfl rfl ((ev_ok rfl).weak vecC_vecA) (tgt rfl) rfl) ?_ | rw [t3] | rw [t4] | rw [e1]); conv => whnf))
    refine SW_loopN hE (fun k => k) [6, 8, 10, 11, 12] [6, 10] (fun m fr hp => ∃ (r : Nat), m = 3 - r ∧ r ≤ 3 ∧ fr = [(6, .ptr 6 0 0 0), (8, vecC 8 (P.map Pw.sv)), (10, .ptr 10 0 0 0), (11, mvec 6 rPw P), (12, .val (.int .i64 (r : Nat)))] ∧ hp = [(6, a3 r12 0 r12), (10, ⟨56, true, .one (oC r12 ++ zC ++ oC r12)⟩)]) 3 ?_ ?_ ?_
    · kernel_rfl
    · exact ⟨0, rfl, by decide, rfl, rfl⟩
    rintro m _ _ ⟨r, rfl, hr, rfl, rfl⟩
    clear kn kr kp kq km km2
    obtain rfl | rfl | rfl | rfl : r = 0 ∨ r = 1 ∨ r = 2 ∨ r = 3 := by omega
    · skip
      have t6 : decide ((((0 : Nat) : Int)) < 3) = true := by decide
      have t7 := winc (i := 0) (by decide)
      conv => whnf
      (repeat ((first | refine step_w1 rfl rfl ?_ | refine step_w2 rfl rfl ?_ | refine step_i (by kernel_rfl) ?_ | refine And.intro (by first | decide | omega | (simp only [tiB5, tiB23, tiB3, tiB2, tiB9, tiB36, tiB54, tiB121, tiB34, tiB28, tiB4, tiB50, tiB52, tiB49, tiB30, dlen, List.length_replicate, List.length_set, List.length_map, List.length_zipWith, List.length_take, List.length_append, List.length_cons, List.length_nil]; omega)) ?_ | refine g_c (by assumption) ?_ | rw [t6] | rw [Int.toNat_natCast] | rw [Nat.zero_add]); conv => whnf))
      rw [t7]
      exact ⟨2, fun k => k, [6, 8, 10, 11, 12], [6, 10], by decide, by kernel_rfl, 1, rfl, by decide, rfl, rfl⟩
    · skip
      have t6 : decide ((((1 : Nat) : Int)) < 3) = true := by decide
      have t7 := winc (i := 1) (by decide)
      conv => whnf
      (repeat ((first | refine step_w1 rfl rfl ?_ | refine step_w2 rfl rfl ?_ | refine step_i (by kernel_rfl) ?_ | refine And.intro (by first | decide | omega | (simp only [tiB5, tiB23, tiB3, tiB2, tiB9, tiB36, tiB54, tiB121, tiB34, tiB28, tiB4, tiB50, tiB52, tiB49, tiB30, dlen, List.length_replicate, List.length_set, List.length_map, List.length_zipWith, List.length_take, List.length_append, List.length_cons, List.length_nil]; omega)) ?_ | refine g_c (by assumption) ?_ | rw [t6] | rw [Int.toNat_natCast] | rw [Nat.zero_add]); conv => whnf))
      rw [t7]
      exact ⟨1, fun k => k, [6, 8, 10, 11, 12], [6, 10], by decide, by kernel_rfl, 2, rfl, by decide, rfl, rfl⟩
    · skip
      have t6 : decide ((((2 : Nat) : Int)) < 3) = true := by decide
      have t7 := winc (i := 2) (by decide)
      conv => whnf
      (repeat ((first | refine step_w1 rfl rfl ?_ | refine step_w2 rfl rfl ?_ | refine step_i (by kernel_rfl) ?_ | refine And.intro (by first | decide | omega | (simp only [tiB5, tiB23, tiB3, tiB2, tiB9, tiB36, tiB54, tiB121, tiB34, tiB28, tiB4, tiB50, tiB52, tiB49, tiB30, dlen, List.length_replicate, List.length_set, List.length_map, List.length_zipWith, List.length_take, List.length_append, List.length_cons, List.length_nil]; omega)) ?_ | refine g_c (by assumption) ?_ | rw [t6] | rw [Int.toNat_natCast] | rw [Nat.zero_add]); conv => whnf))
      rw [t7]
      exact ⟨0, fun k => k, [6, 8, 10, 11, 12], [6, 10], by decide, by kernel_rfl, 3, rfl, by decide, rfl, rfl⟩
    have t6 : decide (((3 : Nat) : Int) < 3) = false := by decide
    conv => whnf
    (repeat (first | (refine step_w2 rfl rfl ?_; conv => whnf) | (rw [t6]; conv => whnf)))
    refine SW_loopN hE (fun k => k) [8, 11, 13] [] (fun m fr hp => ∃ (i : Nat), m = P.length - i ∧ i ≤ P.length ∧ fr = [(8, vecC 8 (P.map Pw.sv)), (11, mvec 6 rPw P), (13, .val (.int .i64 (i : Nat)))] ∧ hp = []) P.length ?_ ?_ ?_
    · kernel_rfl
    · exact ⟨0, rfl, Nat.zero_le _, rfl, rfl⟩
    rintro m _ _ ⟨i, rfl, hi, rfl, rfl⟩
    have lP : (P.map Pw.sv).length = P.length := List.length_map ..
    conv => whnf
    by_cases hlt : i < P.length
    · have t7 : decide ((i : Int) < ((P.map Pw.sv).length : Int)) = true := by rw [lP]; exact decide_eq_true (by omega)
      have t8 := winc (i := i) (by omega)
      have hp := hL _ (getD_mem (d := pw0) hlt)
      have z2 := r_Same (P.getD i pw0).c (Nat.le_trans hp.2.2.2 (by decide))
      (repeat ((first | refine step_w1 rfl rfl ?_ | refine step_w2 rfl rfl ?_ | refine step_i (by kernel_rfl) ?_ | refine g_c (by assumption) ?_ | refine g_o (op_pickF rfl (ev_ok rfl) (ev_ok rfl)) ?_ | refine g_o (op_loadA rfl (ev_ok rfl) (tgt rfl) rfl (Nat.succ_ne_zero _) rfl) ?_ | refine g_o (op_fieldA rfl (ev_ok rfl) (tgt rfl) rfl rfl (Nat.succ_ne_zero _) rfl) ?_ | refine g_o (op_lenA rfl rfl rfl ((ev_ok rfl).weak vecC_vecA) (tgt rfl) rfl) ?_ | refine g_o (op_indexN (α := Pw) (d := pw0) rfl ((ev_ok rfl).weak vecC_vecA) (ev_ok rfl) (tgt rfl) rfl (tgt rfl) rfl (by omega)) ?_ | refine g_o (op_indexN (α := Pw) (d := pw0) rfl (ev_ok rfl) (ev_ok rfl) (tgt rfl) rfl (tgt rfl) rfl (by omega)) ?_ | refine ⟨_, op_neqE rfl (ev_ok rfl) (ev_ok rfl) rfl rfl (eq_3I' _ _ _) g_3I, ?_⟩ | rw [t7] | rw [t8]); conv => whnf))
      exact ⟨P.length - (i + 1), fun k => k, [8, 11, 13], [], by omega, by kernel_rfl, i + 1, rfl, hlt, rfl, rfl⟩
    · have t7 : decide ((i : Int) < ((P.map Pw.sv).length : Int)) = false := by rw [lP]; exact decide_eq_false (by omega)
      (repeat ((first | refine step_w2 rfl rfl ?_ | refine g_c (by assumption) ?_ | refine g_o (op_lenA rfl rfl rfl ((ev_ok rfl).weak vecC_vecA) (tgt rfl) rfl) ?_ | rw [t7]); conv => whnf)); (first | exact Recast.refl _ | exact Frz.recast (Recast.refl _) rfl | (refine Frz.one rfl rfl ?_; skip) | (refine Frz.tup ?_; skip))
  · have hS : nodeS 5 = .agg (oC r12 ++ oC r12 ++ zC) := by rw [nodeS, show nodeC 5 0 = r12 by decide +kernel, show nodeC 5 1 = r12 by decide +kernel, show nodeC 5 2 = 0 by decide +kernel]; rw [if_neg (by decide +kernel), if_pos rfl]
    rw [hS] at kr
    rw [show nodeC 5 0 = r12 by decide +kernel, show nodeC 5 1 = r12 by decide +kernel, show nodeC 5 2 = 0 by decide +kernel] at kn
    have z0 := r_Same0
    have z1 := r_Same (r12) (by decide +kernel)
    refine callV (Z := []) tabOK mixedOK Tryz.func8 rfl (by kernel_rfl) rfl rfl (by kernel_rfl) rfl ?_
    intro W0 w0 ρ0 hE
    conv => whnf
    (repeat ((first | refine step_w1 rfl rfl ?_ | refine step_w2 rfl rfl ?_ | refine g_c (by assumption) ?_ | refine g_o (op_pickF rfl (ev_ok rfl) (ev_ok rfl)) ?_ | rw [bne_self_eq_false] | refine g_o (op_lenM rfl rfl rfl (ev_ok rfl) (tgt rfl) rfl) ?_ | refine g_o (op_capC rfl rfl rfl (ev_ok rfl) (tgt rfl) rfl) ?_ | refine g_o (op_lenA rfl rfl rfl ((ev_ok rfl).weak vecC_vecA) (tgt rfl) rfl) ?_ | rw [t3] | rw [t4] | rw [e1]); conv => whnf))
    refine SW_loopN hE (fun k => k) [6, 8, 10, 11, 12] [6, 10] (fun m fr hp => ∃ (r : Nat), m = 3 - r ∧ r ≤ 3 ∧ fr = [(6, .ptr 6 0 0 0), (8, vecC 8 (P.map Pw.sv)), (10, .ptr 10 0 0 0), (11, mvec 6 rPw P), (12, .val (.int .i64 (r : Nat)))] ∧ hp = [(6, a3 r12 r12 0), (10, ⟨56, true, .one (oC r12 ++ oC r12 ++ zC)⟩)]) 3 ?_ ?_ ?_
    · kernel_rfl
    · exact ⟨0, rfl, by decide, rfl, rfl⟩
    rintro m _ _ ⟨r, rfl, hr, rfl, rfl⟩
    clear kn kr kp kq km km2
    obtain rfl | rfl | rfl | rfl : r = 0 ∨ r = 1 ∨ r = 2 ∨ r = 3 := by omega
    · skip
      have t6 : decide ((((0 : Nat) : Int)) < 3) = true := by decide
      have t7 := winc (i := 0) (by decide)
      conv => whnf
      (repeat ((first | refine step_w1 rfl rfl ?_ | refine step_w2 rfl rfl ?_ | refine step_i (by kernel_rfl) ?_ | refine And.intro (by first | decide | omega | (simp only [tiB5, tiB23, tiB3, tiB2, tiB9, tiB36, tiB54, tiB121, tiB34, tiB28, tiB4, tiB50, tiB52, tiB49, tiB30, dlen, List.length_replicate, List.length_set, List.length_map, List.length_zipWith, List.length_take, List.length_append, List.length_cons, List.length_nil]; omega)) ?_ | refine g_c (by assumption) ?_ | rw [t6] | rw [Int.toNat_natCast] | rw [Nat.zero_add]); conv => whnf))
      rw [t7]
      exact ⟨2, fun k => k, [6, 8, 10, 11, 12], [6, 10], by decide, by kernel_rfl, 1, rfl, by decide, rfl, rfl⟩
    · skip
      have t6 : decide ((((1 : Nat) : Int)) < 3) = true := by decide
      have t7 := winc (i := 1) (by decide)
      conv => whnf
      (repeat ((first | refine step_w1 rfl rfl ?_ | refine step_w2 rfl rfl ?_ | refine step_i (by kernel_rfl) ?_ | refine And.intro (by first | decide | omega | (simp only [tiB5, tiB23, tiB3, tiB2, tiB9, tiB36, tiB54, tiB121, tiB34, tiB28, tiB4, tiB50, tiB52, tiB49, tiB30, dlen, List.length_replicate, List.length_set, List.length_map, List.length_zipWith, List.length_take, List.length_append, List.length_cons, List.length_nil]; omega)) ?_ | refine g_c (by assumption) ?_ | rw [t6] | rw [Int.toNat_natCast] | rw [Nat.zero_add]); conv => whnf))
      rw [t7]
      exact ⟨1, fun k => k, [6, 8, 10, 11, 12], [6, 10], by decide, by kernel_rfl, 2, rfl, by decide, rfl, rfl⟩
    · skip
      have t6 : decide ((((2 : Nat) : Int)) < 3) = true := by decide
      have t7 := winc (i := 2) (by decide)
      conv => whnf
      (repeat ((first | refine step_w1 rfl rfl ?_ | refine step_w2 rfl rfl ?_ | refine step_i (by kernel_rfl) ?_ | refine And.intro (by first | decide | omega | (simp only [tiB5, tiB23, tiB3, tiB2, tiB9, tiB36, tiB54, tiB121, tiB34, tiB28, tiB4, tiB50, tiB52, tiB49, tiB30, dlen, List.length_replicate, List.length_set, List.length_map, List.length_zipWith, List.length_take, List.length_append, List.length_cons, List.length_nil]; omega)) ?_ | refine g_c (by assumption) ?_ | rw [t6] | rw [Int.toNat_natCast] | rw [Nat.zero_add]); conv => whnf))
      rw [t7]
      exact ⟨0, fun k => k, [6, 8, 10, 11, 12], [6, 10], by decide, by kernel_rfl, 3, rfl, by decide, rfl, rfl⟩
    have t6 : decide (((3 : Nat) : Int) < 3) = false := by decide
    conv => whnf
    (repeat (first | (refine step_w2 rfl rfl ?_; conv => whnf) | (rw [t6]; conv => whnf)))
    refine SW_loopN hE (fun k => k) [8, 11, 13] [] (fun m fr hp => ∃ (i : Nat), m = P.length - i ∧ i ≤ P.length ∧ fr = [(8, vecC 8 (P.map Pw.sv)), (11, mvec 6 rPw P), (13, .val (.int .i64 (i : Nat)))] ∧ hp = []) P.length ?_ ?_ ?_
    · kernel_rfl
    · exact ⟨0, rfl, Nat.zero_le _, rfl, rfl⟩
    rintro m _ _ ⟨i, rfl, hi, rfl, rfl⟩
    have lP : (P.map Pw.sv).length = P.length := List.length_map ..
    conv => whnf
    by_cases hlt : i < P.length
    · have t7 : decide ((i : Int) < ((P.map Pw.sv).length : Int)) = true := by rw [lP]; exact decide_eq_true (by omega)
      have t8 := winc (i := i) (by omega)
      have hp := hL _ (getD_mem (d := pw0) hlt)
      have z2 := r_Same (P.getD i pw0).c (Nat.le_trans hp.2.2.2 (by decide))
      (repeat ((first | refine step_w1 rfl rfl ?_ | refine step_w2 rfl rfl ?_ | refine step_i (by kernel_rfl) ?_ | refine g_c (by assumption) ?_ | refine g_o (op_pickF rfl (ev_ok rfl) (ev_ok rfl)) ?_ | refine g_o (op_loadA rfl (ev_ok rfl) (tgt rfl) rfl (Nat.succ_ne_zero _) rfl) ?_ | refine g_o (op_fieldA rfl (ev_ok rfl) (tgt rfl) rfl rfl (Nat.succ_ne_zero _) rfl) ?_ | refine g_o (op_lenA rfl rfl rfl ((ev_ok rfl).weak vecC_vecA) (tgt rfl) rfl) ?_ | refine g_o (op_indexN (α := Pw) (d := pw0) rfl ((ev_ok rfl).weak vecC_vecA) (ev_ok rfl) (tgt rfl) rfl (tgt rfl) rfl (by omega)) ?_ | refine g_o (op_indexN (α := Pw) (d := pw0) rfl (ev_ok rfl) (ev_ok rfl) (tgt rfl) rfl (tgt rfl) rfl (by omega)) ?_ | refine ⟨_, op_neqE rfl (ev_ok rfl) (ev_ok rfl) rfl rfl (eq_3I' _ _ _) g_3I, ?_⟩ | rw [t7] | rw [t8]); conv => whnf))
      exact ⟨P.length - (i + 1), fun k => k, [8, 11, 13], [], by omega, by kernel_rfl, i + 1, rfl, hlt, rfl, rfl⟩
    · have t7 : decide ((i : Int) < ((P.map Pw.sv).length : Int)) = false := by rw [lP]; exact decide_eq_false (by omega)
      (repeat ((first | refine step_w2 rfl rfl ?_ | refine g_c (by assumption) ?_ | refine g_o (op_lenA rfl rfl rfl ((ev_ok rfl).weak vecC_vecA) (tgt rfl) rfl) ?_ | rw [t7]); conv => whnf)); (first | exact Recast.refl _ | exact Frz.recast (Recast.refl _) rfl | (refine Frz.one rfl rfl ?_; skip) | (refine Frz.tup ?_; skip))
theorem law_ShapesMade (a0 a1 : Int) : CallOK Tryz.prog 8 [iel .i64 a0, iel .i64 a1] [] (.val (.bool true)) [] [] := by
  cases h : thereF a0 a1
  · exact c_MadeNo a0 a1 h
  · exact c_MadeYes a0 a1 h
end Go.Proofs.YtdcaodkjofkmgaaGreatDoor

namespace Go.Proofs.YtdcaodkjofkmgaaGreatDoor
open Go.Sx
set_option linter.unusedSimpArgs false
set_option linter.unusedVariables false
theorem law_ShapesMadeW (a0 a1 : Int) (_w0 : (Lit.int .i64 a0).wf = true) (_w1 : (Lit.int .i64 a1).wf = true) : CallOK Tryz.prog 8 [iel .i64 a0, iel .i64 a1] [] (.val (.bool true)) [] [] := law_ShapesMade a0 a1
end Go.Proofs.YtdcaodkjofkmgaaGreatDoor

namespace Go.Sx
set_option linter.unusedSimpArgs false
set_option linter.unusedVariables false
open Go.Lib

theorem chunks {α : Type} (m : Nat) : ∀ (n : Nat) (cs : List α), cs.length = n * m → cs = ((List.range n).map fun i => (cs.drop (i * m)).take m).flatten
  | 0, cs, h => by
    have : cs = [] := List.length_eq_zero_iff.1 (by simpa using h)
    subst this; rfl
  | n + 1, cs, h => by
    rw [Nat.succ_mul] at h
    have ih := chunks m n (cs.drop m) (by rw [List.length_drop]; omega)
    rw [List.range_succ_eq_map, List.map_cons, List.flatten_cons, Nat.zero_mul, List.drop_zero, List.map_map]
    have e : (List.range n).map ((fun i => (cs.drop (i * m)).take m) ∘ Nat.succ) = (List.range n).map fun i => ((cs.drop m).drop (i * m)).take m := by
      refine List.map_congr_left fun i _ => ?_
      simp only [Function.comp, List.drop_drop, Nat.succ_mul]
      rw [Nat.add_comm]
    rw [e, ← ih, List.take_append_drop]

theorem cells_of_tab2 {H : Type} {enc : TypeId × Value → H} {P : Program} {w : World} {base : Nat} {sp : Nat → Bool} {held : Bool} {fuel : Nat} {t e e2 : TypeId} {n m : Nat} {k : IntKind} {cs : List Value} {zss : List (List Int)} {p : List MemPlace}
    (ht : P.underlying t = some (.array n e)) (he : P.underlying e = some (.array m e2)) (he2 : P.underlying e2 = some (.int k)) (hce2 : P.cellsOf e2 = 1) (hce : P.cellsOf e = m) (hct : P.cellsOf t = n * m)
    (h : DataW.trod enc P w base sp held fuel t cs = some (.agg (zss.map (tabData k)), p)) : cs = zss.flatten.map fun z => Value.int k z := by
  cases fuel with
  | zero => simp [DataW.trod] at h
  | succ fuel =>
    simp only [DataW.trod, ht, hce] at h
    split at h
    · rename_i hl
      obtain ⟨xs, hm, hx⟩ := Option.map_eq_some_iff.1 h
      have hxs : xs.map (·.1) = zss.map (tabData (H := H) k) := by
        have := congrArg Prod.fst hx
        simpa using this
      have hxl : xs.length = n := by simpa using mapM_length hm
      have hzl : zss.length = n := by
        have := congrArg List.length hxs
        simp at this
        omega
      rw [List.map_flatten, chunks m n cs (by rw [hl, hct])]
      congr 1
      apply List.ext_getElem?
      intro i
      by_cases hi : i < n
      · obtain ⟨b, hb, hf⟩ := mapM_at hm i i (by simp [hi])
        have h2 : (xs.map (·.1))[i]? = some b.1 := by simp [hb]
        rw [hxs, List.getElem?_map] at h2
        obtain ⟨zs, hz, hzb⟩ := Option.map_eq_some_iff.1 h2
        have h3 := cells_of_tab (p := b.2) (zs := zs) he he2 hce2 hce (by rw [hzb]; exact hf)
        rw [List.getElem?_map, List.getElem?_range hi, List.getElem?_map, hz]
        simp only [Option.map_some]
        rw [h3]
      · rw [List.getElem?_eq_none (by simp; omega), List.getElem?_eq_none (by simp; omega)]
    · cases h

theorem tabIs_of_head2 {P : Program} {W : World} {name : String} {k : IntKind} {zss : List (List Int)} {rest : List (String × DataW Unit)} {g : Nat} {t e e2 : TypeId} {n m : Nat}
    (hg : P.globalNamed name = some g) (hty : (P.globals[g]?).map (·.type) = some t) (ht : P.underlying t = some (.array n e)) (he : P.underlying e = some (.array m e2)) (he2 : P.underlying e2 = some (.int k)) (hce2 : P.cellsOf e2 = 1) (hce : P.cellsOf e = m) (hct : P.cellsOf t = n * m)
    (h : laidMet P ((name, .agg (zss.map (tabData k))) :: rest) W) : TabIs P W name k zss.flatten := by
  obtain ⟨ps, ⟨g', t', cs, fuel, p, q, hg', ht', hvar, hd, _, _⟩, _⟩ := h
  obtain rfl := Option.some.inj (hg.symm.trans hg')
  obtain rfl := Option.some.inj (hty.symm.trans ht')
  unfold TabIs
  rw [hvar, ← cells_of_tab2 ht he he2 hce2 hce hct hd]
end Go.Sx

namespace Go.Proofs.YtdcaodkjofkmgaaGreatDoor.shapesMade
open Go.ChangeShapes Go.WideShapes Go.ChangeAt Go.RowKit Go.Sx
set_option maxRecDepth 100000
set_option linter.unusedSimpArgs false

theorem own : ownKnob Tryz.prog.godebug = none := by kernel_rfl
theorem laidOut : laidOutB Tryz.prog = true := by kernel_rfl
theorem params : Tryz.f8.params.toList.all (fun t => Tryz.prog.readableRec t && decide (t < Tryz.prog.types.size)) = true := by kernel_rfl
theorem gTab0 : Tryz.prog.globalNamed "math/bits.deBruijn32tab" = some 4 := by kernel_rfl
theorem gTabType0 : (Tryz.prog.globals[4]?).map (·.type) = some 217 := by kernel_rfl
theorem cellsA0 : Tryz.prog.cellsOf 217 = 32 := by kernel_rfl
theorem cellsE0 : Tryz.prog.cellsOf 5 = 1 := by kernel_rfl
theorem gTab1 : Tryz.prog.globalNamed "math/bits.deBruijn64tab" = some 5 := by kernel_rfl
theorem gTabType1 : (Tryz.prog.globals[5]?).map (·.type) = some 218 := by kernel_rfl
theorem cellsA1 : Tryz.prog.cellsOf 218 = 64 := by kernel_rfl
theorem cellsE1 : Tryz.prog.cellsOf 5 = 1 := by kernel_rfl
theorem gTab2 : Tryz.prog.globalNamed "internal/strconv.uint64pow10" = some 2 := by kernel_rfl
theorem gTabType2 : (Tryz.prog.globals[2]?).map (·.type) = some 210 := by kernel_rfl
theorem cellsA2 : Tryz.prog.cellsOf 210 = 20 := by kernel_rfl
theorem cellsE2 : Tryz.prog.cellsOf 28 = 1 := by kernel_rfl
theorem gTab3 : Tryz.prog.globalNamed "gusset/shapes.sides" = some 0 := by kernel_rfl
theorem gTabType3 : (Tryz.prog.globals[0]?).map (·.type) = some 118 := by kernel_rfl
theorem cellsA3 : Tryz.prog.cellsOf 118 = 6 := by kernel_rfl
/-- What the row's list gives: the tables' cells hold their numbers. -/
theorem table {W : World} (h : laidMetH Tryz.prog Rows.shapesMadeRow.laid W) : TabsW W := by
  intro g kd l hm
  have h0 : laidMet Tryz.prog Rows.shapesMadeRow.laid W := h
  have ht0 : Lib.TabIs Tryz.prog W "math/bits.deBruijn32tab" .u8 [0, 1, 28, 2, 29, 14, 24, 3, 30, 22, 20, 15, 25, 17, 4, 8, 31, 27, 13, 23, 21, 19, 16, 7, 26, 12, 18, 6, 11, 5, 10, 9] := Lib.tabIs_of_head gTab0 gTabType0 Tryz.underlying217 Tryz.underlying5 cellsE0 cellsA0 h0
  have h1 := laid_tail h0
  have ht1 : Lib.TabIs Tryz.prog W "math/bits.deBruijn64tab" .u8 [0, 1, 56, 2, 57, 49, 28, 3, 61, 58, 42, 50, 38, 29, 17, 4, 62, 47, 59, 36, 45, 43, 51, 22, 53, 39, 33, 30, 24, 18, 12, 5, 63, 55, 48, 27, 60, 41, 37, 16, 46, 35, 44, 21, 52, 32, 23, 11, 54, 26, 40, 15, 34, 20, 31, 10, 25, 14, 19, 9, 13, 8, 7, 6] := Lib.tabIs_of_head gTab1 gTabType1 Tryz.underlying218 Tryz.underlying5 cellsE1 cellsA1 h1
  have h2 := laid_tail h1
  have ht2 : Lib.TabIs Tryz.prog W "internal/strconv.uint64pow10" .u64 [1, 10, 100, 1000, 10000, 100000, 1000000, 10000000, 100000000, 1000000000, 10000000000, 100000000000, 1000000000000, 10000000000000, 100000000000000, 1000000000000000, 10000000000000000, 100000000000000000, 1000000000000000000, 10000000000000000000] := Lib.tabIs_of_head gTab2 gTabType2 Tryz.underlying210 Tryz.underlying28 cellsE2 cellsA2 h2
  have h3 := laid_tail h2
  have ht3 : Lib.TabIs Tryz.prog W "gusset/shapes.sides" .i64 [1, 2, 2, 0, 0, 1] := Go.Sx.tabIs_of_head2 (zss := [[1, 2], [2, 0], [0, 1]]) gTab3 gTabType3 Tryz.underlying118 Tryz.underlying22 Tryz.underlying3 (by kernel_rfl) (by kernel_rfl) (by kernel_rfl) h3
  simp only [globTabs, List.mem_cons, List.not_mem_nil, or_false, Prod.mk.injEq] at hm
  rcases hm with ⟨rfl, rfl, rfl⟩ | ⟨rfl, rfl, rfl⟩ | ⟨rfl, rfl, rfl⟩ | ⟨rfl, rfl, rfl⟩
  · refine ⟨by simp, fun j x hx => by rw [ht0.cell gTab0 j (List.getElem?_eq_some_iff.1 hx).1, List.getD_eq_getElem?_getD, hx]; rfl, ?_⟩
    exact tab_heap gTab0 ht0
  · refine ⟨by simp, fun j x hx => by rw [ht1.cell gTab1 j (List.getElem?_eq_some_iff.1 hx).1, List.getD_eq_getElem?_getD, hx]; rfl, ?_⟩
    exact tab_heap gTab1 ht1
  · refine ⟨by simp, fun j x hx => by rw [ht2.cell gTab2 j (List.getElem?_eq_some_iff.1 hx).1, List.getD_eq_getElem?_getD, hx]; rfl, ?_⟩
    exact tab_heap gTab2 ht2
  · refine ⟨by simp, fun j x hx => by rw [ht3.cell gTab3 j (List.getElem?_eq_some_iff.1 hx).1, List.getD_eq_getElem?_getD, hx]; rfl, ?_⟩
    exact tab_heap gTab3 ht3

/-- The contract, over values. -/
theorem called (a0 : Int) (a1 : Int) (w0 : (Lit.int .i64 a0).wf = true) (w1 : (Lit.int .i64 a1).wf = true) : CallOK Tryz.prog 8 [(iel .i64) a0, (iel .i64) a1] [] (.val (.bool true)) [] [] := law_ShapesMadeW a0 a1 w0 w1

theorem contract (H : Type) (enc : TypeId × Value → H) (W : World) (base : Nat) (args : Array Value) (ds gs : List (DataW H)) (before : List MemPlace)
    (hval : ∀ (j : Nat) t v, Tryz.f8.params[j]? = some t → args[j]? = some v → Value.okWide Tryz.prog W .any base t v)
    (hW : DataW.Whole enc Tryz.prog Tryz.f8.params.toList Rows.shapesMadeSpec.vars false W args.toList ds gs before) (hL : laidMetH Tryz.prog Rows.shapesMadeRow.laid W) :
    Calls Tryz.prog 8 args W fun e W' => ∃ v, e = .returned v ∧ Rows.shapesMadeSpec.post enc Tryz.prog Tryz.f8 false true false false W args v W' := by
  have hW' := hW
  obtain ⟨p, q, hA0, hV, rfl, hfz, hnd⟩ := hW
  have hA : DataW.TrodAll enc Tryz.prog W 0 (fun _ => true) true Tryz.f8.params.toList args.toList ds p := hA0
  rw [Tryz.params8] at hA hval
  obtain ⟨v0, vs0, d0, ds0, p0, q0, hargs, rfl, rfl, h0, r0⟩ := trodAll_cons hA
  obtain ⟨v1, vs1, d1, ds1, p1, q1, rfl, rfl, rfl, h1, r1⟩ := trodAll_cons r0
  obtain ⟨rfl, rfl, rfl⟩ := trodAll_nil r1
  obtain rfl : args = #[v0, v1] := by cases args; simp_all
  obtain ⟨rfl, rfl⟩ := trodVars_none hV
  have hg := table hL
  obtain ⟨n0, t0⟩ := h0
  obtain ⟨a0, w0, c0⟩ := (show Opens enc Tryz.prog hg 3 (iel .i64) (fun a => (Lit.int .i64 a).wf = true) from Opens.int Tryz.underlying3) _ _ _ t0
  have e0 : mkV ((iel .i64) a0) v0.cells.toList = v0 := by obtain ⟨_, rfl⟩ := okWide_int Tryz.underlying3 (hval 0 3 v0 rfl rfl); exact mkV_one rfl (by simp [Value.cells])
  obtain ⟨n1, t1⟩ := h1
  obtain ⟨a1, w1, c1⟩ := (show Opens enc Tryz.prog hg 3 (iel .i64) (fun a => (Lit.int .i64 a).wf = true) from Opens.int Tryz.underlying3) _ _ _ t1
  have e1 : mkV ((iel .i64) a1) v1.cells.toList = v1 := by obtain ⟨_, rfl⟩ := okWide_int Tryz.underlying3 (hval 1 3 v1 rfl rfl); exact mkV_one rfl (by simp [Value.cells])
  have hz : HasZ (allRho hg) [(iel .i64) a0, (iel .i64) a1] [v0.cells.toList, v1.cells.toList] := by simp only [HasZ]; exact ⟨_, _, rfl, c0, _, _, rfl, c1, rfl⟩
  have hr := law_runA ⟨Tryz.f8, Tryz.func8, rfl, by kernel_rfl⟩ (called a0 a1 w0 w1) hg hz
  simp only [List.zipWith_cons_cons, List.zipWith_nil_left, List.zipWith_nil_right, e0, e1] at hr
  refine hr.mono fun e W' ⟨he, hb⟩ => ?_
  subst he
  exact ⟨_, rfl, law_post laidOut params rfl rfl Tryz.underlying4 hW' ⟨rfl, rfl, rfl⟩ hb⟩

/-- A world for the witness: the settled one, the tables holding what their texts lay. -/
noncomputable def laidWorld (os : Os) : World :=
  { World.holding Tryz.prog os ⟨#[], #[], []⟩ with heap := ((World.holding Tryz.prog os ⟨#[], #[], []⟩).heap |>.modify 4 (fun | .cells _ t frozen => .cells #[.int .u8 0, .int .u8 1, .int .u8 28, .int .u8 2, .int .u8 29, .int .u8 14, .int .u8 24, .int .u8 3, .int .u8 30, .int .u8 22, .int .u8 20, .int .u8 15, .int .u8 25, .int .u8 17, .int .u8 4, .int .u8 8, .int .u8 31, .int .u8 27, .int .u8 13, .int .u8 23, .int .u8 21, .int .u8 19, .int .u8 16, .int .u8 7, .int .u8 26, .int .u8 12, .int .u8 18, .int .u8 6, .int .u8 11, .int .u8 5, .int .u8 10, .int .u8 9] t frozen | o => o) |>.modify 5 (fun | .cells _ t frozen => .cells #[.int .u8 0, .int .u8 1, .int .u8 56, .int .u8 2, .int .u8 57, .int .u8 49, .int .u8 28, .int .u8 3, .int .u8 61, .int .u8 58, .int .u8 42, .int .u8 50, .int .u8 38, .int .u8 29, .int .u8 17, .int .u8 4, .int .u8 62, .int .u8 47, .int .u8 59, .int .u8 36, .int .u8 45, .int .u8 43, .int .u8 51, .int .u8 22, .int .u8 53, .int .u8 39, .int .u8 33, .int .u8 30, .int .u8 24, .int .u8 18, .int .u8 12, .int .u8 5, .int .u8 63, .int .u8 55, .int .u8 48, .int .u8 27, .int .u8 60, .int .u8 41, .int .u8 37, .int .u8 16, .int .u8 46, .int .u8 35, .int .u8 44, .int .u8 21, .int .u8 52, .int .u8 32, .int .u8 23, .int .u8 11, .int .u8 54, .int .u8 26, .int .u8 40, .int .u8 15, .int .u8 34, .int .u8 20, .int .u8 31, .int .u8 10, .int .u8 25, .int .u8 14, .int .u8 19, .int .u8 9, .int .u8 13, .int .u8 8, .int .u8 7, .int .u8 6] t frozen | o => o) |>.modify 2 (fun | .cells _ t frozen => .cells #[.int .u64 1, .int .u64 10, .int .u64 100, .int .u64 1000, .int .u64 10000, .int .u64 100000, .int .u64 1000000, .int .u64 10000000, .int .u64 100000000, .int .u64 1000000000, .int .u64 10000000000, .int .u64 100000000000, .int .u64 1000000000000, .int .u64 10000000000000, .int .u64 100000000000000, .int .u64 1000000000000000, .int .u64 10000000000000000, .int .u64 100000000000000000, .int .u64 1000000000000000000, .int .u64 10000000000000000000] t frozen | o => o) |>.modify 0 (fun | .cells _ t frozen => .cells #[.int .i64 1, .int .i64 2, .int .i64 2, .int .i64 0, .int .i64 0, .int .i64 1] t frozen | o => o)) }
theorem laid_met (os : Os) : laidMet Tryz.prog Rows.shapesMadeRow.laid ((laidWorld os).forCall (fun _ _ => 0) ⟨#[], #[.int .i64 0, .int .i64 0], []⟩).memory :=
  laidMet_of_run' 8 (by kernel_rfl) (by kernel_rfl)
theorem reads (os : Os) {H : Type} (enc : TypeId × Value → H) : ∃ places, DataW.whole enc Tryz.prog ((laidWorld os).forCall (fun _ _ => 0) ⟨#[], #[.int .i64 0, .int .i64 0], []⟩).memory Tryz.f8.params.toList Rows.shapesMadeSpec.vars false #[.int .i64 0, .int .i64 0].toList 8 = some ([.lit (.int .i64 0), .lit (.int .i64 0)], [], places) :=
  ⟨[], by kernel_rfl⟩

theorem lifted (os : Os) (started : os.Started) (H : Type) (enc : TypeId × Value → H) (F : Stop.Interp) :
    ReturnsInHanded {} Tryz.checked os 8 .any ((OpenSpec.ofChange Rows.shapesMadeSpec).preRow enc Tryz.prog Tryz.f8 Rows.shapesMadeRow.domain false Rows.shapesMadeRow.laid) (((OpenSpec.ofChange Rows.shapesMadeSpec).at F).post enc Tryz.prog Tryz.f8 false true false false) := by
  obtain ⟨places, hx⟩ := reads os enc
  refine returnsInHanded_of_row (C := Tryz.checked) (s := OpenSpec.ofChange Rows.shapesMadeSpec) own started (by kernel_rfl) Tryz.func8
    (witness_row_at (enc := enc) (C := Tryz.checked) false (laidWorld os) #[.int .i64 0, .int .i64 0] rfl (by kernel_rfl) (by kernel_rfl) (by kernel_rfl)
      (OpenSpec.preRow_of_cond 8 hx (by kernel_rfl) (fun k hk => by cases hk) (by kernel_rfl) (laid_met os))) ?_
  intro W base args ds gs before hval hW _ _ _ hL _ _
  exact contract H enc W base args ds gs before hval hW hL

theorem said : Rows.ShapesMadeSaid :=
  OpenClaim.holds_of_cond 8 Tryz.f8 rfl rfl rfl rfl rfl rfl rfl ⟨rfl, rfl, rfl, rfl, rfl⟩ rfl rfl rfl rfl rfl (by kernel_rfl) Tryz.func8 (by kernel_rfl)
    (of_decide_eq_true (by kernel_rfl)) (by unfold Func.isWrapper; first | (rw [if_pos (by decide +kernel)]; kernel_rfl) | (rw [if_neg (by decide +kernel)]; exact ⟨rfl, rfl⟩))
    (fun os started H enc _ F => by rw [OpenClaim.pre_eq_preRow]; exact lifted os started H enc F)

/-- No parameter wants a stand-in; the program's own looks are off. -/
theorem plain (f : FuncId) (fn : Func) (hf : Tryz.pinned.checked.prog.funcNamed "gusset/gussetlaw34.ShapesMade" = some f) (hfn : Tryz.pinned.checked.prog.funcs[f]? = some fn) :
    false = Tryz.pinned.checked.prog.looks [] ∧ ∀ (j : Nat) t, fn.params[j]? = some t → Tryz.pinned.checked.prog.wantsStandIn t = false := by
  obtain rfl : f = 8 := Option.some.inj ((show Tryz.prog.funcNamed "gusset/gussetlaw34.ShapesMade" = some 8 by kernel_rfl).symm.trans hf) |>.symm
  obtain rfl : fn = Tryz.f8 := (Option.some.inj (Tryz.func8.symm.trans hfn)).symm
  refine ⟨by kernel_rfl, fun j t ht => ?_⟩
  have hall : (Tryz.f8.params.toList.all fun t => !Tryz.prog.wantsStandIn t) = true := by kernel_rfl
  have := List.all_eq_true.1 hall t (by simpa using Array.mem_of_getElem? ht)
  exact (show Tryz.prog.wantsStandIn t = false by simpa using this)

/-- The card. -/
theorem card : Rows.ShapesMadeCardSaid :=
  Claim7.holds_tied_plain_at .later [] _ _ _ _ said (fun _ h => by cases h) (by kernel_rfl) (fun _ h => by cases h) shapesMade_row_tie rfl ⟨rfl, rfl⟩ (by kernel_rfl) rfl plain (by kernel_rfl)
#print axioms card
end Go.Proofs.YtdcaodkjofkmgaaGreatDoor.shapesMade
