/- ShapesNodes returns true for every input and leaves its arguments as they were: the row, and the card that ties its tables to the program's text. -/
import Derived.Shelf.Strings.Builder1
import Derived.Shelf.Strings.Builder2
import Derived.Shelf.Strings.OnBuilder
import Derived.Shelf.Small.Bits
import Derived.Shelf.Strings.BuilderF
import Derived.Shelf.Strings.Builder2Cap
import Derived.Shelf.Strconv.Itoa0
import Derived.Shelf.Strconv.Itoa1
import Derived.Shelf.LaysM
import Derived.Shelf.Strconv.Itoa2
import Derived.Shelf.Strconv.Itoa3
import Derived.Shelf.Strings.Prefix
import Derived.Shelf.Bits.Mul64
import Derived.Shelf.Strings.Repeat
import Derived.Ground.Names2Prog
import Derived.Shelf.Slices.ReverseS
import Derived.Shelf.Slices.Cells
import Derived.Test.YtdcaodkjofkmgaaGreatDoorProg
import Derived.Lib.LaidTab
import Derived.WideShapes
import Derived.Test.YtdcaodkjofkmgaaGreatDoorCards
import Derived.Test.YtdcaodkjofkmgaaGreatDoorTie
import Derived.WalkKit
import Derived.ProofKit
import Derived.OpenShut
import Derived.Deep.DeepHandedRow
import Derived.Test.YtdcaodkjofkmgaaGreatDoorQLShapesNodes3
namespace Go.Proofs.YtdcaodkjofkmgaaGreatDoor
open Go.Sx
set_option linter.unusedSimpArgs false
set_option linter.unusedVariables false
set_option maxRecDepth 100000
set_option maxHeartbeats 4000000

/-- A power: three exponents, a coefficient. -/
structure Pw where
  i : Nat
  j : Nat
  k : Nat
  c : Rat
def Pw.sv (p : Pw) : SV := .agg [.val (.int .i64 (p.i : Nat)), .val (.int .i64 (p.j : Nat)), .val (.int .i64 (p.k : Nat)), .frac p.c]
def pw0 : Pw := ⟨0, 0, 0, 0⟩
def fb (s : Rat) : Blk := ⟨36, true, .one [.frac s]⟩
def lb (rc : Loop) : Blk := ⟨0, true, .loop rc⟩

section
variable {P : Program} {kl : Nat} {rc : Loop} {us : List Nat} {cap : List SV} {args : List SV} {hp : List (Nat × Blk)} {c : SV}
end
theorem fin2 {a b : Nat} {A B : Blk} {hp : List (Nat × Blk)} (ha : find hp a = some A) (hb : find hp b = some B) : ∀ k x, (k, x) ∈ [(a, A), (b, B)] → find hp k = some x := fun k x hm => by
  simp only [List.mem_cons, Prod.mk.injEq, List.not_mem_nil, or_false] at hm
  rcases hm with ⟨rfl, rfl⟩ | ⟨rfl, rfl⟩ <;> assumption

/-- An iterator over a list of powers, as a loop with one changing block wants it: the block's number goes through S. -/
def ItOK (f : FuncId) (icap : List SV) (l : List Pw) : Prop := ∀ (rc : Loop) (ts : List Nat) (cs : List SV) (S : Nat → Rat),
  (∀ i, i < l.length → YldOK Tryz.prog 5000 rc ts [ptrA cs, .ptr 5004 0 0 0] [(l.getD i pw0).sv] [(5000, lb rc), (5004, fb (S i))] (.val (.bool true)) [] [(5000, lb rc), (5004, fb (S (i + 1)))]) →
  CallOK Tryz.prog f (.yld 5000 rc ts [ptrA cs, .ptr 4 0 0 0] :: icap) [(5000, lb rc), (4, fb (S 0))] (.tup []) [] [(5000, lb rc), (4, fb (S l.length))]

theorem c_Values (l : List Pw) : CallOK Tryz.prog 38 [mvec 8 Pw.sv l] [] (.clo 68 [] [ptrA [mvec 8 Pw.sv l]]) [] [] := by
  refine callV (Z := [1]) tabOK mixedOK Tryz.func38 rfl (by kernel_rfl) rfl rfl (by kernel_rfl) rfl ?_
  intro W0 w0 ρ0 hE
  conv => whnf
  (repeat (first | (refine g_o (op_makeFunc rfl rfl rfl) ?_; conv => whnf)))
  exact Recast.refl _

theorem it_Values (l : List Pw) (hl : l.length < 1000) : ItOK 68 [ptrA [mvec 8 Pw.sv l]] l := by
  intro rc ts cs S hY
  refine callK (Z := []) tabOK mixedOK Tryz.func68 rfl (by kernel_rfl) (args := [.yld 5000 rc ts [ptrA cs, .ptr 5004 0 0 0], ptrA [mvec 8 Pw.sv l]]) (fk := [(5000, lb rc), (5004, fb (S 0))]) (c := .tup []) (new := []) (upd := [(5000, lb rc), (5004, fb (S l.length))]) (ShapeOK.of rfl rfl rfl rfl rfl rfl rfl rfl rfl rfl rfl) rfl (renBy [(5004, 4)]) (NamesOK.two (by decide)) ?_
  intro W0 w0 ρ0 hE
  conv => whnf
  (repeat (first | (refine g_o (op_lenM rfl rfl rfl (ev_ok rfl) (tgt rfl) rfl) ?_; conv => whnf) | (refine g_o (op_loadA rfl (ev_ok rfl) (tgt rfl) rfl (Nat.succ_ne_zero _) rfl) ?_; conv => whnf)))
  refine SW_loopN hE (fun k => k) [0, 5, 6, 7] [5000, 5004] (fun m fr hp => ∃ i, m = l.length - i ∧ i ≤ l.length ∧ fr = [(0, .yld 5000 rc ts [ptrA cs, .ptr 5004 0 0 0]), (5, mvec 8 Pw.sv l), (6, .val (.int .i64 (l.length : Nat))), (7, .val (.int .i64 (i : Nat)))] ∧
    hp = [(5000, lb rc), (5004, fb (S i))]) l.length ?_ ?_ ?_
  · kernel_rfl
  · exact ⟨0, rfl, Nat.zero_le _, rfl, rfl⟩
  rintro m _ _ ⟨i, rfl, hi, rfl, rfl⟩
  conv => whnf
  by_cases hlt : i < l.length
  · have t1 := dlt hlt
    have t2 := winc (i := i) (by omega)
    have hy := hY i hlt
    (repeat ((first | refine step_w1 rfl rfl ?_ | refine step_w2 rfl rfl ?_ | refine ⟨[_, _], _, [], [_, _], (by assumption), two_fk rfl rfl, nil_new, two_upd (List.mem_cons_self ..) rfl rfl rfl (List.mem_cons_of_mem _ (List.mem_cons_self ..)) rfl rfl rfl, ?_⟩ | refine g_o (op_loadA rfl (ev_ok rfl) (tgt rfl) rfl (Nat.succ_ne_zero _) rfl) ?_ | refine g_o (op_indexN (α := Pw) (d := pw0) rfl (ev_ok rfl) (ev_ok rfl) (tgt rfl) rfl (tgt rfl) rfl (by omega)) ?_ | rw [t1] | rw [t2]); conv => whnf))
    exact ⟨l.length - (i + 1), fun k => k, [0, 5, 6, 7], [5000, 5004], by omega, by kernel_rfl, i + 1, rfl, hlt, rfl, rfl⟩
  · have t1 := dge hlt
    have hI : i = l.length := by omega
    subst hI
    (repeat (first | (refine step_w2 rfl rfl ?_; conv => whnf) | (rw [t1]; conv => whnf)))
    exact ⟨Recast.refl _, (fun _ _ h => by cases h), fin2 rfl rfl⟩

def Pw.e (p : Pw) (b : Nat) : Nat := match b with
  | 0 => p.i
  | 1 => p.j
  | _ => p.k
def slopeP (b : Nat) (p : Pw) : Pw := match b with
  | 0 => ⟨p.i - 1, p.j, p.k, p.c * (((p.i : Nat) : Int) : Rat)⟩
  | 1 => ⟨p.i, p.j - 1, p.k, p.c * (((p.j : Nat) : Int) : Rat)⟩
  | _ => ⟨p.i, p.j, p.k - 1, p.c * (((p.k : Nat) : Int) : Rat)⟩
def slopeL (b : Nat) (l : List Pw) : List Pw := (l.filter fun p => p.e b != 0).map (slopeP b)
theorem slopeL_snoc (b : Nat) (l : List Pw) (p : Pw) : slopeL b (l ++ [p]) = if p.e b = 0 then slopeL b l else slopeL b l ++ [slopeP b p] := by
  unfold slopeL
  rw [List.filter_append, List.map_append]
  by_cases h : p.e b = 0
  · rw [if_pos h]; simp [h]
  · rw [if_neg h]; simp [h]
theorem take_snocP (l : List Pw) (i : Nat) (hi : i < l.length) : l.take (i + 1) = l.take i ++ [l.getD i pw0] := by rw [List.take_add_one, List.getD_eq_getElem?_getD, List.getElem?_eq_getElem hi]; rfl
theorem slopeL_take (b : Nat) (l : List Pw) (i : Nat) (hi : i < l.length) : slopeL b (l.take (i + 1)) = if (l.getD i pw0).e b = 0 then slopeL b (l.take i) else slopeL b (l.take i) ++ [slopeP b (l.getD i pw0)] := by
  rw [take_snocP l i hi, slopeL_snoc]
/-- Where a power that stays lies in the derivative's list. -/
theorem slopeL_at (b : Nat) (l : List Pw) (i : Nat) (hi : i < l.length) (h : (l.getD i pw0).e b ≠ 0) : (slopeL b (l.take i)).length < (slopeL b l).length ∧ (slopeL b l).getD (slopeL b (l.take i)).length pw0 = slopeP b (l.getD i pw0) := by
  have h1 := slopeL_take b l i hi
  rw [if_neg h] at h1
  have h2 : slopeL b l = slopeL b (l.take (i + 1)) ++ slopeL b (l.drop (i + 1)) := by
    unfold slopeL
    rw [← List.map_append, ← List.filter_append, List.take_append_drop]
  rw [h1] at h2
  rw [h2]
  refine ⟨by simp, ?_⟩
  rw [List.append_assoc, List.getD_eq_getElem?_getD, List.getElem?_append_right (Nat.le_refl _), Nat.sub_self]
  rfl

theorem c_slope (l : List Pw) (b : Int) : CallOK Tryz.prog 39 [mvec 8 Pw.sv l, .val (.int .i64 b)] [] (.clo 69 [] [ptrA [mvec 8 Pw.sv l], ptrA [.val (.int .i64 b)]]) [] [] := by
  refine callV (Z := [2, 3]) tabOK mixedOK Tryz.func39 rfl (by kernel_rfl) rfl rfl (by kernel_rfl) rfl ?_
  intro W0 w0 ρ0 hE
  conv => whnf
  (repeat (first | (refine g_o (op_makeFunc rfl rfl rfl) ?_; conv => whnf)))
  exact Recast.refl _

/-- What is asked of a power: small exponents, a small coefficient. -/
def Pw.ok (p : Pw) : Prop := p.i ≤ 100 ∧ p.j ≤ 100 ∧ p.k ≤ 100 ∧ fs p.c ≤ 1000
theorem wdec {n : Nat} (h : n ≠ 0) (h2 : n ≤ 1000) : IntKind.i64.wrap ((n : Int) - 1) = ((n - 1 : Nat) : Int) := by rw [wrap_i64 (by omega) (by omega)]; omega
theorem it_slope0 (l : List Pw) (hl : l.length < 1000) (hL : ∀ p ∈ l, p.ok) : ItOK 69 [ptrA [mvec 8 Pw.sv l], ptrA [.val (.int .i64 0)]] (slopeL 0 l) := by
  intro rc ts cs S hY
  refine callK (Z := []) tabOK mixedOK Tryz.func69 rfl (by kernel_rfl) (args := [.yld 5000 rc ts [ptrA cs, .ptr 5004 0 0 0], ptrA [mvec 8 Pw.sv l], ptrA [.val (.int .i64 0)]]) (fk := [(5000, lb rc), (5004, fb (S 0))]) (c := .tup []) (new := []) (upd := [(5000, lb rc), (5004, fb (S (slopeL 0 l).length))]) (ShapeOK.of rfl rfl rfl rfl rfl rfl rfl rfl rfl rfl rfl) rfl (renBy [(5004, 4)]) (NamesOK.two (by decide)) ?_
  intro W0 w0 ρ0 hE
  conv => whnf
  (repeat (first | (refine g_o (op_lenM rfl rfl rfl (ev_ok rfl) (tgt rfl) rfl) ?_; conv => whnf) | (refine g_o (op_loadA rfl (ev_ok rfl) (tgt rfl) rfl (Nat.succ_ne_zero _) rfl) ?_; conv => whnf)))
  refine SW_loopN hE (fun k => k) [0, 2, 8, 9, 10] [5000, 5004] (fun m fr hp => ∃ i, m = l.length - i ∧ i ≤ l.length ∧ fr = [(0, .yld 5000 rc ts [ptrA cs, .ptr 5004 0 0 0]), (2, ptrA [.val (.int .i64 0)]), (8, mvec 8 Pw.sv l), (9, .val (.int .i64 (l.length : Nat))), (10, .val (.int .i64 (i : Nat)))] ∧
    hp = [(5000, lb rc), (5004, fb (S (slopeL 0 (l.take i)).length))]) l.length ?_ ?_ ?_
  · kernel_rfl
  · exact ⟨0, rfl, Nat.zero_le _, rfl, rfl⟩
  rintro m _ _ ⟨i, rfl, hi, rfl, rfl⟩
  conv => whnf
  by_cases hlt : i < l.length
  · have t1 := dlt hlt
    have t2 := winc (i := i) (by omega)
    have hok := hL (l.getD i pw0) (by rw [List.getD_eq_getElem?_getD, List.getElem?_eq_getElem hlt]; exact List.getElem_mem hlt)
    have ht := slopeL_take 0 l i hlt
    by_cases he : (l.getD i pw0).e 0 = 0
    · have t3 : ((((l.getD i pw0).i : Nat) : Int) == 0) = true := by rw [show (l.getD i pw0).i = 0 from he]; rfl
      rw [if_pos he] at ht
      (repeat ((first | refine step_w1 rfl rfl ?_ | refine And.intro (by first | decide | omega | (simp only [tiB5, tiB23, tiB3, tiB2, tiB9, tiB36, tiB54, tiB121, tiB34, tiB28, tiB4, tiB50, tiB52, dlen, List.length_replicate, List.length_set, List.length_map, List.length_zipWith, List.length_take, List.length_append, List.length_cons, List.length_nil]; omega)) ?_ | refine g_o (op_loadA rfl (ev_ok rfl) (tgt rfl) rfl (Nat.succ_ne_zero _) rfl) ?_ | refine g_o (op_indexN (α := Pw) (d := pw0) rfl (ev_ok rfl) (ev_ok rfl) (tgt rfl) rfl (tgt rfl) rfl (by omega)) ?_ | rw [t1] | rw [t2] | rw [t3] | rw [Nat.zero_add]); conv => whnf))
      exact ⟨l.length - (i + 1), fun k => k, [0, 2, 8, 9, 10], [5000, 5004], by omega, by kernel_rfl, i + 1, rfl, hlt, rfl, by rw [ht]; rfl⟩
    · have he' : (l.getD i pw0).i ≠ 0 := he
      have t3 : ((((l.getD i pw0).i : Nat) : Int) == 0) = false := beq_false_of_ne (by omega)
      rw [if_neg he] at ht
      obtain ⟨hp1, hp2⟩ := slopeL_at 0 l i hlt he
      have hy := hY _ hp1
      rw [hp2] at hy
      have t4 := wdec he' (by have := hok.1; have := hok.2.1; have := hok.2.2.1; omega)
      have t5 : IntKind.i64.wrap (((l.getD i pw0).i : Nat) : Int) = (((l.getD i pw0).i : Nat) : Int) := wrap_i64 (by have := hok.1; have := hok.2.1; have := hok.2.2.1; omega) (by have := hok.1; have := hok.2.1; have := hok.2.2.1; omega)
      have k1 := c_fInt (((l.getD i pw0).i : Nat) : Int) (by have := hok.1; have := hok.2.1; have := hok.2.2.1; omega) (by have := hok.1; have := hok.2.1; have := hok.2.2.1; omega)
      have k2 := f_Mul (l.getD i pw0).c ((((l.getD i pw0).i : Nat) : Int) : Rat) (by
        have h1 := hok.2.2.2
        have h2 := fs_int (n := (((l.getD i pw0).i : Nat) : Int)) (by omega) (by have := hok.1; have := hok.2.1; have := hok.2.2.1; omega)
        omega)
      (repeat ((first | refine step_w1 rfl rfl ?_ | refine step_w2 rfl rfl ?_ | refine step_i (by kernel_rfl) ?_ | refine And.intro (by first | decide | omega | (simp only [tiB5, tiB23, tiB3, tiB2, tiB9, tiB36, tiB54, tiB121, tiB34, tiB28, tiB4, tiB50, tiB52, dlen, List.length_replicate, List.length_set, List.length_map, List.length_zipWith, List.length_take, List.length_append, List.length_cons, List.length_nil]; omega)) ?_ | refine g_c (by assumption) ?_ | refine ⟨[_, _], _, [], [_, _], (by assumption), two_fk rfl rfl, nil_new, two_upd (List.mem_cons_self ..) rfl rfl rfl (List.mem_cons_of_mem _ (List.mem_cons_self ..)) rfl rfl rfl, ?_⟩ | refine g_o (op_loadA rfl (ev_ok rfl) (tgt rfl) rfl (Nat.succ_ne_zero _) rfl) ?_ | refine g_o (op_indexN (α := Pw) (d := pw0) rfl (ev_ok rfl) (ev_ok rfl) (tgt rfl) rfl (tgt rfl) rfl (by omega)) ?_ | rw [t1] | rw [t2] | rw [t3] | rw [t4] | rw [Nat.zero_add]); conv => whnf))
      exact ⟨l.length - (i + 1), fun k => k, [0, 2, 8, 9, 10], [5000, 5004], by omega, by kernel_rfl, i + 1, rfl, hlt, rfl, by rw [ht, List.length_append]; rfl⟩
  · have t1 := dge hlt
    have hI : i = l.length := by omega
    subst hI
    rw [List.take_length]
    (repeat (first | (refine step_w2 rfl rfl ?_; conv => whnf) | (rw [t1]; conv => whnf)))
    exact ⟨Recast.refl _, (fun _ _ h => by cases h), fin2 rfl rfl⟩
theorem it_slope1 (l : List Pw) (hl : l.length < 1000) (hL : ∀ p ∈ l, p.ok) : ItOK 69 [ptrA [mvec 8 Pw.sv l], ptrA [.val (.int .i64 1)]] (slopeL 1 l) := by
  intro rc ts cs S hY
  refine callK (Z := []) tabOK mixedOK Tryz.func69 rfl (by kernel_rfl) (args := [.yld 5000 rc ts [ptrA cs, .ptr 5004 0 0 0], ptrA [mvec 8 Pw.sv l], ptrA [.val (.int .i64 1)]]) (fk := [(5000, lb rc), (5004, fb (S 0))]) (c := .tup []) (new := []) (upd := [(5000, lb rc), (5004, fb (S (slopeL 1 l).length))]) (ShapeOK.of rfl rfl rfl rfl rfl rfl rfl rfl rfl rfl rfl) rfl (renBy [(5004, 4)]) (NamesOK.two (by decide)) ?_
  intro W0 w0 ρ0 hE
  conv => whnf
  (repeat (first | (refine g_o (op_lenM rfl rfl rfl (ev_ok rfl) (tgt rfl) rfl) ?_; conv => whnf) | (refine g_o (op_loadA rfl (ev_ok rfl) (tgt rfl) rfl (Nat.succ_ne_zero _) rfl) ?_; conv => whnf)))
  refine SW_loopN hE (fun k => k) [0, 2, 8, 9, 10] [5000, 5004] (fun m fr hp => ∃ i, m = l.length - i ∧ i ≤ l.length ∧ fr = [(0, .yld 5000 rc ts [ptrA cs, .ptr 5004 0 0 0]), (2, ptrA [.val (.int .i64 1)]), (8, mvec 8 Pw.sv l), (9, .val (.int .i64 (l.length : Nat))), (10, .val (.int .i64 (i : Nat)))] ∧
    hp = [(5000, lb rc), (5004, fb (S (slopeL 1 (l.take i)).length))]) l.length ?_ ?_ ?_
  · kernel_rfl
  · exact ⟨0, rfl, Nat.zero_le _, rfl, rfl⟩
  rintro m _ _ ⟨i, rfl, hi, rfl, rfl⟩
  conv => whnf
  by_cases hlt : i < l.length
  · have t1 := dlt hlt
    have t2 := winc (i := i) (by omega)
    have hok := hL (l.getD i pw0) (by rw [List.getD_eq_getElem?_getD, List.getElem?_eq_getElem hlt]; exact List.getElem_mem hlt)
    have ht := slopeL_take 1 l i hlt
    by_cases he : (l.getD i pw0).e 1 = 0
    · have t3 : ((((l.getD i pw0).j : Nat) : Int) == 0) = true := by rw [show (l.getD i pw0).j = 0 from he]; rfl
      rw [if_pos he] at ht
      (repeat ((first | refine step_w1 rfl rfl ?_ | refine And.intro (by first | decide | omega | (simp only [tiB5, tiB23, tiB3, tiB2, tiB9, tiB36, tiB54, tiB121, tiB34, tiB28, tiB4, tiB50, tiB52, dlen, List.length_replicate, List.length_set, List.length_map, List.length_zipWith, List.length_take, List.length_append, List.length_cons, List.length_nil]; omega)) ?_ | refine g_o (op_loadA rfl (ev_ok rfl) (tgt rfl) rfl (Nat.succ_ne_zero _) rfl) ?_ | refine g_o (op_indexN (α := Pw) (d := pw0) rfl (ev_ok rfl) (ev_ok rfl) (tgt rfl) rfl (tgt rfl) rfl (by omega)) ?_ | rw [t1] | rw [t2] | rw [t3] | rw [Nat.zero_add]); conv => whnf))
      exact ⟨l.length - (i + 1), fun k => k, [0, 2, 8, 9, 10], [5000, 5004], by omega, by kernel_rfl, i + 1, rfl, hlt, rfl, by rw [ht]; rfl⟩
    · have he' : (l.getD i pw0).j ≠ 0 := he
      have t3 : ((((l.getD i pw0).j : Nat) : Int) == 0) = false := beq_false_of_ne (by omega)
      rw [if_neg he] at ht
      obtain ⟨hp1, hp2⟩ := slopeL_at 1 l i hlt he
      have hy := hY _ hp1
      rw [hp2] at hy
      have t4 := wdec he' (by have := hok.1; have := hok.2.1; have := hok.2.2.1; omega)
      have t5 : IntKind.i64.wrap (((l.getD i pw0).j : Nat) : Int) = (((l.getD i pw0).j : Nat) : Int) := wrap_i64 (by have := hok.1; have := hok.2.1; have := hok.2.2.1; omega) (by have := hok.1; have := hok.2.1; have := hok.2.2.1; omega)
      have k1 := c_fInt (((l.getD i pw0).j : Nat) : Int) (by have := hok.1; have := hok.2.1; have := hok.2.2.1; omega) (by have := hok.1; have := hok.2.1; have := hok.2.2.1; omega)
      have k2 := f_Mul (l.getD i pw0).c ((((l.getD i pw0).j : Nat) : Int) : Rat) (by
        have h1 := hok.2.2.2
        have h2 := fs_int (n := (((l.getD i pw0).j : Nat) : Int)) (by omega) (by have := hok.1; have := hok.2.1; have := hok.2.2.1; omega)
        omega)
      (repeat ((first | refine step_w1 rfl rfl ?_ | refine step_w2 rfl rfl ?_ | refine step_i (by kernel_rfl) ?_ | refine And.intro (by first | decide | omega | (simp only [tiB5, tiB23, tiB3, tiB2, tiB9, tiB36, tiB54, tiB121, tiB34, tiB28, tiB4, tiB50, tiB52, dlen, List.length_replicate, List.length_set, List.length_map, List.length_zipWith, List.length_take, List.length_append, List.length_cons, List.length_nil]; omega)) ?_ | refine g_c (by assumption) ?_ | refine ⟨[_, _], _, [], [_, _], (by assumption), two_fk rfl rfl, nil_new, two_upd (List.mem_cons_self ..) rfl rfl rfl (List.mem_cons_of_mem _ (List.mem_cons_self ..)) rfl rfl rfl, ?_⟩ | refine g_o (op_loadA rfl (ev_ok rfl) (tgt rfl) rfl (Nat.succ_ne_zero _) rfl) ?_ | refine g_o (op_indexN (α := Pw) (d := pw0) rfl (ev_ok rfl) (ev_ok rfl) (tgt rfl) rfl (tgt rfl) rfl (by omega)) ?_ | rw [t1] | rw [t2] | rw [t3] | rw [t4] | rw [Nat.zero_add]); conv => whnf))
      exact ⟨l.length - (i + 1), fun k => k, [0, 2, 8, 9, 10], [5000, 5004], by omega, by kernel_rfl, i + 1, rfl, hlt, rfl, by rw [ht, List.length_append]; rfl⟩
  · have t1 := dge hlt
    have hI : i = l.length := by omega
    subst hI
    rw [List.take_length]
    (repeat (first | (refine step_w2 rfl rfl ?_; conv => whnf) | (rw [t1]; conv => whnf)))
    exact ⟨Recast.refl _, (fun _ _ h => by cases h), fin2 rfl rfl⟩
theorem it_slope2 (l : List Pw) (hl : l.length < 1000) (hL : ∀ p ∈ l, p.ok) : ItOK 69 [ptrA [mvec 8 Pw.sv l], ptrA [.val (.int .i64 2)]] (slopeL 2 l) := by
  intro rc ts cs S hY
  refine callK (Z := []) tabOK mixedOK Tryz.func69 rfl (by kernel_rfl) (args := [.yld 5000 rc ts [ptrA cs, .ptr 5004 0 0 0], ptrA [mvec 8 Pw.sv l], ptrA [.val (.int .i64 2)]]) (fk := [(5000, lb rc), (5004, fb (S 0))]) (c := .tup []) (new := []) (upd := [(5000, lb rc), (5004, fb (S (slopeL 2 l).length))]) (ShapeOK.of rfl rfl rfl rfl rfl rfl rfl rfl rfl rfl rfl) rfl (renBy [(5004, 4)]) (NamesOK.two (by decide)) ?_
  intro W0 w0 ρ0 hE
  conv => whnf
  (repeat (first | (refine g_o (op_lenM rfl rfl rfl (ev_ok rfl) (tgt rfl) rfl) ?_; conv => whnf) | (refine g_o (op_loadA rfl (ev_ok rfl) (tgt rfl) rfl (Nat.succ_ne_zero _) rfl) ?_; conv => whnf)))
  refine SW_loopN hE (fun k => k) [0, 2, 8, 9, 10] [5000, 5004] (fun m fr hp => ∃ i, m = l.length - i ∧ i ≤ l.length ∧ fr = [(0, .yld 5000 rc ts [ptrA cs, .ptr 5004 0 0 0]), (2, ptrA [.val (.int .i64 2)]), (8, mvec 8 Pw.sv l), (9, .val (.int .i64 (l.length : Nat))), (10, .val (.int .i64 (i : Nat)))] ∧
    hp = [(5000, lb rc), (5004, fb (S (slopeL 2 (l.take i)).length))]) l.length ?_ ?_ ?_
  · kernel_rfl
  · exact ⟨0, rfl, Nat.zero_le _, rfl, rfl⟩
  rintro m _ _ ⟨i, rfl, hi, rfl, rfl⟩
  conv => whnf
  by_cases hlt : i < l.length
  · have t1 := dlt hlt
    have t2 := winc (i := i) (by omega)
    have hok := hL (l.getD i pw0) (by rw [List.getD_eq_getElem?_getD, List.getElem?_eq_getElem hlt]; exact List.getElem_mem hlt)
    have ht := slopeL_take 2 l i hlt
    by_cases he : (l.getD i pw0).e 2 = 0
    · have t3 : ((((l.getD i pw0).k : Nat) : Int) == 0) = true := by rw [show (l.getD i pw0).k = 0 from he]; rfl
      rw [if_pos he] at ht
      (repeat ((first | refine step_w1 rfl rfl ?_ | refine And.intro (by first | decide | omega | (simp only [tiB5, tiB23, tiB3, tiB2, tiB9, tiB36, tiB54, tiB121, tiB34, tiB28, tiB4, tiB50, tiB52, dlen, List.length_replicate, List.length_set, List.length_map, List.length_zipWith, List.length_take, List.length_append, List.length_cons, List.length_nil]; omega)) ?_ | refine g_o (op_loadA rfl (ev_ok rfl) (tgt rfl) rfl (Nat.succ_ne_zero _) rfl) ?_ | refine g_o (op_indexN (α := Pw) (d := pw0) rfl (ev_ok rfl) (ev_ok rfl) (tgt rfl) rfl (tgt rfl) rfl (by omega)) ?_ | rw [t1] | rw [t2] | rw [t3] | rw [Nat.zero_add]); conv => whnf))
      exact ⟨l.length - (i + 1), fun k => k, [0, 2, 8, 9, 10], [5000, 5004], by omega, by kernel_rfl, i + 1, rfl, hlt, rfl, by rw [ht]; rfl⟩
    · have he' : (l.getD i pw0).k ≠ 0 := he
      have t3 : ((((l.getD i pw0).k : Nat) : Int) == 0) = false := beq_false_of_ne (by omega)
      rw [if_neg he] at ht
      obtain ⟨hp1, hp2⟩ := slopeL_at 2 l i hlt he
      have hy := hY _ hp1
      rw [hp2] at hy
      have t4 := wdec he' (by have := hok.1; have := hok.2.1; have := hok.2.2.1; omega)
      have t5 : IntKind.i64.wrap (((l.getD i pw0).k : Nat) : Int) = (((l.getD i pw0).k : Nat) : Int) := wrap_i64 (by have := hok.1; have := hok.2.1; have := hok.2.2.1; omega) (by have := hok.1; have := hok.2.1; have := hok.2.2.1; omega)
      have k1 := c_fInt (((l.getD i pw0).k : Nat) : Int) (by have := hok.1; have := hok.2.1; have := hok.2.2.1; omega) (by have := hok.1; have := hok.2.1; have := hok.2.2.1; omega)
      have k2 := f_Mul (l.getD i pw0).c ((((l.getD i pw0).k : Nat) : Int) : Rat) (by
        have h1 := hok.2.2.2
        have h2 := fs_int (n := (((l.getD i pw0).k : Nat) : Int)) (by omega) (by have := hok.1; have := hok.2.1; have := hok.2.2.1; omega)
        omega)
      (repeat ((first | refine step_w1 rfl rfl ?_ | refine step_w2 rfl rfl ?_ | refine step_i (by kernel_rfl) ?_ | refine And.intro (by first | decide | omega | (simp only [tiB5, tiB23, tiB3, tiB2, tiB9, tiB36, tiB54, tiB121, tiB34, tiB28, tiB4, tiB50, tiB52, dlen, List.length_replicate, List.length_set, List.length_map, List.length_zipWith, List.length_take, List.length_append, List.length_cons, List.length_nil]; omega)) ?_ | refine g_c (by assumption) ?_ | refine ⟨[_, _], _, [], [_, _], (by assumption), two_fk rfl rfl, nil_new, two_upd (List.mem_cons_self ..) rfl rfl rfl (List.mem_cons_of_mem _ (List.mem_cons_self ..)) rfl rfl rfl, ?_⟩ | refine g_o (op_loadA rfl (ev_ok rfl) (tgt rfl) rfl (Nat.succ_ne_zero _) rfl) ?_ | refine g_o (op_indexN (α := Pw) (d := pw0) rfl (ev_ok rfl) (ev_ok rfl) (tgt rfl) rfl (tgt rfl) rfl (by omega)) ?_ | rw [t1] | rw [t2] | rw [t3] | rw [t4] | rw [Nat.zero_add]); conv => whnf))
      exact ⟨l.length - (i + 1), fun k => k, [0, 2, 8, 9, 10], [5000, 5004], by omega, by kernel_rfl, i + 1, rfl, hlt, rfl, by rw [ht, List.length_append]; rfl⟩
  · have t1 := dge hlt
    have hI : i = l.length := by omega
    subst hI
    rw [List.take_length]
    (repeat (first | (refine step_w2 rfl rfl ?_; conv => whnf) | (rw [t1]; conv => whnf)))
    exact ⟨Recast.refl _, (fun _ _ h => by cases h), fin2 rfl rfl⟩
end Go.Proofs.YtdcaodkjofkmgaaGreatDoor

namespace Go.Proofs.YtdcaodkjofkmgaaGreatDoor
open Go.Sx
set_option linter.unusedSimpArgs false
set_option linter.unusedVariables false
set_option maxRecDepth 100000
set_option maxHeartbeats 4000000

/-- v times x, n times. -/
def pwr (v x : Rat) : Nat → Rat
  | 0 => v
  | n + 1 => pwr v x n * x
def monoF (p : Pw) (a b c : Rat) : Rat := pwr (pwr (pwr p.c a p.i) b p.j) c p.k
def atF (l : List Pw) (a b c : Rat) : Rat := l.foldl (fun s p => s + monoF p a b c) 0
theorem fs_pwr (v x : Rat) : ∀ n, fs (pwr v x n) ≤ fs v + n * fs x
  | 0 => by simp [pwr]
  | n + 1 => by
    have h1 := fs_pwr v x n
    have h2 := fs_mul (pwr v x n) x
    rw [pwr, Nat.succ_mul]; omega
theorem fs_pwrB {v x : Rat} {n V B : Nat} (hv : fs v ≤ V) (hx : fs x ≤ B) (hn : n ≤ 100) : fs (pwr v x n) ≤ V + 100 * B := by
  have h1 := fs_pwr v x n
  have h2 := Nat.mul_le_mul hn hx
  omega
theorem fs_mono {p : Pw} (hp : p.ok) {a b c : Rat} {B : Nat} (ha : fs a ≤ B) (hb : fs b ≤ B) (hc : fs c ≤ B) : fs (monoF p a b c) ≤ 1000 + 300 * B := by
  have h1 := fs_pwrB hp.2.2.2 ha hp.1
  have h2 := fs_pwrB h1 hb hp.2.1
  have h3 := fs_pwrB h2 hc hp.2.2.1
  unfold monoF; omega
theorem fs_at {a b c : Rat} {B : Nat} (ha : fs a ≤ B) (hb : fs b ≤ B) (hc : fs c ≤ B) : ∀ (l : List Pw) (s : Rat), (∀ p ∈ l, p.ok) → fs (l.foldl (fun s p => s + monoF p a b c) s) ≤ fs s + l.length * (1000 + 300 * B)
  | [], s, _ => by simp
  | p :: l, s, h => by
    have h1 := fs_at ha hb hc l (s + monoF p a b c) (fun q hq => h q (List.mem_cons_of_mem _ hq))
    have h2 := fs_mono (h p (List.mem_cons_self ..)) ha hb hc
    have h3 := fs_add s (monoF p a b c)
    rw [List.foldl_cons, List.length_cons, Nat.succ_mul]; omega
theorem foldP (f : Rat → Pw → Rat) (l : List Pw) (i : Nat) (hi : i < l.length) (s : Rat) : (l.take (i + 1)).foldl f s = f ((l.take i).foldl f s) (l.getD i pw0) := by
  rw [take_snocP l i hi, List.foldl_append]; rfl
theorem getP_mem {l : List Pw} {i : Nat} (hi : i < l.length) : l.getD i pw0 ∈ l := by
  rw [List.getD_eq_getElem?_getD, List.getElem?_eq_getElem hi]; exact List.getElem_mem hi

/-- The number of a power's exponents. -/
theorem two_up {A B : Blk} {A' B' : Blk} {a b : Nat} (w : A.wr = true ∧ A.data.live = true ∧ A'.wr = true) : ∀ j x, (j, x) ∈ [(a, A')] → ∃ b0, (j, b0) ∈ [(a, A)] ∧ b0.wr = true ∧ b0.data.live = true ∧ x.wr = true := fun j x hm => by
  simp only [List.mem_singleton, Prod.mk.injEq] at hm
  obtain ⟨rfl, rfl⟩ := hm
  exact ⟨A, List.mem_cons_self .., w.1, w.2.1, w.2.2⟩
theorem one_lv {A : Blk} {a : Nat} (w : A.data.live = true ∧ keylessD A.data = true) : ∀ j x, (j, x) ∈ [(a, A)] → x.data.live = true ∧ keylessD x.data = true := fun j x hm => by
  simp only [List.mem_singleton, Prod.mk.injEq] at hm
  obtain ⟨rfl, rfl⟩ := hm
  exact w
theorem RoundOK.one {x : SV} {cap : List SV} {k : Nat} {s t : Rat} (px : passable x = true) (pc : cap.all passable = true) (rx : subN (refs x) [k] = true) (rc : subN (refsL cap) [k] = true) : RoundOK x cap [(k, fb s)] [(k, fb t)] :=
  ⟨px, pc, rfl, rx, rc, rfl, (fun q b hm => by simp only [List.mem_singleton, Prod.mk.injEq] at hm; obtain ⟨rfl, rfl⟩ := hm; rfl),
   (fun q b hm => by simp only [List.mem_singleton, Prod.mk.injEq] at hm; obtain ⟨rfl, rfl⟩ := hm; exact ⟨_, List.mem_cons_self .., rfl, rfl, rfl, rfl, rfl⟩),
   (fun q b hm _ _ => by simp only [List.mem_singleton, Prod.mk.injEq] at hm; obtain ⟨rfl, rfl⟩ := hm; exact ⟨_, List.mem_cons_self ..⟩)⟩

theorem c_atV (l : List Pw) (hl : l.length ≤ 10) (hL : ∀ p ∈ l, p.ok) (v : List SV) (a b c : Rat) (B : Nat) (hB : B ≤ 100000) (ha : fs a ≤ B) (hb : fs b ≤ B) (hc : fs c ≤ B) (hI : ItOK 68 [ptrA v] l) :
    CallOK Tryz.prog 37 [.clo 68 [] [ptrA v], .agg [.frac a, .frac b, .frac c]] [] (.frac (atF l a b c)) [] [] := by
  refine callV (Z := [3]) tabOK mixedOK Tryz.func37 rfl (by kernel_rfl) rfl rfl (by kernel_rfl) rfl ?_
  intro W0 w0 ρ0 hE
  conv => whnf
  skip
  refine SWx_range 5000 [3, 4] [ptrA [.frac a, .frac b, .frac c], .ptr 4 0 0 0] [(4, fb ((l.take 0).foldl (fun s p => s + monoF p a b c) 0))] [(4, fb ((l.take l.length).foldl (fun s p => s + monoF p a b c) 0))] (cc := .tup []) [9, 3, 4] rfl (fun _ h => by cases h) rfl ⟨_, rfl, by kernel_rfl, rfl⟩ (fun rc r1 r2 r3 r4 r5 r6 => ?_) rfl (one_fk rfl) (two_up (B := fb 0) (B' := fb 0) (b := 0) ⟨rfl, rfl, rfl⟩) (one_lv ⟨rfl, rfl⟩) ?_
  · refine hI rc [3, 4] [.frac a, .frac b, .frac c] (fun i => (l.take i).foldl (fun s p => s + monoF p a b c) 0) (fun i hi => ?_)
    have hp := hL _ (getP_mem hi)
    have hs := fs_at ha hb hc (l.take i) 0 (fun p hp => hL p (List.mem_of_mem_take hp))
    have hs2 : (l.take i).length * (1000 + 300 * B) ≤ 10 * (1000 + 300 * B) := Nat.mul_le_mul_right _ (by rw [List.length_take]; omega)
    rw [fs_zero] at hs
    rw [foldP _ l i hi]
    generalize (l.take i).foldl (fun s p => s + monoF p a b c) 0 = s at *
    generalize l.getD i pw0 = p at *
    clear hI hL
    refine yldK (Z := []) tabOK mixedOK r1 r2 r3 r4 r5 r6 (Nat.le_of_ble_eq_true (by kernel_rfl)) (RoundOK.one rfl rfl rfl rfl) ?_
    intro W0 w0 ρ0 lp hE
    conv => whnf
    refine ⟨rfl, fun w1 hE _ _ => ?_⟩
    conv => whnf
    (repeat (first | (rw [Nat.zero_add]; conv => whnf)))
    refine SW_loopN hE (fun k => k) [3, 4, 6, 19, 20] [5004, 6] (fun m fr hp => ∃ r V, m = 3 - r ∧ r ≤ 3 ∧ V = (match r with | 0 => p.c | 1 => pwr p.c a p.i | 2 => pwr (pwr p.c a p.i) b p.j | _ => monoF p a b c) ∧ fr = [(3, ptrA [.frac a, .frac b, .frac c]), (4, .ptr 5004 0 0 0), (6, .ptr 6 0 0 0), (19, .agg [.val (.int .i64 (p.i : Nat)), .val (.int .i64 (p.j : Nat)), .val (.int .i64 (p.k : Nat))]), (20, .val (.int .i64 (r : Nat)))] ∧
      hp = [(5004, fb s), (6, fb V)]) 3 ?_ ?_ ?_
    · kernel_rfl
    · exact ⟨0, _, rfl, Nat.zero_le _, rfl, rfl, rfl⟩
    rintro m _ _ ⟨r, V, rfl, hr, hVe, rfl, rfl⟩
    obtain rfl | rfl | rfl | rfl : r = 0 ∨ r = 1 ∨ r = 2 ∨ r = 3 := by omega
    · have hV : fs V ≤ 1000 := by rw [hVe]; exact hp.2.2.2
      conv => whnf
      have t0 : decide (((0 : Nat) : Int) < 3) = true := by decide
      have t4 := winc (i := 0) (by decide)
      have hn : p.i ≤ 100 := by have := hp.1; have := hp.2.1; have := hp.2.2.1; omega
      (repeat (first | (refine step_w1 rfl rfl ?_; conv => whnf) | (refine ⟨_, [], [], op_indexAgg rfl (ev_ok rfl) (l := [.int .i64 (p.i : Nat), .int .i64 (p.j : Nat), .int .i64 (p.k : Nat)]) rfl (ev_ok rfl) (tgt rfl) rfl (tgt rfl) rfl rfl (by decide) (by decide) (v := .int .i64 (p.i : Nat)) rfl rfl, nil_fk, nil_new, ?_⟩; conv => whnf) | (rw [t0]; conv => whnf)))
      refine SW_loopN hE (fun k => k) [3, 4, 6, 7, 19, 20, 24, 25] [5004, 6] (fun m fr hp => ∃ r, m = p.i - r ∧ r ≤ p.i ∧ fr = [(3, ptrA [.frac a, .frac b, .frac c]), (4, .ptr 5004 0 0 0), (6, .ptr 6 0 0 0), (7, .val (.int .i64 ((0 : Nat) : Int))), (19, .agg [.val (.int .i64 (p.i : Nat)), .val (.int .i64 (p.j : Nat)), .val (.int .i64 (p.k : Nat))]), (20, .val (.int .i64 ((0 : Nat) : Int))), (24, .val (.int .i64 (p.i : Nat))), (25, .val (.int .i64 (r : Nat)))] ∧
        hp = [(5004, fb s), (6, fb (pwr V a r))]) p.i ?_ ?_ ?_
      · kernel_rfl
      · exact ⟨0, rfl, Nat.zero_le _, rfl, rfl⟩
      rintro m _ _ ⟨r, rfl, hr, rfl, rfl⟩
      conv => whnf
      by_cases hlt : r < p.i
      · have t1 := dlt hlt
        have t2 := winc (i := r) (by omega)
        have hv := fs_pwrB (n := r) hV ha (by omega)
        have k1 := f_Mul (pwr V a r) a (by omega)
        (repeat ((first | refine step_w1 rfl rfl ?_ | refine step_i (by kernel_rfl) ?_ | refine g_c (by assumption) ?_ | refine g_o (op_loadA rfl (ev_ok rfl) (tgt rfl) rfl (Nat.succ_ne_zero _) rfl) ?_ | refine g_o (op_indexArrA rfl (ev_ok rfl) (ev_ok rfl) (tgt rfl) rfl (tgt rfl) (by omega) (by omega) (Nat.succ_ne_zero _) rfl) ?_ | rw [t1] | rw [t2]); conv => whnf))
        exact ⟨p.i - (r + 1), fun k => k, [3, 4, 6, 7, 19, 20, 24, 25], [5004, 6], by omega, by kernel_rfl, r + 1, rfl, hlt, rfl, rfl⟩
      · have t1 := dge hlt
        have hR : r = p.i := by omega
        subst hR
        (repeat ((first | refine step_w2 rfl rfl ?_ | rw [t1] | rw [t4] | rw [Nat.zero_add]); conv => whnf))
        exact ⟨2, fun k => k, [3, 4, 6, 19, 20], [5004, 6], by decide, by kernel_rfl, 1, _, rfl, by decide, by rw [hVe]; rfl, rfl, rfl⟩
    · have hV : fs V ≤ 1000 + 100 * B := by rw [hVe]; exact fs_pwrB hp.2.2.2 ha hp.1
      conv => whnf
      have t0 : decide (((1 : Nat) : Int) < 3) = true := by decide
      have t4 := winc (i := 1) (by decide)
      have hn : p.j ≤ 100 := by have := hp.1; have := hp.2.1; have := hp.2.2.1; omega
      (repeat (first | (refine step_w1 rfl rfl ?_; conv => whnf) | (refine ⟨_, [], [], op_indexAgg rfl (ev_ok rfl) (l := [.int .i64 (p.i : Nat), .int .i64 (p.j : Nat), .int .i64 (p.k : Nat)]) rfl (ev_ok rfl) (tgt rfl) rfl (tgt rfl) rfl rfl (by decide) (by decide) (v := .int .i64 (p.j : Nat)) rfl rfl, nil_fk, nil_new, ?_⟩; conv => whnf) | (rw [t0]; conv => whnf)))
      refine SW_loopN hE (fun k => k) [3, 4, 6, 7, 19, 20, 24, 25] [5004, 6] (fun m fr hp => ∃ r, m = p.j - r ∧ r ≤ p.j ∧ fr = [(3, ptrA [.frac a, .frac b, .frac c]), (4, .ptr 5004 0 0 0), (6, .ptr 6 0 0 0), (7, .val (.int .i64 ((1 : Nat) : Int))), (19, .agg [.val (.int .i64 (p.i : Nat)), .val (.int .i64 (p.j : Nat)), .val (.int .i64 (p.k : Nat))]), (20, .val (.int .i64 ((1 : Nat) : Int))), (24, .val (.int .i64 (p.j : Nat))), (25, .val (.int .i64 (r : Nat)))] ∧
        hp = [(5004, fb s), (6, fb (pwr V b r))]) p.j ?_ ?_ ?_
      · kernel_rfl
      · exact ⟨0, rfl, Nat.zero_le _, rfl, rfl⟩
      rintro m _ _ ⟨r, rfl, hr, rfl, rfl⟩
      conv => whnf
      by_cases hlt : r < p.j
      · have t1 := dlt hlt
        have t2 := winc (i := r) (by omega)
        have hv := fs_pwrB (n := r) hV hb (by omega)
        have k1 := f_Mul (pwr V b r) b (by omega)
        (repeat ((first | refine step_w1 rfl rfl ?_ | refine step_i (by kernel_rfl) ?_ | refine g_c (by assumption) ?_ | refine g_o (op_loadA rfl (ev_ok rfl) (tgt rfl) rfl (Nat.succ_ne_zero _) rfl) ?_ | refine g_o (op_indexArrA rfl (ev_ok rfl) (ev_ok rfl) (tgt rfl) rfl (tgt rfl) (by omega) (by omega) (Nat.succ_ne_zero _) rfl) ?_ | rw [t1] | rw [t2]); conv => whnf))
        exact ⟨p.j - (r + 1), fun k => k, [3, 4, 6, 7, 19, 20, 24, 25], [5004, 6], by omega, by kernel_rfl, r + 1, rfl, hlt, rfl, rfl⟩
      · have t1 := dge hlt
        have hR : r = p.j := by omega
        subst hR
        (repeat (first | (refine step_w2 rfl rfl ?_; conv => whnf) | (rw [t1]; conv => whnf) | (rw [t4]; conv => whnf)))
        exact ⟨1, fun k => k, [3, 4, 6, 19, 20], [5004, 6], by decide, by kernel_rfl, 2, _, rfl, by decide, by rw [hVe]; rfl, rfl, rfl⟩
    · have hV : fs V ≤ 1000 + 200 * B := by rw [hVe]; exact Nat.le_trans (fs_pwrB (fs_pwrB hp.2.2.2 ha hp.1) hb hp.2.1) (by omega)
      conv => whnf
      have t0 : decide (((2 : Nat) : Int) < 3) = true := by decide
      have t4 := winc (i := 2) (by decide)
      have hn : p.k ≤ 100 := by have := hp.1; have := hp.2.1; have := hp.2.2.1; omega
      (repeat (first | (refine step_w1 rfl rfl ?_; conv => whnf) | (refine ⟨_, [], [], op_indexAgg rfl (ev_ok rfl) (l := [.int .i64 (p.i : Nat), .int .i64 (p.j : Nat), .int .i64 (p.k : Nat)]) rfl (ev_ok rfl) (tgt rfl) rfl (tgt rfl) rfl rfl (by decide) (by decide) (v := .int .i64 (p.k : Nat)) rfl rfl, nil_fk, nil_new, ?_⟩; conv => whnf) | (rw [t0]; conv => whnf)))
      refine SW_loopN hE (fun k => k) [3, 4, 6, 7, 19, 20, 24, 25] [5004, 6] (fun m fr hp => ∃ r, m = p.k - r ∧ r ≤ p.k ∧ fr = [(3, ptrA [.frac a, .frac b, .frac c]), (4, .ptr 5004 0 0 0), (6, .ptr 6 0 0 0), (7, .val (.int .i64 ((2 : Nat) : Int))), (19, .agg [.val (.int .i64 (p.i : Nat)), .val (.int .i64 (p.j : Nat)), .val (.int .i64 (p.k : Nat))]), (20, .val (.int .i64 ((2 : Nat) : Int))), (24, .val (.int .i64 (p.k : Nat))), (25, .val (.int .i64 (r : Nat)))] ∧
        hp = [(5004, fb s), (6, fb (pwr V c r))]) p.k ?_ ?_ ?_
      · kernel_rfl
      · exact ⟨0, rfl, Nat.zero_le _, rfl, rfl⟩
      rintro m _ _ ⟨r, rfl, hr, rfl, rfl⟩
      conv => whnf
      by_cases hlt : r < p.k
      · have t1 := dlt hlt
        have t2 := winc (i := r) (by omega)
        have hv := fs_pwrB (n := r) hV hc (by omega)
        have k1 := f_Mul (pwr V c r) c (by omega)
        (repeat ((first | refine step_w1 rfl rfl ?_ | refine step_i (by kernel_rfl) ?_ | refine g_c (by assumption) ?_ | refine g_o (op_loadA rfl (ev_ok rfl) (tgt rfl) rfl (Nat.succ_ne_zero _) rfl) ?_ | refine g_o (op_indexArrA rfl (ev_ok rfl) (ev_ok rfl) (tgt rfl) rfl (tgt rfl) (by omega) (by omega) (Nat.succ_ne_zero _) rfl) ?_ | rw [t1] | rw [t2]); conv => whnf))
        exact ⟨p.k - (r + 1), fun k => k, [3, 4, 6, 7, 19, 20, 24, 25], [5004, 6], by omega, by kernel_rfl, r + 1, rfl, hlt, rfl, rfl⟩
      · have t1 := dge hlt
        have hR : r = p.k := by omega
        subst hR
        (repeat (first | (refine step_w2 rfl rfl ?_; conv => whnf) | (rw [t1]; conv => whnf) | (rw [t4]; conv => whnf)))
        exact ⟨0, fun k => k, [3, 4, 6, 19, 20], [5004, 6], by decide, by kernel_rfl, 3, _, rfl, by decide, by rw [hVe]; rfl, rfl, rfl⟩
    · have hV : fs V ≤ 1000 + 300 * B := by rw [hVe]; exact fs_mono hp ha hb hc
      have t0 : decide (((3 : Nat) : Int) < 3) = false := by decide
      have k1 := f_Add s V (by omega)
      have hVe : V = monoF p a b c := hVe
      conv => whnf
      (repeat (first | (refine step_w2 rfl rfl ?_; conv => whnf) | (refine g_c (by assumption) ?_; conv => whnf)))
      intro q x hm
      simp only [List.mem_singleton, Prod.mk.injEq] at hm
      obtain ⟨rfl, rfl⟩ := hm
      rw [← hVe]
      rfl
  conv => whnf
  skip
  rw [List.take_length]
  exact Recast.refl _
theorem c_atS (l : List Pw) (hl : l.length ≤ 10) (hL : ∀ p ∈ l, p.ok) (v u : List SV) (a b c : Rat) (B : Nat) (hB : B ≤ 100000) (ha : fs a ≤ B) (hb : fs b ≤ B) (hc : fs c ≤ B) (hI : ItOK 69 [ptrA v, ptrA u] l) :
    CallOK Tryz.prog 37 [.clo 69 [] [ptrA v, ptrA u], .agg [.frac a, .frac b, .frac c]] [] (.frac (atF l a b c)) [] [] := by
  refine callV (Z := [3]) tabOK mixedOK Tryz.func37 rfl (by kernel_rfl) rfl rfl (by kernel_rfl) rfl ?_
  intro W0 w0 ρ0 hE
  conv => whnf
  skip
  refine SWx_range 5000 [3, 4] [ptrA [.frac a, .frac b, .frac c], .ptr 4 0 0 0] [(4, fb ((l.take 0).foldl (fun s p => s + monoF p a b c) 0))] [(4, fb ((l.take l.length).foldl (fun s p => s + monoF p a b c) 0))] (cc := .tup []) [9, 3, 4] rfl (fun _ h => by cases h) rfl ⟨_, rfl, by kernel_rfl, rfl⟩ (fun rc r1 r2 r3 r4 r5 r6 => ?_) rfl (one_fk rfl) (two_up (B := fb 0) (B' := fb 0) (b := 0) ⟨rfl, rfl, rfl⟩) (one_lv ⟨rfl, rfl⟩) ?_
  · refine hI rc [3, 4] [.frac a, .frac b, .frac c] (fun i => (l.take i).foldl (fun s p => s + monoF p a b c) 0) (fun i hi => ?_)
    have hp := hL _ (getP_mem hi)
    have hs := fs_at ha hb hc (l.take i) 0 (fun p hp => hL p (List.mem_of_mem_take hp))
    have hs2 : (l.take i).length * (1000 + 300 * B) ≤ 10 * (1000 + 300 * B) := Nat.mul_le_mul_right _ (by rw [List.length_take]; omega)
    rw [fs_zero] at hs
    rw [foldP _ l i hi]
    generalize (l.take i).foldl (fun s p => s + monoF p a b c) 0 = s at *
    generalize l.getD i pw0 = p at *
    clear hI hL
    refine yldK (Z := []) tabOK mixedOK r1 r2 r3 r4 r5 r6 (Nat.le_of_ble_eq_true (by kernel_rfl)) (RoundOK.one rfl rfl rfl rfl) ?_
    intro W0 w0 ρ0 lp hE
    conv => whnf
    refine ⟨rfl, fun w1 hE _ _ => ?_⟩
    conv => whnf
    (repeat (first | (rw [Nat.zero_add]; conv => whnf)))
    refine SW_loopN hE (fun k => k) [3, 4, 6, 19, 20] [5004, 6] (fun m fr hp => ∃ r V, m = 3 - r ∧ r ≤ 3 ∧ V = (match r with | 0 => p.c | 1 => pwr p.c a p.i | 2 => pwr (pwr p.c a p.i) b p.j | _ => monoF p a b c) ∧ fr = [(3, ptrA [.frac a, .frac b, .frac c]), (4, .ptr 5004 0 0 0), (6, .ptr 6 0 0 0), (19, .agg [.val (.int .i64 (p.i : Nat)), .val (.int .i64 (p.j : Nat)), .val (.int .i64 (p.k : Nat))]), (20, .val (.int .i64 (r : Nat)))] ∧
      hp = [(5004, fb s), (6, fb V)]) 3 ?_ ?_ ?_
    · kernel_rfl
    · exact ⟨0, _, rfl, Nat.zero_le _, rfl, rfl, rfl⟩
    rintro m _ _ ⟨r, V, rfl, hr, hVe, rfl, rfl⟩
    obtain rfl | rfl | rfl | rfl : r = 0 ∨ r = 1 ∨ r = 2 ∨ r = 3 := by omega
    · have hV : fs V ≤ 1000 := by rw [hVe]; exact hp.2.2.2
      conv => whnf
      have t0 : decide (((0 : Nat) : Int) < 3) = true := by decide
      have t4 := winc (i := 0) (by decide)
      have hn : p.i ≤ 100 := by have := hp.1; have := hp.2.1; have := hp.2.2.1; omega
      (repeat (first | (refine step_w1 rfl rfl ?_; conv => whnf) | (refine ⟨_, [], [], op_indexAgg rfl (ev_ok rfl) (l := [.int .i64 (p.i : Nat), .int .i64 (p.j : Nat), .int .i64 (p.k : Nat)]) rfl (ev_ok rfl) (tgt rfl) rfl (tgt rfl) rfl rfl (by decide) (by decide) (v := .int .i64 (p.i : Nat)) rfl rfl, nil_fk, nil_new, ?_⟩; conv => whnf) | (rw [t0]; conv => whnf)))
      refine SW_loopN hE (fun k => k) [3, 4, 6, 7, 19, 20, 24, 25] [5004, 6] (fun m fr hp => ∃ r, m = p.i - r ∧ r ≤ p.i ∧ fr = [(3, ptrA [.frac a, .frac b, .frac c]), (4, .ptr 5004 0 0 0), (6, .ptr 6 0 0 0), (7, .val (.int .i64 ((0 : Nat) : Int))), (19, .agg [.val (.int .i64 (p.i : Nat)), .val (.int .i64 (p.j : Nat)), .val (.int .i64 (p.k : Nat))]), (20, .val (.int .i64 ((0 : Nat) : Int))), (24, .val (.int .i64 (p.i : Nat))), (25, .val (.int .i64 (r : Nat)))] ∧
        hp = [(5004, fb s), (6, fb (pwr V a r))]) p.i ?_ ?_ ?_
      · kernel_rfl
      · exact ⟨0, rfl, Nat.zero_le _, rfl, rfl⟩
      rintro m _ _ ⟨r, rfl, hr, rfl, rfl⟩
      conv => whnf
      by_cases hlt : r < p.i
      · have t1 := dlt hlt
        have t2 := winc (i := r) (by omega)
        have hv := fs_pwrB (n := r) hV ha (by omega)
        have k1 := f_Mul (pwr V a r) a (by omega)
        (repeat ((first | refine step_w1 rfl rfl ?_ | refine step_i (by kernel_rfl) ?_ | refine g_c (by assumption) ?_ | refine g_o (op_loadA rfl (ev_ok rfl) (tgt rfl) rfl (Nat.succ_ne_zero _) rfl) ?_ | refine g_o (op_indexArrA rfl (ev_ok rfl) (ev_ok rfl) (tgt rfl) rfl (tgt rfl) (by omega) (by omega) (Nat.succ_ne_zero _) rfl) ?_ | rw [t1] | rw [t2]); conv => whnf))
        exact ⟨p.i - (r + 1), fun k => k, [3, 4, 6, 7, 19, 20, 24, 25], [5004, 6], by omega, by kernel_rfl, r + 1, rfl, hlt, rfl, rfl⟩
      · have t1 := dge hlt
        have hR : r = p.i := by omega
        subst hR
        (repeat ((first | refine step_w2 rfl rfl ?_ | rw [t1] | rw [t4] | rw [Nat.zero_add]); conv => whnf))
        exact ⟨2, fun k => k, [3, 4, 6, 19, 20], [5004, 6], by decide, by kernel_rfl, 1, _, rfl, by decide, by rw [hVe]; rfl, rfl, rfl⟩
    · have hV : fs V ≤ 1000 + 100 * B := by rw [hVe]; exact fs_pwrB hp.2.2.2 ha hp.1
      conv => whnf
      have t0 : decide (((1 : Nat) : Int) < 3) = true := by decide
      have t4 := winc (i := 1) (by decide)
      have hn : p.j ≤ 100 := by have := hp.1; have := hp.2.1; have := hp.2.2.1; omega
      (repeat (first | (refine step_w1 rfl rfl ?_; conv => whnf) | (refine ⟨_, [], [], op_indexAgg rfl (ev_ok rfl) (l := [.int .i64 (p.i : Nat), .int .i64 (p.j : Nat), .int .i64 (p.k : Nat)]) rfl (ev_ok rfl) (tgt rfl) rfl (tgt rfl) rfl rfl (by decide) (by decide) (v := .int .i64 (p.j : Nat)) rfl rfl, nil_fk, nil_new, ?_⟩; conv => whnf) | (rw [t0]; conv => whnf)))
      refine SW_loopN hE (fun k => k) [3, 4, 6, 7, 19, 20, 24, 25] [5004, 6] (fun m fr hp => ∃ r, m = p.j - r ∧ r ≤ p.j ∧ fr = [(3, ptrA [.frac a, .frac b, .frac c]), (4, .ptr 5004 0 0 0), (6, .ptr 6 0 0 0), (7, .val (.int .i64 ((1 : Nat) : Int))), (19, .agg [.val (.int .i64 (p.i : Nat)), .val (.int .i64 (p.j : Nat)), .val (.int .i64 (p.k : Nat))]), (20, .val (.int .i64 ((1 : Nat) : Int))), (24, .val (.int .i64 (p.j : Nat))), (25, .val (.int .i64 (r : Nat)))] ∧
        hp = [(5004, fb s), (6, fb (pwr V b r))]) p.j ?_ ?_ ?_
      · kernel_rfl
      · exact ⟨0, rfl, Nat.zero_le _, rfl, rfl⟩
      rintro m _ _ ⟨r, rfl, hr, rfl, rfl⟩
      conv => whnf
      by_cases hlt : r < p.j
      · have t1 := dlt hlt
        have t2 := winc (i := r) (by omega)
        have hv := fs_pwrB (n := r) hV hb (by omega)
        have k1 := f_Mul (pwr V b r) b (by omega)
        (repeat ((first | refine step_w1 rfl rfl ?_ | refine step_i (by kernel_rfl) ?_ | refine g_c (by assumption) ?_ | refine g_o (op_loadA rfl (ev_ok rfl) (tgt rfl) rfl (Nat.succ_ne_zero _) rfl) ?_ | refine g_o (op_indexArrA rfl (ev_ok rfl) (ev_ok rfl) (tgt rfl) rfl (tgt rfl) (by omega) (by omega) (Nat.succ_ne_zero _) rfl) ?_ | rw [t1] | rw [t2]); conv => whnf))
        exact ⟨p.j - (r + 1), fun k => k, [3, 4, 6, 7, 19, 20, 24, 25], [5004, 6], by omega, by kernel_rfl, r + 1, rfl, hlt, rfl, rfl⟩
      · have t1 := dge hlt
        have hR : r = p.j := by omega
        subst hR
        (repeat (first | (refine step_w2 rfl rfl ?_; conv => whnf) | (rw [t1]; conv => whnf) | (rw [t4]; conv => whnf)))
        exact ⟨1, fun k => k, [3, 4, 6, 19, 20], [5004, 6], by decide, by kernel_rfl, 2, _, rfl, by decide, by rw [hVe]; rfl, rfl, rfl⟩
    · have hV : fs V ≤ 1000 + 200 * B := by rw [hVe]; exact Nat.le_trans (fs_pwrB (fs_pwrB hp.2.2.2 ha hp.1) hb hp.2.1) (by omega)
      conv => whnf
      have t0 : decide (((2 : Nat) : Int) < 3) = true := by decide
      have t4 := winc (i := 2) (by decide)
      have hn : p.k ≤ 100 := by have := hp.1; have := hp.2.1; have := hp.2.2.1; omega
      (repeat (first | (refine step_w1 rfl rfl ?_; conv => whnf) | (refine ⟨_, [], [], op_indexAgg rfl (ev_ok rfl) (l := [.int .i64 (p.i : Nat), .int .i64 (p.j : Nat), .int .i64 (p.k : Nat)]) rfl (ev_ok rfl) (tgt rfl) rfl (tgt rfl) rfl rfl (by decide) (by decide) (v := .int .i64 (p.k : Nat)) rfl rfl, nil_fk, nil_new, ?_⟩; conv => whnf) | (rw [t0]; conv => whnf)))
      refine SW_loopN hE (fun k => k) [3, 4, 6, 7, 19, 20, 24, 25] [5004, 6] (fun m fr hp => ∃ r, m = p.k - r ∧ r ≤ p.k ∧ fr = [(3, ptrA [.frac a, .frac b, .frac c]), (4, .ptr 5004 0 0 0), (6, .ptr 6 0 0 0), (7, .val (.int .i64 ((2 : Nat) : Int))), (19, .agg [.val (.int .i64 (p.i : Nat)), .val (.int .i64 (p.j : Nat)), .val (.int .i64 (p.k : Nat))]), (20, .val (.int .i64 ((2 : Nat) : Int))), (24, .val (.int .i64 (p.k : Nat))), (25, .val (.int .i64 (r : Nat)))] ∧
        hp = [(5004, fb s), (6, fb (pwr V c r))]) p.k ?_ ?_ ?_
      · kernel_rfl
      · exact ⟨0, rfl, Nat.zero_le _, rfl, rfl⟩
      rintro m _ _ ⟨r, rfl, hr, rfl, rfl⟩
      conv => whnf
      by_cases hlt : r < p.k
      · have t1 := dlt hlt
        have t2 := winc (i := r) (by omega)
        have hv := fs_pwrB (n := r) hV hc (by omega)
        have k1 := f_Mul (pwr V c r) c (by omega)
        (repeat ((first | refine step_w1 rfl rfl ?_ | refine step_i (by kernel_rfl) ?_ | refine g_c (by assumption) ?_ | refine g_o (op_loadA rfl (ev_ok rfl) (tgt rfl) rfl (Nat.succ_ne_zero _) rfl) ?_ | refine g_o (op_indexArrA rfl (ev_ok rfl) (ev_ok rfl) (tgt rfl) rfl (tgt rfl) (by omega) (by omega) (Nat.succ_ne_zero _) rfl) ?_ | rw [t1] | rw [t2]); conv => whnf))
        exact ⟨p.k - (r + 1), fun k => k, [3, 4, 6, 7, 19, 20, 24, 25], [5004, 6], by omega, by kernel_rfl, r + 1, rfl, hlt, rfl, rfl⟩
      · have t1 := dge hlt
        have hR : r = p.k := by omega
        subst hR
        (repeat (first | (refine step_w2 rfl rfl ?_; conv => whnf) | (rw [t1]; conv => whnf) | (rw [t4]; conv => whnf)))
        exact ⟨0, fun k => k, [3, 4, 6, 19, 20], [5004, 6], by decide, by kernel_rfl, 3, _, rfl, by decide, by rw [hVe]; rfl, rfl, rfl⟩
    · have hV : fs V ≤ 1000 + 300 * B := by rw [hVe]; exact fs_mono hp ha hb hc
      have t0 : decide (((3 : Nat) : Int) < 3) = false := by decide
      have k1 := f_Add s V (by omega)
      have hVe : V = monoF p a b c := hVe
      conv => whnf
      (repeat (first | (refine step_w2 rfl rfl ?_; conv => whnf) | (refine g_c (by assumption) ?_; conv => whnf)))
      intro q x hm
      simp only [List.mem_singleton, Prod.mk.injEq] at hm
      obtain ⟨rfl, rfl⟩ := hm
      rw [← hVe]
      rfl
  conv => whnf
  skip
  rw [List.take_length]
  exact Recast.refl _
end Go.Proofs.YtdcaodkjofkmgaaGreatDoor

namespace Go.Proofs.YtdcaodkjofkmgaaGreatDoor
open Go.Sx
set_option linter.unusedSimpArgs false
set_option linter.unusedVariables false
set_option maxRecDepth 100000
set_option maxHeartbeats 4000000

theorem hasZ_ints {ρ : Rho} (kd : IntKind) : ∀ vs : List Int, HasZ ρ (vs.map fun v => .val (.int kd v)) (vs.map fun v => [.int kd v])
  | [] => by simp [HasZ]
  | v :: vs => by
    simp only [List.map_cons, HasZ]
    exact ⟨_, _, rfl, by simp [HasC, Value.oneCell'], hasZ_ints kd vs⟩
/-- A load of several cells of a table. -/
theorem op_globLoadA {P : Program} {o : Oper} {ft : List (Nat × SV)} {fk : List (Nat × Blk)} {t : TypeId} {x : Operand} {ti : TI} {g j : Nat} {kd : IntKind} {l vs : List Int} (ho : o.op = .load t x) (hx : EvOK ft x (.val (.pointer (some ⟨g, j, none⟩)))) (ht : TOK P t ti)
    (hk : ti.kind.isAgg = true) (hsz : ti.size = vs.length) (hg : (g, kd, l) ∈ globTabs) (hv : (l.drop j).take vs.length = vs) (hle : j + vs.length ≤ l.length) : OpOK P o ft fk (.agg (vs.map fun v => .val (.int kd v))) [] [] :=
  ok_pure fun ρ a w hp => by
    have e1 := of_has_val (hx ρ a hp.hft)
    obtain ⟨ob, h1, _, ty, fz, rfl⟩ := ρ.glob g kd l hg
    have hh := hp.imm g _ h1
    have hld := run_load_at (off := j) (y := vs.map fun v => Value.int kd v) ht hh (by rw [← List.map_drop, ← List.map_take, hsz, hv]) (by rw [List.length_map, hsz]; exact hle) (.inl hk)
    rw [if_pos hk] at hld
    refine ⟨.agg (vs.map fun v => Value.int kd v).toArray, ?_, ?_⟩
    · simp only [execOp, ho, Instr.loadAt, Instr.sureAddr, e1, Sem.run_bind, Sem.run_pure, Result.andThen_ok, hld]
    · refine (Has_iff (c := .agg _) rfl).2 ⟨vs.map fun v => Value.int kd v, ?_, by simp [mkV, SV.isOne]⟩
      simp only [HasC]
      refine ⟨_, hasZ_ints kd vs, ?_⟩
      rw [← List.flatMap_def, List.map_eq_flatMap]

def manyF (o : Int) : Nat := if o = 1 then 3 else if o = 2 then 6 else 0
theorem c_Many (o : Int) : CallOK Tryz.prog 21 [.val (.int .i64 o)] [] (.val (.int .i64 (manyF o : Nat))) [] [] := by
  refine callV (Z := []) tabOK mixedOK Tryz.func21 rfl (by kernel_rfl) rfl rfl (by kernel_rfl) rfl ?_
  intro W0 w0 ρ0 hE
  conv => whnf
  by_cases h1 : o = 1
  · subst h1
    (repeat (first | (refine step_w1 rfl rfl ?_; conv => whnf)))
    exact Recast.refl _
  · have t1 : (o == 1) = false := beq_false_of_ne h1
    by_cases h2 : o = 2
    · subst h2
      (repeat (first | (refine step_w1 rfl rfl ?_; conv => whnf) | (refine step_w2 rfl rfl ?_; conv => whnf)))
      exact Recast.refl _
    · have t2 : (o == 2) = false := beq_false_of_ne h2
      have e : manyF o = 0 := by simp [manyF, h1, h2]
      rw [e]
      (repeat (first | (refine step_w2 rfl rfl ?_; conv => whnf) | (rw [t1]; conv => whnf) | (rw [t2]; conv => whnf)))
      exact Recast.refl _
def thereF (o n : Int) : Bool := decide (0 ≤ n) && decide (n < (manyF o : Nat))
theorem c_there (o n : Int) : CallOK Tryz.prog 63 [.val (.int .i64 o), .val (.int .i64 n)] [] (.val (.bool (thereF o n))) [] [] := by
  have k1 := c_Many o
  refine callV (Z := []) tabOK mixedOK Tryz.func63 rfl (by kernel_rfl) rfl rfl (by kernel_rfl) rfl ?_
  intro W0 w0 ρ0 hE
  conv => whnf
  by_cases h1 : 0 ≤ n
  · have t1 : decide (n ≥ 0) = true := decide_eq_true h1
    have e : thereF o n = decide (n < (manyF o : Nat)) := by simp [thereF, h1]
    rw [e]
    (repeat ((first | refine step_w1 rfl rfl ?_ | refine g_c (by assumption) ?_ | refine g_o (op_pickT rfl (ev_ok rfl) (ev_ok rfl)) ?_ | rw [t1]); conv => whnf))
    exact Recast.refl _
  · have t1 : decide (n ≥ 0) = false := decide_eq_false h1
    have e : thereF o n = false := by simp [thereF, h1]
    rw [e]
    (repeat (first | (refine step_w2 rfl rfl ?_; conv => whnf) | (refine g_o (op_pickF rfl (ev_ok rfl) (ev_ok rfl)) ?_; conv => whnf) | (rw [t1]; conv => whnf)))
    exact Recast.refl _

/-- c times the coordinates with the given indices. -/
def unitP (c : Int) (l : List Int) : Pw := ⟨l.count 0, l.count 1, l.count 2, (c : Rat)⟩
theorem count_take (l : List Int) (i : Nat) (hi : i < l.length) (x : Int) : (l.take (i + 1)).count x = (l.take i).count x + if l.getD i 0 = x then 1 else 0 := by
  rw [List.take_add_one, List.getD_eq_getElem?_getD, List.getElem?_eq_getElem hi, List.count_append]
  simp [List.count_singleton]
def eblk (l : List Int) : Blk := ⟨70, true, .one [.val (.int .i64 (l.count 0 : Nat)), .val (.int .i64 (l.count 1 : Nat)), .val (.int .i64 (l.count 2 : Nat))]⟩
theorem c_power (c : Int) (hc : -9223372036854775808 ≤ c ∧ c < 9223372036854775808) (l : List Int) (hl : l.length < 1000) (h3 : ∀ x ∈ l, x = 0 ∨ x = 1 ∨ x = 2) :
    CallOK Tryz.prog 64 [.val (.int .i64 c), ivec .i64 l] [] (unitP c l).sv [] [] := by
  have k1 := c_fInt c hc.1 hc.2
  refine callV (Z := []) tabOK mixedOK Tryz.func64 rfl (by kernel_rfl) rfl rfl (by kernel_rfl) rfl ?_
  intro W0 w0 ρ0 hE
  conv => whnf
  (repeat (first | (refine g_o (op_lenM rfl rfl rfl (ev_ok rfl) (tgt rfl) rfl) ?_; conv => whnf)))
  refine SW_loopN hE (fun k => k) [0, 4, 5, 8, 9, 10] [4, 5] (fun m fr hp => ∃ i, m = l.length - i ∧ i ≤ l.length ∧ fr = [(0, .val (.int .i64 c)), (4, .ptr 4 0 0 0), (5, .ptr 5 0 0 0), (8, ivec .i64 l), (9, .val (.int .i64 (l.length : Nat))), (10, .val (.int .i64 (i : Nat)))] ∧
    hp = [(4, ⟨83, true, .one [.val (.int .i64 0), .val (.int .i64 0), .val (.int .i64 0), .frac 0]⟩), (5, eblk (l.take i))]) l.length ?_ ?_ ?_
  · kernel_rfl
  · exact ⟨0, rfl, Nat.zero_le _, rfl, rfl⟩
  rintro m _ _ ⟨i, rfl, hi, rfl, rfl⟩
  conv => whnf
  by_cases hlt : i < l.length
  · have t1 := dlt hlt
    have t2 := winc (i := i) (by omega)
    rcases h3 (l.getD i 0) (by rw [List.getD_eq_getElem?_getD, List.getElem?_eq_getElem hlt]; exact List.getElem_mem hlt) with hx | hx | hx
    · skip
      have e0 := count_take l i hlt 0
      have e1 := count_take l i hlt 1
      have e2 := count_take l i hlt 2
      rw [hx] at e0 e1 e2
      rw [if_pos (by decide)] at e0
      rw [if_neg (by decide)] at e1
      rw [if_neg (by decide)] at e2
      have b0 := List.count_le_length (a := 0) (l := l.take i)
      rw [List.length_take] at b0
      have t5 : IntKind.i64.wrap ((((l.take i).count 0 : Nat) : Int) + 1) = (((l.take i).count 0 + 1 : Nat) : Int) := winc (by omega)
      (repeat ((first | refine step_w1 rfl rfl ?_ | refine And.intro (by first | decide | omega | (simp only [tiB5, tiB23, tiB3, tiB2, tiB9, tiB36, tiB54, tiB121, tiB34, tiB28, tiB4, tiB50, tiB52, dlen, List.length_replicate, List.length_set, List.length_map, List.length_zipWith, List.length_take, List.length_append, List.length_cons, List.length_nil]; omega)) ?_ | refine g_o (op_loadA rfl (ev_ok rfl) (tgt rfl) rfl (Nat.succ_ne_zero _) rfl) ?_ | refine g_o (op_indexN (α := Int) (d := 0) rfl (ev_ok rfl) (ev_ok rfl) (tgt rfl) rfl (tgt rfl) rfl (by omega)) ?_ | rw [t1] | rw [t2] | rw [hx] | rw [t5] | rw [Nat.zero_add]); conv => whnf))
      exact ⟨l.length - (i + 1), fun k => k, [0, 4, 5, 8, 9, 10], [4, 5], by omega, by kernel_rfl, i + 1, rfl, hlt, rfl, by unfold eblk; rw [e0, e1, e2]; rfl⟩
    · skip
      have e0 := count_take l i hlt 0
      have e1 := count_take l i hlt 1
      have e2 := count_take l i hlt 2
      rw [hx] at e0 e1 e2
      rw [if_neg (by decide)] at e0
      rw [if_pos (by decide)] at e1
      rw [if_neg (by decide)] at e2
      have b0 := List.count_le_length (a := 1) (l := l.take i)
      rw [List.length_take] at b0
      have t5 : IntKind.i64.wrap ((((l.take i).count 1 : Nat) : Int) + 1) = (((l.take i).count 1 + 1 : Nat) : Int) := winc (by omega)
      (repeat ((first | refine step_w1 rfl rfl ?_ | refine And.intro (by first | decide | omega | (simp only [tiB5, tiB23, tiB3, tiB2, tiB9, tiB36, tiB54, tiB121, tiB34, tiB28, tiB4, tiB50, tiB52, dlen, List.length_replicate, List.length_set, List.length_map, List.length_zipWith, List.length_take, List.length_append, List.length_cons, List.length_nil]; omega)) ?_ | refine g_o (op_loadA rfl (ev_ok rfl) (tgt rfl) rfl (Nat.succ_ne_zero _) rfl) ?_ | refine g_o (op_indexN (α := Int) (d := 0) rfl (ev_ok rfl) (ev_ok rfl) (tgt rfl) rfl (tgt rfl) rfl (by omega)) ?_ | rw [t1] | rw [t2] | rw [hx] | rw [t5] | rw [Nat.zero_add]); conv => whnf))
      exact ⟨l.length - (i + 1), fun k => k, [0, 4, 5, 8, 9, 10], [4, 5], by omega, by kernel_rfl, i + 1, rfl, hlt, rfl, by unfold eblk; rw [e0, e1, e2]; rfl⟩
    · skip
      have e0 := count_take l i hlt 0
      have e1 := count_take l i hlt 1
      have e2 := count_take l i hlt 2
      rw [hx] at e0 e1 e2
      rw [if_neg (by decide)] at e0
      rw [if_neg (by decide)] at e1
      rw [if_pos (by decide)] at e2
      have b0 := List.count_le_length (a := 2) (l := l.take i)
      rw [List.length_take] at b0
      have t5 : IntKind.i64.wrap ((((l.take i).count 2 : Nat) : Int) + 1) = (((l.take i).count 2 + 1 : Nat) : Int) := winc (by omega)
      (repeat ((first | refine step_w1 rfl rfl ?_ | refine And.intro (by first | decide | omega | (simp only [tiB5, tiB23, tiB3, tiB2, tiB9, tiB36, tiB54, tiB121, tiB34, tiB28, tiB4, tiB50, tiB52, dlen, List.length_replicate, List.length_set, List.length_map, List.length_zipWith, List.length_take, List.length_append, List.length_cons, List.length_nil]; omega)) ?_ | refine g_o (op_loadA rfl (ev_ok rfl) (tgt rfl) rfl (Nat.succ_ne_zero _) rfl) ?_ | refine g_o (op_indexN (α := Int) (d := 0) rfl (ev_ok rfl) (ev_ok rfl) (tgt rfl) rfl (tgt rfl) rfl (by omega)) ?_ | rw [t1] | rw [t2] | rw [hx] | rw [t5] | rw [Nat.zero_add]); conv => whnf))
      exact ⟨l.length - (i + 1), fun k => k, [0, 4, 5, 8, 9, 10], [4, 5], by omega, by kernel_rfl, i + 1, rfl, hlt, rfl, by unfold eblk; rw [e0, e1, e2]; rfl⟩
  · have t1 := dge hlt
    have hI : i = l.length := by omega
    subst hI
    rw [List.take_length]
    (repeat ((first | refine step_w2 rfl rfl ?_ | refine step_i (by kernel_rfl) ?_ | refine And.intro (by first | decide | omega | (simp only [tiB5, tiB23, tiB3, tiB2, tiB9, tiB36, tiB54, tiB121, tiB34, tiB28, tiB4, tiB50, tiB52, dlen, List.length_replicate, List.length_set, List.length_map, List.length_zipWith, List.length_take, List.length_append, List.length_cons, List.length_nil]; omega)) ?_ | refine g_c (by assumption) ?_ | rw [t1]); conv => whnf))
    exact Recast.refl _

/-- The ends of a side. -/
def endsF : Int → List Int
  | 3 => [1, 2]
  | 4 => [2, 0]
  | _ => [0, 1]
def powersF (o n : Int) : List Pw := if thereF o n then (if o = 1 then [unitP 1 [n]] else if n < 3 then [unitP 2 [n, n], unitP (-1) [n]] else [unitP 4 (endsF n)]) else []
theorem there_cases {o n : Int} (h : thereF o n = true) : (o = 1 ∧ (n = 0 ∨ n = 1 ∨ n = 2)) ∨ (o = 2 ∧ (n = 0 ∨ n = 1 ∨ n = 2 ∨ n = 3 ∨ n = 4 ∨ n = 5)) := by
  simp only [thereF, Bool.and_eq_true, decide_eq_true_eq] at h
  unfold manyF at h
  by_cases h1 : o = 1
  · rw [if_pos h1] at h; exact .inl ⟨h1, by omega⟩
  · rw [if_neg h1] at h
    by_cases h2 : o = 2
    · rw [if_pos h2] at h; exact .inr ⟨h2, by omega⟩
    · rw [if_neg h2] at h; omega

theorem tabSides : ((0, .i64, [1, 2, 2, 0, 0, 1]) : Nat × IntKind × List Int) ∈ globTabs := by simp [globTabs]
theorem c_PowersNo (o n : Int) (h : thereF o n = false) : CallOK Tryz.prog 33 [.val (.int .i64 o), .val (.int .i64 n)] [] (.tup [mvec 8 Pw.sv [], .val (.int .i64 1)]) [] [] := by
  have k1 := c_there o n
  rw [h] at k1
  refine callF (Z := []) tabOK mixedOK Tryz.func33 rfl (by kernel_rfl) (by first | rfl | (simp [keylessL, keyless, keylessL_map, *]; done)) (by first | rfl | (simp [keylessL, keyless, keylessL_map, *]; done)) (by kernel_rfl) rfl ?_
  intro w0 ρ0 hE
  conv => whnf
  (repeat (first | (refine step_w1 rfl rfl ?_; conv => whnf) | (refine g_c (by assumption) ?_; conv => whnf))); (first | exact Recast.refl _ | exact Frz.recast (Recast.refl _) rfl | (refine Frz.one rfl rfl ?_; skip) | (refine Frz.tup ?_; (repeat (first | exact FrzC.keyless rfl | exact FrzL.nil | refine FrzL.cons ?_ ?_ | exact FrzC.nilS))))
theorem c_PowersYes (o n : Int) (h : thereF o n = true) : CallOK Tryz.prog 33 [.val (.int .i64 o), .val (.int .i64 n)] [] (.tup [mvec 8 Pw.sv (powersF o n), .val (.int .i64 0)]) [] [] := by
  have k1 := c_there o n
  rw [h] at k1
  have e : powersF o n = if o = 1 then [unitP 1 [n]] else if n < 3 then [unitP 2 [n, n], unitP (-1) [n]] else [unitP 4 (endsF n)] := by rw [powersF, if_pos h]
  rw [e]
  rcases there_cases h with ⟨rfl, hn⟩ | ⟨rfl, hn⟩
  · have k2 := c_power 1 (by decide) [n] (by simp) (by intro x hx; simp only [List.mem_singleton] at hx; subst hx; exact hn)
    refine callV (Z := [16, 18]) tabOK mixedOK Tryz.func33 rfl (by kernel_rfl) rfl rfl (by kernel_rfl) rfl ?_
    intro W0 w0 ρ0 hE
    conv => whnf
    (repeat (first | (refine step_w1 rfl rfl ?_; conv => whnf) | (refine step_w2 rfl rfl ?_; conv => whnf) | (refine g_c (by assumption) ?_; conv => whnf)))
    exact Recast.refl _
  · by_cases h3 : n < 3
    · have hn' : n = 0 ∨ n = 1 ∨ n = 2 := by omega
      have k2 := c_power 2 (by decide) [n, n] (by simp) (by intro x hx; simp only [List.mem_cons, List.not_mem_nil, or_false] at hx; rcases hx with rfl | rfl <;> exact hn')
      have k3 := c_power (-1) (by decide) [n] (by simp) (by intro x hx; simp only [List.mem_singleton] at hx; subst hx; exact hn')
      have t3 : decide (n < 3) = true := decide_eq_true h3
      rw [if_neg (by decide), if_pos h3]
      refine callV (Z := [24, 27, 29]) tabOK mixedOK Tryz.func33 rfl (by kernel_rfl) rfl rfl (by kernel_rfl) rfl ?_
      intro W0 w0 ρ0 hE
      conv => whnf
      (repeat ((first | refine step_w1 rfl rfl ?_ | refine step_w2 rfl rfl ?_ | refine g_c (by assumption) ?_ | rw [t3]); conv => whnf))
      exact Recast.refl _
    · have hn' : n = 3 ∨ n = 4 ∨ n = 5 := by omega
      have t3 : decide (n < 3) = false := decide_eq_false h3
      rw [if_neg (by decide), if_neg h3]
      rcases hn' with rfl | rfl | rfl
      · skip
        have t4 : IntKind.i64.wrap ((3 : Int) - 3) = 0 := by decide
        have k2 := c_power 4 (by decide) [1, 2] (by decide) (by decide)
        refine callV (Z := [38, 40]) tabOK mixedOK Tryz.func33 rfl (by kernel_rfl) rfl rfl (by kernel_rfl) rfl ?_
        intro W0 w0 ρ0 hE
        conv => whnf
        (repeat ((first | refine step_w2 rfl rfl ?_ | refine And.intro (by first | decide | omega | (simp only [tiB5, tiB23, tiB3, tiB2, tiB9, tiB36, tiB54, tiB121, tiB34, tiB28, tiB4, tiB50, tiB52, dlen, List.length_replicate, List.length_set, List.length_map, List.length_zipWith, List.length_take, List.length_append, List.length_cons, List.length_nil]; omega)) ?_ | refine g_c (by assumption) ?_ | refine ⟨_, [], [], op_globIndex rfl (ev_ok rfl) (ev_ok rfl) (tgt rfl) rfl (tgt rfl) (by decide) (by decide), nil_fk, nil_new, ?_⟩ | refine ⟨_, [], [], op_globLoadA rfl (ev_ok rfl) (tgt rfl) rfl (vs := [1, 2]) rfl tabSides (by decide) (by decide), nil_fk, nil_new, ?_⟩); conv => whnf))
        exact Recast.refl _
      · skip
        have t4 : IntKind.i64.wrap ((4 : Int) - 3) = 1 := by decide
        have k2 := c_power 4 (by decide) [2, 0] (by decide) (by decide)
        refine callV (Z := [38, 40]) tabOK mixedOK Tryz.func33 rfl (by kernel_rfl) rfl rfl (by kernel_rfl) rfl ?_
        intro W0 w0 ρ0 hE
        conv => whnf
        (repeat ((first | refine step_w2 rfl rfl ?_ | refine And.intro (by first | decide | omega | (simp only [tiB5, tiB23, tiB3, tiB2, tiB9, tiB36, tiB54, tiB121, tiB34, tiB28, tiB4, tiB50, tiB52, dlen, List.length_replicate, List.length_set, List.length_map, List.length_zipWith, List.length_take, List.length_append, List.length_cons, List.length_nil]; omega)) ?_ | refine g_c (by assumption) ?_ | refine ⟨_, [], [], op_globIndex rfl (ev_ok rfl) (ev_ok rfl) (tgt rfl) rfl (tgt rfl) (by decide) (by decide), nil_fk, nil_new, ?_⟩ | refine ⟨_, [], [], op_globLoadA rfl (ev_ok rfl) (tgt rfl) rfl (vs := [2, 0]) rfl tabSides (by decide) (by decide), nil_fk, nil_new, ?_⟩); conv => whnf))
        exact Recast.refl _
      · skip
        have t4 : IntKind.i64.wrap ((5 : Int) - 3) = 2 := by decide
        have k2 := c_power 4 (by decide) [0, 1] (by decide) (by decide)
        refine callV (Z := [38, 40]) tabOK mixedOK Tryz.func33 rfl (by kernel_rfl) rfl rfl (by kernel_rfl) rfl ?_
        intro W0 w0 ρ0 hE
        conv => whnf
        (repeat ((first | refine step_w2 rfl rfl ?_ | refine And.intro (by first | decide | omega | (simp only [tiB5, tiB23, tiB3, tiB2, tiB9, tiB36, tiB54, tiB121, tiB34, tiB28, tiB4, tiB50, tiB52, dlen, List.length_replicate, List.length_set, List.length_map, List.length_zipWith, List.length_take, List.length_append, List.length_cons, List.length_nil]; omega)) ?_ | refine g_c (by assumption) ?_ | refine ⟨_, [], [], op_globIndex rfl (ev_ok rfl) (ev_ok rfl) (tgt rfl) rfl (tgt rfl) (by decide) (by decide), nil_fk, nil_new, ?_⟩ | refine ⟨_, [], [], op_globLoadA rfl (ev_ok rfl) (tgt rfl) rfl (vs := [0, 1]) rfl tabSides (by decide) (by decide), nil_fk, nil_new, ?_⟩); conv => whnf))
        exact Recast.refl _
end Go.Proofs.YtdcaodkjofkmgaaGreatDoor

namespace Go.Proofs.YtdcaodkjofkmgaaGreatDoor
open Go.Sx
set_option linter.unusedSimpArgs false
set_option linter.unusedVariables false
set_option maxRecDepth 100000
set_option maxHeartbeats 4000000

def errF (o n : Int) : Int := if thereF o n then 0 else 1
theorem c_Powers (o n : Int) : CallOK Tryz.prog 33 [.val (.int .i64 o), .val (.int .i64 n)] [] (.tup [mvec 8 Pw.sv (powersF o n), .val (.int .i64 (errF o n))]) [] [] := by
  cases h : thereF o n with
  | true =>
    rw [show errF o n = 0 from by simp [errF, h]]
    exact c_PowersYes o n h
  | false =>
    rw [show errF o n = 1 from by simp [errF, h], show powersF o n = [] from by simp [powersF, h]]
    exact c_PowersNo o n h
theorem unitP_ok {c : Int} (h0 : -100 ≤ c) (h1 : c ≤ 100) {l : List Int} (hl : l.length ≤ 2) : (unitP c l).i ≤ 2 ∧ (unitP c l).j ≤ 2 ∧ (unitP c l).k ≤ 2 ∧ fs (unitP c l).c ≤ 65 := by
  have a0 := List.count_le_length (a := 0) (l := l)
  have a1 := List.count_le_length (a := 1) (l := l)
  have a2 := List.count_le_length (a := 2) (l := l)
  exact ⟨by unfold unitP; simp only; omega, by unfold unitP; simp only; omega, by unfold unitP; simp only; omega, fs_int (by omega) (by omega)⟩
theorem ends_len (n : Int) : (endsF n).length ≤ 2 := by unfold endsF; split <;> simp
theorem powersF_small (o n : Int) : (powersF o n).length ≤ 2 ∧ ∀ p ∈ powersF o n, p.i ≤ 2 ∧ p.j ≤ 2 ∧ p.k ≤ 2 ∧ fs p.c ≤ 65 := by
  unfold powersF
  split
  · split
    · refine ⟨by simp, fun p hp => ?_⟩
      simp only [List.mem_singleton] at hp
      subst hp; exact unitP_ok (by decide) (by decide) (by simp)
    · split
      · refine ⟨by simp, fun p hp => ?_⟩
        simp only [List.mem_cons, List.not_mem_nil, or_false] at hp
        rcases hp with rfl | rfl <;> exact unitP_ok (by decide) (by decide) (by simp)
      · refine ⟨by simp, fun p hp => ?_⟩
        simp only [List.mem_singleton] at hp
        subst hp; exact unitP_ok (by decide) (by decide) (ends_len n)
  · exact ⟨by simp, fun p hp => by cases hp⟩
theorem powersF_ok (o n : Int) : ∀ p ∈ powersF o n, p.ok := fun p hp => by
  have := (powersF_small o n).2 p hp
  exact ⟨by omega, by omega, by omega, by omega⟩
theorem slope_small (b : Nat) (l : List Pw) (h : ∀ p ∈ l, p.i ≤ 2 ∧ p.j ≤ 2 ∧ p.k ≤ 2 ∧ fs p.c ≤ 65) : (slopeL b l).length ≤ l.length ∧ ∀ p ∈ slopeL b l, p.i ≤ 2 ∧ p.j ≤ 2 ∧ p.k ≤ 2 ∧ fs p.c ≤ 130 := by
  refine ⟨by unfold slopeL; rw [List.length_map]; exact List.length_filter_le _ _, fun p hp => ?_⟩
  obtain ⟨q, hq, rfl⟩ := List.mem_map.1 hp
  obtain ⟨h1, h2, h3, h4⟩ := h q (List.mem_filter.1 hq).1
  have g : ∀ e : Nat, e ≤ 2 → fs (q.c * (((e : Nat) : Int) : Rat)) ≤ 130 := fun e he => by
    have := fs_mul q.c (((e : Nat) : Int) : Rat)
    have := fs_int (n := ((e : Nat) : Int)) (by omega) (by omega)
    omega
  unfold slopeP
  split <;> exact ⟨by simp only; omega, by simp only; omega, by simp only; omega, g _ (by omega)⟩
theorem slope_ok (b : Nat) (o n : Int) : ∀ p ∈ slopeL b (powersF o n), p.ok := fun p hp => by
  have := (slope_small b _ (powersF_small o n).2).2 p hp
  exact ⟨by omega, by omega, by omega, by omega⟩
theorem slope_len (b : Nat) (o n : Int) : (slopeL b (powersF o n)).length ≤ 2 := Nat.le_trans (slope_small b _ (powersF_small o n).2).1 (powersF_small o n).1

theorem c_Value (o n : Int) (a b c : Rat) (B : Nat) (hB : B ≤ 100000) (ha : fs a ≤ B) (hb : fs b ≤ B) (hc : fs c ≤ B) :
    CallOK Tryz.prog 11 [.val (.int .i64 o), .val (.int .i64 n), .agg [.frac a, .frac b, .frac c]] [] (.tup [.frac (atF (powersF o n) a b c), .val (.int .i64 (errF o n))]) [] [] := by
  have k1 := c_Powers o n
  have hl := (powersF_small o n).1
  have hL := powersF_ok o n
  generalize powersF o n = l at *
  generalize errF o n = e at *
  have k2 := c_Values l
  have k3 := c_atV l (by omega) hL [mvec 8 Pw.sv l] a b c B hB ha hb hc (it_Values l (by omega))
  refine callV (Z := [5]) tabOK mixedOK Tryz.func11 rfl (by kernel_rfl) rfl rfl (by kernel_rfl) rfl ?_
  intro W0 w0 ρ0 hE
  conv => whnf
  (repeat (first | (refine step_i (by kernel_rfl) ?_; conv => whnf) | (refine g_c (by assumption) ?_; conv => whnf) | (refine g_o (op_loadA rfl (ev_ok rfl) (tgt rfl) rfl (Nat.succ_ne_zero _) rfl) ?_; conv => whnf)))
  exact Recast.refl _

theorem c_Slopes (o n : Int) (a b c : Rat) (B : Nat) (hB : B ≤ 100000) (ha : fs a ≤ B) (hb : fs b ≤ B) (hc : fs c ≤ B) :
    CallOK Tryz.prog 13 [.val (.int .i64 o), .val (.int .i64 n), .agg [.frac a, .frac b, .frac c]] []
      (.tup [.agg [.frac (atF (slopeL 0 (powersF o n)) a b c), .frac (atF (slopeL 1 (powersF o n)) a b c), .frac (atF (slopeL 2 (powersF o n)) a b c)], .val (.int .i64 (errF o n))]) [] [] := by
  have k1 := c_Powers o n
  have hl := (powersF_small o n).1
  have hL := powersF_ok o n
  have m0 := slope_len 0 o n
  have m1 := slope_len 1 o n
  have m2 := slope_len 2 o n
  have o0 := slope_ok 0 o n
  have o1 := slope_ok 1 o n
  have o2 := slope_ok 2 o n
  generalize powersF o n = l at *
  generalize errF o n = e at *
  have s0 := c_slope l 0
  have s1 := c_slope l 1
  have s2 := c_slope l 2
  have q0 := c_atS (slopeL 0 l) (by omega) o0 [mvec 8 Pw.sv l] [.val (.int .i64 0)] a b c B hB ha hb hc (it_slope0 l (by omega) hL)
  have q1 := c_atS (slopeL 1 l) (by omega) o1 [mvec 8 Pw.sv l] [.val (.int .i64 1)] a b c B hB ha hb hc (it_slope1 l (by omega) hL)
  have q2 := c_atS (slopeL 2 l) (by omega) o2 [mvec 8 Pw.sv l] [.val (.int .i64 2)] a b c B hB ha hb hc (it_slope2 l (by omega) hL)
  generalize atF (slopeL 0 l) a b c = d0 at *
  generalize atF (slopeL 1 l) a b c = d1 at *
  generalize atF (slopeL 2 l) a b c = d2 at *
  refine callV (Z := [5]) tabOK mixedOK Tryz.func13 rfl (by kernel_rfl) rfl rfl (by kernel_rfl) rfl ?_
  intro W0 w0 ρ0 hE
  conv => whnf
  (repeat (first | (refine g_c (by assumption) ?_; conv => whnf)))
  refine SW_loopN hE (fun k => k) [5, 6, 7, 8, 16] [6] (fun m fr hp => ∃ (r : Nat) (x0 x1 x2 : Rat), m = 3 - r ∧ r ≤ 3 ∧ ((0 < r → x0 = d0) ∧ (1 < r → x1 = d1) ∧ (2 < r → x2 = d2)) ∧ fr = [(5, ptrA [.frac a, .frac b, .frac c]), (6, .ptr 6 0 0 0), (7, .val (.int .i64 e)), (8, mvec 8 Pw.sv l), (16, .val (.int .i64 (r : Int)))] ∧
    hp = [(6, ⟨40, true, .one [.frac x0, .frac x1, .frac x2]⟩)]) 3 ?_ ?_ ?_
  · kernel_rfl
  · exact ⟨0, 0, 0, 0, rfl, by decide, ⟨fun h => by omega, fun h => by omega, fun h => by omega⟩, rfl, rfl⟩
  rintro m _ _ ⟨r, x0, x1, x2, rfl, hr, ⟨g0, g1, g2⟩, rfl, rfl⟩
  obtain rfl | rfl | rfl | rfl : r = 0 ∨ r = 1 ∨ r = 2 ∨ r = 3 := by omega
  · have t0 : decide (((0 : Nat) : Int) < 3) = true := by decide
    have t4 := winc (i := 0) (by decide)
    conv => whnf
    (repeat ((first | refine step_w1 rfl rfl ?_ | refine step_i (by kernel_rfl) ?_ | refine And.intro (by first | decide | omega | (simp only [tiB5, tiB23, tiB3, tiB2, tiB9, tiB36, tiB54, tiB121, tiB34, tiB28, tiB4, tiB50, tiB52, dlen, List.length_replicate, List.length_set, List.length_map, List.length_zipWith, List.length_take, List.length_append, List.length_cons, List.length_nil]; omega)) ?_ | refine g_c (by assumption) ?_ | refine g_o (op_loadA rfl (ev_ok rfl) (tgt rfl) rfl (Nat.succ_ne_zero _) rfl) ?_ | rw [t0] | rw [t4] | rw [Int.toNat_natCast] | rw [Nat.zero_add]); conv => whnf))
    exact ⟨2, fun k => k, [5, 6, 7, 8, 16], [6], by decide, by kernel_rfl, 1, _, _, _, rfl, by decide, ⟨fun _ => rfl, fun h => by omega, fun h => by omega⟩, rfl, rfl⟩
  · have t0 : decide (((1 : Nat) : Int) < 3) = true := by decide
    have t4 := winc (i := 1) (by decide)
    conv => whnf
    (repeat ((first | refine step_w1 rfl rfl ?_ | refine step_i (by kernel_rfl) ?_ | refine And.intro (by first | decide | omega | (simp only [tiB5, tiB23, tiB3, tiB2, tiB9, tiB36, tiB54, tiB121, tiB34, tiB28, tiB4, tiB50, tiB52, dlen, List.length_replicate, List.length_set, List.length_map, List.length_zipWith, List.length_take, List.length_append, List.length_cons, List.length_nil]; omega)) ?_ | refine g_c (by assumption) ?_ | refine g_o (op_loadA rfl (ev_ok rfl) (tgt rfl) rfl (Nat.succ_ne_zero _) rfl) ?_ | rw [t0] | rw [t4] | rw [Int.toNat_natCast] | rw [Nat.zero_add]); conv => whnf))
    exact ⟨1, fun k => k, [5, 6, 7, 8, 16], [6], by decide, by kernel_rfl, 2, _, _, _, rfl, by decide, ⟨fun _ => g0 (by decide), fun _ => rfl, fun h => by omega⟩, rfl, rfl⟩
  · have t0 : decide (((2 : Nat) : Int) < 3) = true := by decide
    have t4 := winc (i := 2) (by decide)
    conv => whnf
    (repeat ((first | refine step_w1 rfl rfl ?_ | refine step_i (by kernel_rfl) ?_ | refine And.intro (by first | decide | omega | (simp only [tiB5, tiB23, tiB3, tiB2, tiB9, tiB36, tiB54, tiB121, tiB34, tiB28, tiB4, tiB50, tiB52, dlen, List.length_replicate, List.length_set, List.length_map, List.length_zipWith, List.length_take, List.length_append, List.length_cons, List.length_nil]; omega)) ?_ | refine g_c (by assumption) ?_ | refine g_o (op_loadA rfl (ev_ok rfl) (tgt rfl) rfl (Nat.succ_ne_zero _) rfl) ?_ | rw [t0] | rw [t4] | rw [Int.toNat_natCast] | rw [Nat.zero_add]); conv => whnf))
    exact ⟨0, fun k => k, [5, 6, 7, 8, 16], [6], by decide, by kernel_rfl, 3, _, _, _, rfl, by decide, ⟨fun _ => g0 (by decide), fun _ => g1 (by decide), fun _ => rfl⟩, rfl, rfl⟩
  · have t0 : decide (((3 : Nat) : Int) < 3) = false := by decide
    conv => whnf
    rw [g0 (by decide), g1 (by decide), g2 (by decide)]
    (repeat (first | (refine step_w2 rfl rfl ?_; conv => whnf)))
    exact Recast.refl _
end Go.Proofs.YtdcaodkjofkmgaaGreatDoor

namespace Go.Proofs.YtdcaodkjofkmgaaGreatDoor
open Go.Sx
set_option linter.unusedSimpArgs false
set_option linter.unusedVariables false
set_option maxRecDepth 100000
set_option maxHeartbeats 4000000

def mulUp (v : Rat) : Nat → Rat
  | 0 => v
  | m + 1 => mulUp v m * (((m + 1 : Nat) : Int) : Rat)
def divDown (v : Rat) : Nat → Rat
  | 0 => v
  | m + 1 => divDown v m / (((m + 1 : Nat) : Int) : Rat)
def ratioF (n : Nat) (l : List Nat) : Rat := divDown (l.foldl mulUp 1) n
theorem fs_nat {n : Nat} (h : n ≤ 1000) : fs (((n : Nat) : Int) : Rat) ≤ 65 := fs_int (by omega) (by omega)
theorem fs_mulUp (v : Rat) : ∀ m, m ≤ 100 → fs (mulUp v m) ≤ fs v + m * 65
  | 0, _ => by simp [mulUp]
  | m + 1, h => by
    have h1 := fs_mulUp v m (by omega)
    have h2 := fs_mul (mulUp v m) (((m + 1 : Nat) : Int) : Rat)
    have h3 := fs_nat (n := m + 1) (by omega)
    rw [mulUp, Nat.succ_mul]; omega
theorem fs_divDown (v : Rat) : ∀ m, m ≤ 100 → fs (divDown v m) ≤ fs v + m * 65
  | 0, _ => by simp [divDown]
  | m + 1, h => by
    have h1 := fs_divDown v m (by omega)
    have h2 := fs_div (divDown v m) (((m + 1 : Nat) : Int) : Rat)
    have h3 := fs_nat (n := m + 1) (by omega)
    rw [divDown, Nat.succ_mul]; omega
theorem fs_mulUps : ∀ (l : List Nat) (v : Rat), (∀ m ∈ l, m ≤ 100) → fs (l.foldl mulUp v) ≤ fs v + l.length * 6500
  | [], v, _ => by simp
  | m :: l, v, h => by
    have h1 := fs_mulUps l (mulUp v m) (fun x hx => h x (List.mem_cons_of_mem _ hx))
    have h2 := fs_mulUp v m (h m (List.mem_cons_self ..))
    have h3 := Nat.mul_le_mul_right 65 (h m (List.mem_cons_self ..))
    rw [List.foldl_cons, List.length_cons, Nat.succ_mul]; omega
theorem foldN (f : Rat → Nat → Rat) (l : List Nat) (i : Nat) (hi : i < l.length) (s : Rat) : (l.take (i + 1)).foldl f s = f ((l.take i).foldl f s) (l.getD i 0) := by
  rw [List.take_add_one, List.getD_eq_getElem?_getD, List.getElem?_eq_getElem hi, List.foldl_append]; rfl

theorem c_ratio (n : Nat) (hn : n ≤ 100) (l : List Nat) (hl : l.length ≤ 10) (hb : ∀ m ∈ l, m ≤ 100) :
    CallOK Tryz.prog 116 [.val (.int .i64 (n : Nat)), mvec 1 (fun m : Nat => .val (.int .i64 (m : Nat))) l] [] (.frac (ratioF n l)) [] [] := by
  have k0 := c_fInt 1 (by decide) (by decide)
  refine callV (Z := []) tabOK mixedOK Tryz.func116 rfl (by kernel_rfl) rfl rfl (by kernel_rfl) rfl ?_
  intro W0 w0 ρ0 hE
  conv => whnf
  (repeat (first | (refine g_c (by assumption) ?_; conv => whnf) | (refine g_o (op_lenM rfl rfl rfl (ev_ok rfl) (tgt rfl) rfl) ?_; conv => whnf)))
  refine SW_loopN hE (fun k => k) [0, 4, 5, 11, 12, 13] [4, 5] (fun m fr hp => ∃ i, m = l.length - i ∧ i ≤ l.length ∧ fr = [(0, .val (.int .i64 (n : Nat))), (4, .ptr 4 0 0 0), (5, .ptr 5 0 0 0), (11, mvec 1 (fun m : Nat => .val (.int .i64 (m : Nat))) l), (12, .val (.int .i64 (l.length : Nat))), (13, .val (.int .i64 (i : Nat)))] ∧
    hp = [(4, fb 0), (5, fb ((l.take i).foldl mulUp 1))]) l.length ?_ ?_ ?_
  · kernel_rfl
  · exact ⟨0, rfl, Nat.zero_le _, rfl, rfl⟩
  rintro m _ _ ⟨i, rfl, hi, rfl, rfl⟩
  conv => whnf
  by_cases hlt : i < l.length
  · have t1 := dlt hlt
    have t2 := winc (i := i) (by omega)
    have hm := hb (l.getD i 0) (by rw [List.getD_eq_getElem?_getD, List.getElem?_eq_getElem hlt]; exact List.getElem_mem hlt)
    have hs := fs_mulUps (l.take i) 1 (fun x hx => hb x (List.mem_of_mem_take hx))
    have hs2 : (l.take i).length * 6500 ≤ 10 * 6500 := Nat.mul_le_mul_right _ (by rw [List.length_take]; omega)
    rw [fs_one] at hs
    have hf := foldN mulUp l i hlt 1
    generalize (l.take i).foldl mulUp 1 = V at *
    (repeat ((first | refine step_w1 rfl rfl ?_ | refine g_o (op_loadA rfl (ev_ok rfl) (tgt rfl) rfl (Nat.succ_ne_zero _) rfl) ?_ | refine g_o (op_indexN (α := Nat) (d := 0) rfl (ev_ok rfl) (ev_ok rfl) (tgt rfl) rfl (tgt rfl) rfl (by omega)) ?_ | rw [t1]); conv => whnf))
    generalize l.getD i 0 = q at *
    refine SW_loopN hE (fun k => k) [0, 4, 5, 7, 11, 12, 13, 17, 18] [4, 5] (fun m fr hp => ∃ r, m = q - r ∧ r ≤ q ∧ fr = [(0, .val (.int .i64 (n : Nat))), (4, .ptr 4 0 0 0), (5, .ptr 5 0 0 0), (7, .val (.int .i64 (q : Nat))), (11, mvec 1 (fun m : Nat => .val (.int .i64 (m : Nat))) l), (12, .val (.int .i64 (l.length : Nat))), (13, .val (.int .i64 (i : Nat))), (17, .val (.int .i64 (q : Nat))), (18, .val (.int .i64 (r : Nat)))] ∧
      hp = [(4, fb 0), (5, fb (mulUp V r))]) q ?_ ?_ ?_
    · kernel_rfl
    · exact ⟨0, rfl, Nat.zero_le _, rfl, rfl⟩
    rintro m _ _ ⟨r, rfl, hr, rfl, rfl⟩
    conv => whnf
    by_cases hlt2 : r < q
    · have t3 := dlt hlt2
      have t4 := winc (i := r) (by omega)
      have hv := fs_mulUp V r (by omega)
      have hi3 := fs_nat (n := r + 1) (by omega)
      have k1 := c_fInt ((r + 1 : Nat) : Int) (by omega) (by omega)
      have k2 := f_Mul (mulUp V r) (((r + 1 : Nat) : Int) : Rat) (by omega)
      (repeat ((first | refine step_w1 rfl rfl ?_ | refine step_i (by kernel_rfl) ?_ | refine g_c (by assumption) ?_ | rw [t3] | rw [t4]); conv => whnf))
      exact ⟨q - (r + 1), fun k => k, [0, 4, 5, 7, 11, 12, 13, 17, 18], [4, 5], by omega, by kernel_rfl, r + 1, rfl, hlt2, rfl, rfl⟩
    · have t3 := dge hlt2
      have hR : r = q := by omega
      subst hR
      (repeat (first | (refine step_w2 rfl rfl ?_; conv => whnf) | (rw [t3]; conv => whnf) | (rw [t2]; conv => whnf)))
      exact ⟨l.length - (i + 1), fun k => k, [0, 4, 5, 11, 12, 13], [4, 5], by omega, by kernel_rfl, i + 1, rfl, hlt, rfl, by rw [hf]; rfl⟩
  · have t1 := dge hlt
    have hI : i = l.length := by omega
    subst hI
    have hs := fs_mulUps l 1 hb
    rw [fs_one] at hs
    rw [List.take_length]
    unfold ratioF
    generalize l.foldl mulUp 1 = V at *
    (repeat (first | (refine step_w2 rfl rfl ?_; conv => whnf) | (rw [t1]; conv => whnf)))
    refine SW_loopN hE (fun k => k) [4, 5, 28, 29] [4, 5] (fun m fr hp => ∃ r, m = n - r ∧ r ≤ n ∧ fr = [(4, .ptr 4 0 0 0), (5, .ptr 5 0 0 0), (28, .val (.int .i64 (n : Nat))), (29, .val (.int .i64 (r : Nat)))] ∧
      hp = [(4, fb 0), (5, fb (divDown V r))]) n ?_ ?_ ?_
    · kernel_rfl
    · exact ⟨0, rfl, Nat.zero_le _, rfl, rfl⟩
    rintro m _ _ ⟨r, rfl, hr, rfl, rfl⟩
    conv => whnf
    by_cases hlt2 : r < n
    · have t3 := dlt hlt2
      have t4 := winc (i := r) (by omega)
      have hv := fs_divDown V r (by omega)
      have hi3 := fs_nat (n := r + 1) (by omega)
      have hl2 : l.length * 6500 ≤ 10 * 6500 := Nat.mul_le_mul_right _ hl
      have k1 := c_fInt ((r + 1 : Nat) : Int) (by omega) (by omega)
      have k2 := f_Div (divDown V r) (((r + 1 : Nat) : Int) : Rat) (by
        intro h0
        have : ((r + 1 : Nat) : Int) = 0 := by exact_mod_cast h0
        omega) (by omega)
      (repeat ((first | refine step_w1 rfl rfl ?_ | refine step_i (by kernel_rfl) ?_ | refine g_c (by assumption) ?_ | rw [t3] | rw [t4]); conv => whnf))
      exact ⟨n - (r + 1), fun k => k, [4, 5, 28, 29], [4, 5], by omega, by kernel_rfl, r + 1, rfl, hlt2, rfl, rfl⟩
    · have t3 := dge hlt2
      have hR : r = n := by omega
      subst hR
      (repeat (first | (refine step_w2 rfl rfl ?_; conv => whnf) | (rw [t3]; conv => whnf)))
      exact Recast.refl _

def momF (i j k : Nat) : Rat := ((2 : Int) : Rat) * ratioF (i + j + k + 2) [i, j, k]
theorem wadd {a b : Nat} (h : a + b < 4611686018427387904) : IntKind.i64.wrap ((a : Int) + (b : Int)) = ((a + b : Nat) : Int) := by rw [wrap_i64 (by omega) (by omega)]; omega
theorem wadd2 {a : Nat} (h : a < 4611686018427387904) : IntKind.i64.wrap ((a : Int) + 2) = ((a + 2 : Nat) : Int) := by rw [wrap_i64 (by omega) (by omega)]; omega
theorem fs_ratio {n : Nat} (hn : n ≤ 100) {l : List Nat} (hl : l.length ≤ 10) (hb : ∀ m ∈ l, m ≤ 100) : fs (ratioF n l) ≤ 80000 := by
  have h1 := fs_divDown (l.foldl mulUp 1) n hn
  have h2 := fs_mulUps l 1 hb
  have h3 : l.length * 6500 ≤ 10 * 6500 := Nat.mul_le_mul_right _ hl
  rw [fs_one] at h2
  unfold ratioF; omega
theorem c_Moment (i j k : Nat) (hi : i ≤ 20) (hj : j ≤ 20) (hk : k ≤ 20) :
    CallOK Tryz.prog 81 [.val (.int .i64 (i : Nat)), .val (.int .i64 (j : Nat)), .val (.int .i64 (k : Nat))] [] (.frac (momF i j k)) [] [] := by
  have k0 := c_fInt 2 (by decide) (by decide)
  have hb : ∀ m ∈ [i, j, k], m ≤ 100 := by intro m hm; simp only [List.mem_cons, List.not_mem_nil, or_false] at hm; omega
  have k1 := c_ratio (i + j + k + 2) (by omega) [i, j, k] (by simp) hb
  have h1 := fs_ratio (n := i + j + k + 2) (by omega) (l := [i, j, k]) (by simp) hb
  have k2 := f_Mul ((2 : Int) : Rat) (ratioF (i + j + k + 2) [i, j, k]) (by have := fs_int (n := 2) (by decide) (by decide); omega)
  have t1 := wadd (a := i) (b := j) (by omega)
  have t2 := wadd (a := i + j) (b := k) (by omega)
  have t3 := wadd2 (a := i + j + k) (by omega)
  unfold momF
  generalize ratioF (i + j + k + 2) [i, j, k] = R at *
  refine callV (Z := [34]) tabOK mixedOK Tryz.func81 rfl (by kernel_rfl) rfl rfl (by kernel_rfl) rfl ?_
  intro W0 w0 ρ0 hE
  conv => whnf
  skip
  refine SW_loopN hE (fun k => k) [0, 1, 2, 6, 12, 13] [6] (fun m fr hp => ∃ r, m = 3 - r ∧ r ≤ 3 ∧ fr = [(0, .val (.int .i64 (i : Nat))), (1, .val (.int .i64 (j : Nat))), (2, .val (.int .i64 (k : Nat))), (6, .ptr 6 0 0 0), (12, .agg [.val (.int .i64 (i : Nat)), .val (.int .i64 (j : Nat)), .val (.int .i64 (k : Nat))]), (13, .val (.int .i64 (r : Nat)))] ∧
    hp = [(6, fb 0)]) 3 ?_ ?_ ?_
  · kernel_rfl
  · exact ⟨0, rfl, by decide, rfl, rfl⟩
  rintro m _ _ ⟨r, rfl, hr, rfl, rfl⟩
  obtain rfl | rfl | rfl | rfl : r = 0 ∨ r = 1 ∨ r = 2 ∨ r = 3 := by omega
  · skip
    have t0 : decide (((0 : Nat) : Int) < 3) = true := by decide
    have t4 := winc (i := 0) (by decide)
    have t5 : decide (((i : Nat) : Int) < 0) = false := decide_eq_false (by omega)
    have t6 : decide (((i : Nat) : Int) > 48) = false := decide_eq_false (by omega)
    conv => whnf
    (repeat ((first | refine step_w1 rfl rfl ?_ | refine step_w2 rfl rfl ?_ | refine g_o (op_pickF rfl (ev_ok rfl) (ev_ok rfl)) ?_ | refine ⟨_, [], [], op_indexAgg rfl (ev_ok rfl) (l := [.int .i64 (i : Nat), .int .i64 (j : Nat), .int .i64 (k : Nat)]) rfl (ev_ok rfl) (tgt rfl) rfl (tgt rfl) rfl rfl (by decide) (by decide) (v := .int .i64 (i : Nat)) rfl rfl, nil_fk, nil_new, ?_⟩ | rw [t0] | rw [t4] | rw [t5] | rw [t6] | rw [Nat.zero_add]); conv => whnf))
    exact ⟨2, fun k => k, [0, 1, 2, 6, 12, 13], [6], by decide, by kernel_rfl, 1, rfl, by decide, rfl, rfl⟩
  · skip
    have t0 : decide (((1 : Nat) : Int) < 3) = true := by decide
    have t4 := winc (i := 1) (by decide)
    have t5 : decide (((j : Nat) : Int) < 0) = false := decide_eq_false (by omega)
    have t6 : decide (((j : Nat) : Int) > 48) = false := decide_eq_false (by omega)
    conv => whnf
    (repeat ((first | refine step_w1 rfl rfl ?_ | refine step_w2 rfl rfl ?_ | refine g_o (op_pickF rfl (ev_ok rfl) (ev_ok rfl)) ?_ | refine ⟨_, [], [], op_indexAgg rfl (ev_ok rfl) (l := [.int .i64 (i : Nat), .int .i64 (j : Nat), .int .i64 (k : Nat)]) rfl (ev_ok rfl) (tgt rfl) rfl (tgt rfl) rfl rfl (by decide) (by decide) (v := .int .i64 (j : Nat)) rfl rfl, nil_fk, nil_new, ?_⟩ | rw [t0] | rw [t4] | rw [t5] | rw [t6]); conv => whnf))
    exact ⟨1, fun k => k, [0, 1, 2, 6, 12, 13], [6], by decide, by kernel_rfl, 2, rfl, by decide, rfl, rfl⟩
  · skip
    have t0 : decide (((2 : Nat) : Int) < 3) = true := by decide
    have t4 := winc (i := 2) (by decide)
    have t5 : decide (((k : Nat) : Int) < 0) = false := decide_eq_false (by omega)
    have t6 : decide (((k : Nat) : Int) > 48) = false := decide_eq_false (by omega)
    conv => whnf
    (repeat ((first | refine step_w1 rfl rfl ?_ | refine step_w2 rfl rfl ?_ | refine g_o (op_pickF rfl (ev_ok rfl) (ev_ok rfl)) ?_ | refine ⟨_, [], [], op_indexAgg rfl (ev_ok rfl) (l := [.int .i64 (i : Nat), .int .i64 (j : Nat), .int .i64 (k : Nat)]) rfl (ev_ok rfl) (tgt rfl) rfl (tgt rfl) rfl rfl (by decide) (by decide) (v := .int .i64 (k : Nat)) rfl rfl, nil_fk, nil_new, ?_⟩ | rw [t0] | rw [t4] | rw [t5] | rw [t6]); conv => whnf))
    exact ⟨0, fun k => k, [0, 1, 2, 6, 12, 13], [6], by decide, by kernel_rfl, 3, rfl, by decide, rfl, rfl⟩
  · have t0 : decide (((3 : Nat) : Int) < 3) = false := by decide
    conv => whnf
    (repeat ((first | refine step_w2 rfl rfl ?_ | refine g_c (by assumption) ?_ | rw [t0] | rw [t1] | rw [t2] | rw [t3]); conv => whnf))
    exact Recast.refl _
end Go.Proofs.YtdcaodkjofkmgaaGreatDoor

namespace Go.Proofs.YtdcaodkjofkmgaaGreatDoor
open Go.Sx
set_option linter.unusedSimpArgs false
set_option linter.unusedVariables false
set_option maxRecDepth 100000
set_option maxHeartbeats 4000000

/-- A power's box. -/
def pbk (q : Pw) : Blk := ⟨83, true, .one [.val (.int .i64 (q.i : Nat)), .val (.int .i64 (q.j : Nat)), .val (.int .i64 (q.k : Nat)), .frac q.c]⟩
theorem NamesOK.three {q r t : Nat} {b c d : Blk} {σ : Nat → Nat} (h1 : σ q ≠ σ r) (h2 : σ q ≠ σ t) (h3 : σ r ≠ σ t) : NamesOK [(q, b), (r, c), (t, d)] [] σ :=
  ⟨(fun x y b b' hx hy hne _ => by
    simp only [List.mem_cons, List.not_mem_nil, or_false, Prod.mk.injEq] at hx hy
    rcases hx with ⟨rfl, _⟩ | ⟨rfl, _⟩ | ⟨rfl, _⟩ <;> rcases hy with ⟨rfl, _⟩ | ⟨rfl, _⟩ | ⟨rfl, _⟩ <;> first | exact absurd rfl hne | assumption | (exact fun h => h1 h.symm) | (exact fun h => h2 h.symm) | (exact fun h => h3 h.symm)),
   (fun _ _ h => by simp [keysOf] at h), (fun _ _ h => by simp [keysOf] at h)⟩
section
variable {P : Program} {kl : Nat} {rc : Loop} {us : List Nat} {cap : List SV} {args : List SV} {hp : List (Nat × Blk)} {c : SV}
theorem g_y3 {k : SV → List (Nat × Blk) → List (Nat × Blk) → List (Nat × Blk) → Prop} {a b e : Nat} {A B D A' B' D' : Blk} (h : YldOK P kl rc us cap args [(a, A), (b, B), (e, D)] c [] [(a, A'), (b, B'), (e, D')]) (ha : find hp a = some A) (hb : find hp b = some B) (hd : find hp e = some D)
    (wA : A.wr = true ∧ A.data.live = true ∧ A'.wr = true) (wB : B.wr = true ∧ B.data.live = true ∧ B'.wr = true) (wD : D.wr = true ∧ D.data.live = true ∧ D'.wr = true) (hk : k c [(a, A), (b, B), (e, D)] [] [(a, A'), (b, B'), (e, D')]) :
    ∃ fk c new upd, YldOK P kl rc us cap args fk c new upd ∧ (∀ j b, (j, b) ∈ fk → find hp j = some b) ∧ (∀ j b, (j, b) ∈ new → find hp j = none) ∧ (∀ j b, (j, b) ∈ upd → ∃ b0, (j, b0) ∈ fk ∧ b0.wr = true ∧ b0.data.live = true ∧ b.wr = true) ∧ k c fk new upd :=
  ⟨[(a, A), (b, B), (e, D)], c, [], [(a, A'), (b, B'), (e, D')], h, (fun j x hm => by
    simp only [List.mem_cons, Prod.mk.injEq, List.not_mem_nil, or_false] at hm
    rcases hm with ⟨rfl, rfl⟩ | ⟨rfl, rfl⟩ | ⟨rfl, rfl⟩ <;> assumption), nil_new, (fun j x hm => by
    simp only [List.mem_cons, Prod.mk.injEq, List.not_mem_nil, or_false] at hm
    rcases hm with ⟨rfl, rfl⟩ | ⟨rfl, rfl⟩ | ⟨rfl, rfl⟩
    · exact ⟨A, by simp, wA.1, wA.2.1, wA.2.2⟩
    · exact ⟨B, by simp, wB.1, wB.2.1, wB.2.2⟩
    · exact ⟨D, by simp, wD.1, wD.2.1, wD.2.2⟩), hk⟩
end
theorem fin3 {a b c : Nat} {A B C : Blk} {hp : List (Nat × Blk)} (ha : find hp a = some A) (hb : find hp b = some B) (hc : find hp c = some C) : ∀ k x, (k, x) ∈ [(a, A), (b, B), (c, C)] → find hp k = some x := fun k x hm => by
  simp only [List.mem_cons, Prod.mk.injEq, List.not_mem_nil, or_false] at hm
  rcases hm with ⟨rfl, rfl⟩ | ⟨rfl, rfl⟩ | ⟨rfl, rfl⟩ <;> assumption

/-- An iterator over a list of powers, at a loop in a loop's round: the outer power's box stays. -/
def ItOK2 (f : FuncId) (icap : List SV) (l : List Pw) : Prop := ∀ (rc : Loop) (ts : List Nat) (q : Pw) (S : Nat → Rat),
  (∀ i, i < l.length → YldOK Tryz.prog 5001 rc ts [.ptr 5005 0 0 0, .ptr 5004 0 0 0] [(l.getD i pw0).sv] [(5001, lb rc), (5004, fb (S i)), (5005, pbk q)] (.val (.bool true)) [] [(5001, lb rc), (5004, fb (S (i + 1))), (5005, pbk q)]) →
  CallOK Tryz.prog f (.yld 5001 rc ts [.ptr 5 0 0 0, .ptr 5004 0 0 0] :: icap) [(5001, lb rc), (5004, fb (S 0)), (5, pbk q)] (.tup []) [] [(5001, lb rc), (5004, fb (S l.length)), (5, pbk q)]

theorem it2_Values (l : List Pw) (hl : l.length < 1000) : ItOK2 68 [ptrA [mvec 8 Pw.sv l]] l := by
  intro rc ts q S hY
  refine callK (Z := []) tabOK mixedOK Tryz.func68 rfl (by kernel_rfl) (args := [.yld 5001 rc ts [.ptr 5005 0 0 0, .ptr 5004 0 0 0], ptrA [mvec 8 Pw.sv l]]) (fk := [(5001, lb rc), (5004, fb (S 0)), (5005, pbk q)]) (c := .tup []) (new := []) (upd := [(5001, lb rc), (5004, fb (S l.length)), (5005, pbk q)]) (ShapeOK.of rfl rfl rfl rfl rfl rfl rfl rfl rfl rfl rfl) rfl (renBy [(5005, 5)]) (NamesOK.three (by decide) (by decide) (by decide)) ?_
  intro W0 w0 ρ0 hE
  conv => whnf
  (repeat (first | (refine g_o (op_lenM rfl rfl rfl (ev_ok rfl) (tgt rfl) rfl) ?_; conv => whnf) | (refine g_o (op_loadA rfl (ev_ok rfl) (tgt rfl) rfl (Nat.succ_ne_zero _) rfl) ?_; conv => whnf)))
  refine SW_loopN hE (fun k => k) [0, 5, 6, 7] [5001, 5004, 5005] (fun m fr hp => ∃ i, m = l.length - i ∧ i ≤ l.length ∧ fr = [(0, .yld 5001 rc ts [.ptr 5005 0 0 0, .ptr 5004 0 0 0]), (5, mvec 8 Pw.sv l), (6, .val (.int .i64 (l.length : Nat))), (7, .val (.int .i64 (i : Nat)))] ∧
    hp = [(5001, lb rc), (5004, fb (S i)), (5005, pbk q)]) l.length ?_ ?_ ?_
  · kernel_rfl
  · exact ⟨0, rfl, Nat.zero_le _, rfl, rfl⟩
  rintro m _ _ ⟨i, rfl, hi, rfl, rfl⟩
  conv => whnf
  by_cases hlt : i < l.length
  · have t1 := dlt hlt
    have t2 := winc (i := i) (by omega)
    have hy := hY i hlt
    (repeat ((first | refine step_w1 rfl rfl ?_ | refine step_w2 rfl rfl ?_ | refine g_o (op_loadA rfl (ev_ok rfl) (tgt rfl) rfl (Nat.succ_ne_zero _) rfl) ?_ | refine g_o (op_indexN (α := Pw) (d := pw0) rfl (ev_ok rfl) (ev_ok rfl) (tgt rfl) rfl (tgt rfl) rfl (by omega)) ?_ | refine g_y3 hy rfl rfl rfl ⟨rfl, rfl, rfl⟩ ⟨rfl, rfl, rfl⟩ ⟨rfl, rfl, rfl⟩ ?_ | rw [t1] | rw [t2]); conv => whnf))
    exact ⟨l.length - (i + 1), fun k => k, [0, 5, 6, 7], [5001, 5004, 5005], by omega, by kernel_rfl, i + 1, rfl, hlt, rfl, rfl⟩
  · have t1 := dge hlt
    have hI : i = l.length := by omega
    subst hI
    (repeat (first | (refine step_w2 rfl rfl ?_; conv => whnf) | (rw [t1]; conv => whnf)))
    exact ⟨Recast.refl _, (fun _ _ h => by cases h), fin3 rfl rfl rfl⟩
end Go.Proofs.YtdcaodkjofkmgaaGreatDoor

namespace Go.Proofs.YtdcaodkjofkmgaaGreatDoor
open Go.Sx
set_option linter.unusedSimpArgs false
set_option linter.unusedVariables false
set_option maxRecDepth 100000
set_option maxHeartbeats 4000000

def termF (p q : Pw) : Rat := p.c * q.c * momF (p.i + q.i) (p.j + q.j) (p.k + q.k)
def rowF (b : List Pw) (s : Rat) (p : Pw) : Rat := b.foldl (fun s q => s + termF p q) s
def togF (a b : List Pw) : Rat := a.foldl (rowF b) 0
def Pw.sm (p : Pw) : Prop := p.i ≤ 8 ∧ p.j ≤ 8 ∧ p.k ≤ 8 ∧ fs p.c ≤ 1000
theorem fs_mom {i j k : Nat} (hi : i ≤ 20) (hj : j ≤ 20) (hk : k ≤ 20) : fs (momF i j k) ≤ 81000 := by
  have h1 := fs_ratio (n := i + j + k + 2) (by omega) (l := [i, j, k]) (by simp) (by intro m hm; simp only [List.mem_cons, List.not_mem_nil, or_false] at hm; omega)
  have h2 := fs_mul ((2 : Int) : Rat) (ratioF (i + j + k + 2) [i, j, k])
  have h3 := fs_int (n := 2) (by decide) (by decide)
  unfold momF; omega
theorem fs_term {p q : Pw} (hp : p.sm) (hq : q.sm) : fs (termF p q) ≤ 90000 := by
  have h1 := fs_mul p.c q.c
  have h2 := fs_mul (p.c * q.c) (momF (p.i + q.i) (p.j + q.j) (p.k + q.k))
  have h3 := fs_mom (i := p.i + q.i) (j := p.j + q.j) (k := p.k + q.k) (by have := hp.1; have := hq.1; omega) (by have := hp.2.1; have := hq.2.1; omega) (by have := hp.2.2.1; have := hq.2.2.1; omega)
  have := hp.2.2.2
  have := hq.2.2.2
  unfold termF; omega
theorem fs_row {p : Pw} (hp : p.sm) : ∀ (b : List Pw) (s : Rat), (∀ q ∈ b, q.sm) → fs (rowF b s p) ≤ fs s + b.length * 90000
  | [], s, _ => by simp [rowF]
  | q :: b, s, h => by
    have h1 := fs_row hp b (s + termF p q) (fun x hx => h x (List.mem_cons_of_mem _ hx))
    have h2 := fs_term hp (h q (List.mem_cons_self ..))
    have h3 := fs_add s (termF p q)
    rw [show rowF (q :: b) s p = rowF b (s + termF p q) p from rfl, List.length_cons, Nat.succ_mul]; omega
theorem fs_tog {b : List Pw} (hb : ∀ q ∈ b, q.sm) (hl : b.length ≤ 10) : ∀ (a : List Pw) (s : Rat), (∀ q ∈ a, q.sm) → fs (a.foldl (rowF b) s) ≤ fs s + a.length * 900000
  | [], s, _ => by simp
  | p :: a, s, h => by
    have h1 := fs_tog hb hl a (rowF b s p) (fun x hx => h x (List.mem_cons_of_mem _ hx))
    have h2 := fs_row (h p (List.mem_cons_self ..)) b s hb
    have h3 : b.length * 90000 ≤ 10 * 90000 := Nat.mul_le_mul_right _ hl
    rw [List.foldl_cons, List.length_cons, Nat.succ_mul]; omega
theorem RoundOK.two' {x : SV} {cap : List SV} {k m : Nat} {s t : Rat} {q : Pw} (hkm : k ≠ m) (px : passable x = true) (pc : cap.all passable = true) (rx : subN (refs x) [k, m] = true) (rc : subN (refsL cap) [k, m] = true) (hn : nodupN [k, m] = true) :
    RoundOK x cap [(k, fb s), (m, pbk q)] [(k, fb t), (m, pbk q)] :=
  ⟨px, pc, hn, rx, rc, rfl, (fun q b hm => by simp only [List.mem_cons, List.not_mem_nil, or_false, Prod.mk.injEq] at hm; rcases hm with ⟨rfl, rfl⟩ | ⟨rfl, rfl⟩ <;> rfl),
   (fun q b hm => by
    simp only [List.mem_cons, List.not_mem_nil, or_false, Prod.mk.injEq] at hm
    rcases hm with ⟨rfl, rfl⟩ | ⟨rfl, rfl⟩
    · exact ⟨fb s, by simp, rfl, rfl, rfl, rfl, rfl⟩
    · exact ⟨_, List.mem_cons_of_mem _ (List.mem_cons_self ..), rfl, rfl, rfl, rfl, rfl⟩),
   (fun q b hm _ _ => by
    simp only [List.mem_cons, List.not_mem_nil, or_false, Prod.mk.injEq] at hm
    rcases hm with ⟨rfl, rfl⟩ | ⟨rfl, rfl⟩
    · exact ⟨_, List.mem_cons_self ..⟩
    · exact ⟨_, List.mem_cons_of_mem _ (List.mem_cons_self ..)⟩)⟩
theorem up2 {a b : Nat} {A B A' B' : Blk} (wA : A.wr = true ∧ A.data.live = true ∧ A'.wr = true) (wB : B.wr = true ∧ B.data.live = true ∧ B'.wr = true) : ∀ j x, (j, x) ∈ [(a, A'), (b, B')] → ∃ b0, (j, b0) ∈ [(a, A), (b, B)] ∧ b0.wr = true ∧ b0.data.live = true ∧ x.wr = true := fun j x hm => by
  simp only [List.mem_cons, Prod.mk.injEq, List.not_mem_nil, or_false] at hm
  rcases hm with ⟨rfl, rfl⟩ | ⟨rfl, rfl⟩
  · exact ⟨A, List.mem_cons_self .., wA.1, wA.2.1, wA.2.2⟩
  · exact ⟨B, List.mem_cons_of_mem _ (List.mem_cons_self ..), wB.1, wB.2.1, wB.2.2⟩
theorem lv2 {a b : Nat} {A B : Blk} (wA : A.data.live = true ∧ keylessD A.data = true) (wB : B.data.live = true ∧ keylessD B.data = true) : ∀ j x, (j, x) ∈ [(a, A), (b, B)] → x.data.live = true ∧ keylessD x.data = true := fun j x hm => by
  simp only [List.mem_cons, Prod.mk.injEq, List.not_mem_nil, or_false] at hm
  rcases hm with ⟨rfl, rfl⟩ | ⟨rfl, rfl⟩
  · exact wA
  · exact wB
theorem fk2 {a b : Nat} {A B : Blk} {hp : List (Nat × Blk)} (ha : find hp a = some A) (hb : find hp b = some B) : ∀ k x, (k, x) ∈ [(a, A), (b, B)] → find hp k = some x := fin2 ha hb

theorem c_togV (a b : List Pw) (hla : a.length ≤ 10) (hlb : b.length ≤ 10) (ha : ∀ p ∈ a, p.sm) (hb : ∀ p ∈ b, p.sm) (v u : List SV) (hI : ItOK 68 [ptrA v] a) (hJ : ItOK2 68 [ptrA u] b) :
    CallOK Tryz.prog 49 [.clo 68 [] [ptrA v], .clo 68 [] [ptrA u]] [] (.frac (togF a b)) [] [] := by
  refine callV (Z := [3]) tabOK mixedOK Tryz.func49 rfl (by kernel_rfl) rfl rfl (by kernel_rfl) rfl ?_
  intro W0 w0 ρ0 hE
  conv => whnf
  skip
  refine SWx_range 5000 [3, 4] [ptrA [.clo 68 [] [ptrA u]], .ptr 4 0 0 0] [(4, fb ((a.take 0).foldl (rowF b) 0))] [(4, fb ((a.take a.length).foldl (rowF b) 0))] (cc := .tup []) [7, 3, 4] rfl (fun _ h => by cases h) rfl ⟨_, rfl, by kernel_rfl, rfl⟩ (fun rc r1 r2 r3 r4 r5 r6 => ?_) rfl (one_fk rfl) (two_up (B := fb 0) (B' := fb 0) (b := 0) ⟨rfl, rfl, rfl⟩) (one_lv ⟨rfl, rfl⟩) ?_
  · refine hI rc [3, 4] [.clo 68 [] [ptrA u]] (fun i => (a.take i).foldl (rowF b) 0) (fun i hi => ?_)
    have hp := ha _ (getP_mem hi)
    have hs := fs_tog hb hlb (a.take i) 0 (fun p hp => ha p (List.mem_of_mem_take hp))
    have hs2 : (a.take i).length * 900000 ≤ 10 * 900000 := Nat.mul_le_mul_right _ (by rw [List.length_take]; omega)
    rw [fs_zero] at hs
    rw [foldP _ a i hi]
    generalize (a.take i).foldl (rowF b) 0 = s at *
    generalize a.getD i pw0 = p at *
    clear hI ha
    refine yldK (Z := []) tabOK mixedOK r1 r2 r3 r4 r5 r6 (Nat.le_of_ble_eq_true (by kernel_rfl)) (RoundOK.one rfl rfl rfl rfl) ?_
    intro W0 w0 ρ0 lp hE
    conv => whnf
    refine ⟨rfl, fun w1 hE hro1 hro2 => ?_⟩
    conv => whnf
    (repeat (first | (refine g_o (op_loadA rfl (ev_ok rfl) (tgt rfl) rfl (Nat.succ_ne_zero _) rfl) ?_; conv => whnf)))
    refine SWx_range 5001 [5, 4] [.ptr 5 0 0 0, .ptr 5004 0 0 0] [(5004, fb ((b.take 0).foldl (fun s q => s + termF p q) s)), (5, pbk p)] [(5004, fb ((b.take b.length).foldl (fun s q => s + termF p q) s)), (5, pbk p)] (cc := .tup []) [9, 5, 4] rfl (fun l' h => by cases h; exact ⟨hro1, hro2⟩) rfl ⟨_, rfl, by kernel_rfl, rfl⟩ (fun rc' r1 r2 r3 r4 r5 r6' => ?_) rfl (fk2 rfl rfl) (up2 ⟨rfl, rfl, rfl⟩ ⟨rfl, rfl, rfl⟩) (lv2 ⟨rfl, rfl⟩ ⟨rfl, rfl⟩) ?_
    · refine hJ rc' [5, 4] p (fun i => (b.take i).foldl (fun s q => s + termF p q) s) (fun i hi => ?_)
      have hq := hb _ (getP_mem hi)
      have hv := fs_row hp (b.take i) s (fun q hq => hb q (List.mem_of_mem_take hq))
      have hv2 : (b.take i).length * 90000 ≤ 10 * 90000 := Nat.mul_le_mul_right _ (by rw [List.length_take]; omega)
      unfold rowF at hv
      rw [foldP _ b i hi]
      generalize (b.take i).foldl (fun s q => s + termF p q) s = u at *
      generalize b.getD i pw0 = q at *
      clear hJ hb
      have hi1 := hp.1
      have hj1 := hp.2.1
      have hk1 := hp.2.2.1
      have hi2 := hq.1
      have hj2 := hq.2.1
      have hk2 := hq.2.2.1
      have t1 := wadd (a := p.i) (b := q.i) (by omega)
      have t2 := wadd (a := p.j) (b := q.j) (by omega)
      have t3 := wadd (a := p.k) (b := q.k) (by omega)
      have k1 := f_Mul p.c q.c (by have := hp.2.2.2; have := hq.2.2.2; omega)
      have k2 := c_Moment (p.i + q.i) (p.j + q.j) (p.k + q.k) (by omega) (by omega) (by omega)
      have hm := fs_mom (i := p.i + q.i) (j := p.j + q.j) (k := p.k + q.k) (by omega) (by omega) (by omega)
      have hpc := fs_mul p.c q.c
      have k3 := f_Mul (p.c * q.c) (momF (p.i + q.i) (p.j + q.j) (p.k + q.k)) (by have := hp.2.2.2; have := hq.2.2.2; omega)
      have ht := fs_term hp hq
      have k4 := f_Add u (p.c * q.c * momF (p.i + q.i) (p.j + q.j) (p.k + q.k)) (by unfold termF at ht; omega)
      refine yldK (Z := []) tabOK mixedOK r1 r2 r3 r4 r5 r6' (Nat.le_of_ble_eq_true (by kernel_rfl)) (RoundOK.two' (by decide) rfl rfl rfl rfl rfl) ?_
      intro W0 w0 ρ0 lp hE
      conv => whnf
      refine ⟨rfl, fun w1 hE _ _ => ?_⟩
      conv => whnf
      (repeat ((first | refine step_i (by kernel_rfl) ?_ | refine g_c (by assumption) ?_ | rw [t1] | rw [t2] | rw [t3]); conv => whnf))
      exact fin2 rfl rfl
    conv => whnf
    intro q x hm
    simp only [List.mem_singleton, Prod.mk.injEq] at hm
    obtain ⟨rfl, rfl⟩ := hm
    rw [List.take_length]
    rfl
  conv => whnf
  skip
  rw [List.take_length]
  exact Recast.refl _
theorem powersF_sm (o n : Int) : ∀ p ∈ powersF o n, p.sm := fun p hp => by
  have := (powersF_small o n).2 p hp
  exact ⟨by omega, by omega, by omega, by omega⟩
def err2 (o n m : Int) : Int := if errF o m > errF o n then errF o m else errF o n
theorem c_Mass (o n m : Int) : CallOK Tryz.prog 23 [.val (.int .i64 o), .val (.int .i64 n), .val (.int .i64 m)] [] (.tup [.frac (togF (powersF o n) (powersF o m)), .val (.int .i64 (err2 o n m))]) [] [] := by
  have k1 := c_Powers o n
  have k2 := c_Powers o m
  have l1 := (powersF_small o n).1
  have l2 := (powersF_small o m).1
  have s1 := powersF_sm o n
  have s2 := powersF_sm o m
  unfold err2
  generalize powersF o n = a at *
  generalize powersF o m = b at *
  generalize errF o n = e at *
  generalize errF o m = e' at *
  have k3 := c_Values a
  have k4 := c_Values b
  have k5 := c_togV a b (by omega) (by omega) s1 s2 [mvec 8 Pw.sv a] [mvec 8 Pw.sv b] (it_Values a (by omega)) (it2_Values b (by omega))
  refine callV (Z := []) tabOK mixedOK Tryz.func23 rfl (by kernel_rfl) rfl rfl (by kernel_rfl) rfl ?_
  intro W0 w0 ρ0 hE
  conv => whnf
  (repeat (first | (refine g_c (by assumption) ?_; conv => whnf)))
  exact Recast.refl _
end Go.Proofs.YtdcaodkjofkmgaaGreatDoor

namespace Go.Proofs.YtdcaodkjofkmgaaGreatDoor
open Go.Sx
set_option linter.unusedSimpArgs false
set_option linter.unusedVariables false
set_option maxRecDepth 100000

section
variable (a b c : Rat)
end
end Go.Proofs.YtdcaodkjofkmgaaGreatDoor

namespace Go.Proofs.YtdcaodkjofkmgaaGreatDoor
open Go.Sx
set_option linter.unusedSimpArgs false
set_option linter.unusedVariables false
set_option maxRecDepth 100000
set_option maxHeartbeats 4000000

end Go.Proofs.YtdcaodkjofkmgaaGreatDoor

namespace Go.Proofs.YtdcaodkjofkmgaaGreatDoor
open Go.Sx
set_option linter.unusedSimpArgs false
set_option linter.unusedVariables false
set_option maxRecDepth 100000
set_option maxHeartbeats 4000000

end Go.Proofs.YtdcaodkjofkmgaaGreatDoor

namespace Go.Proofs
open Go.Shelf
def Tryz.lays283_ren : Go.Shelf.Ren := ⟨fun | 283 => 141 | n => n, fun | 3 => 3 | 9 => 9 | 4 => 4 | n => n, fun | n => n⟩
theorem Tryz.lays283 : Go.Proofs.Lays.n283 Tryz.prog Tryz.lays283_ren := {
  mixed := by kernel_rfl
  f283 := Tryz.func141.trans (congrArg some (by kernel_rfl))
  t3 := Tryz.underlying3
  a3 := Tryz.isAgg3
  z3 := Tryz.sizeOf3
  v3 := Tryz.zeroValue3
  t4 := Tryz.underlying4
  a4 := Tryz.isAgg4
  z4 := Tryz.sizeOf4
  v4 := Tryz.zeroValue4
  t9 := Tryz.underlying9
  a9 := Tryz.isAgg9
  z9 := Tryz.sizeOf9
  v9 := Tryz.zeroValue9 }
open Go.Lib in
/-- internal/strconv.small: "small returns the string for an i with 0 <= i < nSmalls.": i's decimal numeral. The world is as it was. (LAID: no walk: one application.) -/
theorem Tryz.internal_strconv_small (i : Nat) (h : i < 100) (w : World) :
    Calls Tryz.prog 141 #[.int .i64 i] w fun e w' => e = .returned (.string ⟨(Lib.decDigits i).toArray⟩) ∧ w' = w := Any.internal_strconv_small Tryz.lays283 i h w
end Go.Proofs

namespace Go.Proofs.YtdcaodkjofkmgaaGreatDoor
open Go.Sx
set_option linter.unusedSimpArgs false
set_option linter.unusedVariables false
set_option maxRecDepth 100000
set_option maxHeartbeats 4000000

/-- The decimal text of a number. -/
def decF : Nat → Nat → List UInt8
  | 0, _ => []
  | f + 1, n => if n < 10 then [UInt8.ofNat (48 + n)] else decF f (n / 10) ++ [UInt8.ofNat (48 + n % 10)]
theorem decF_eq : ∀ f n, n < f → decF f n = Lib.decDigits n
  | 0, n, h => by omega
  | f + 1, n, h => by
    rw [decF, Lib.decDigits]
    by_cases h1 : n < 10
    · rw [if_pos h1, dif_pos h1]
    · rw [if_neg h1, dif_neg h1, decF_eq f (n / 10) (by omega)]
def tN (n : Nat) : ByteArray := ⟨(decF (n + 1) n).toArray⟩
theorem tN_eq (n : Nat) : tN n = ⟨(Lib.decDigits n).toArray⟩ := by rw [tN, decF_eq _ _ (Nat.lt_succ_self n)]
def tZ (z : Int) : ByteArray := if z < 0 then "-".toUTF8 ++ tN z.natAbs else tN z.natAbs
def tQ (q : Rat) : ByteArray := if q.den = 1 then tZ q.num else tZ q.num ++ "/".toUTF8 ++ tN q.den

theorem t_small (i : Nat) (h : i < 100) : CallOK Tryz.prog 141 [.val (.int .i64 (i : Nat))] [] (.val (.string (tN i))) [] [] :=
  call_vals' (vs := [.int .i64 (i : Nat)]) ⟨Tryz.f141, Tryz.func141, rfl, by kernel_rfl⟩ rfl (fun w => by rw [tN_eq]; exact Tryz.internal_strconv_small i h w)

theorem t_iFormat (n : Nat) (h : n < 100) : CallOK Tryz.prog 125 [.val (.int .u64 (n : Nat)), .val (.int .i64 10)] [] (.val (.string (tN n))) [] [] := by
  have k1 := t_small n h
  have t1 : decide ((n : Int) < 100) = true := decide_eq_true (by omega)
  have t2 : IntKind.i64.wrap (n : Int) = n := wrap_i64 (by omega) (by omega)
  refine callV (Z := []) tabOK mixedOK Tryz.func125 rfl (by kernel_rfl) rfl rfl (by kernel_rfl) rfl ?_
  intro W0 w0 ρ0 hE
  conv => whnf
  (repeat ((first | refine step_w1 rfl rfl ?_ | refine g_c (by assumption) ?_ | rw [beq_self_eq_true] | rw [t1] | rw [t2]); conv => whnf)); (first | exact Recast.refl _ | exact Frz.recast (Recast.refl _) rfl | (refine Frz.one rfl rfl ?_; skip) | (refine Frz.tup ?_; skip))
theorem t_Format (n : Nat) (h : n < 100) : CallOK Tryz.prog 99 [.val (.int .u64 (n : Nat)), .val (.int .i64 10)] [] (.val (.string (tN n))) [] [] := by
  have k1 := t_iFormat n h
  refine callV (Z := []) tabOK mixedOK Tryz.func99 rfl (by kernel_rfl) rfl rfl (by kernel_rfl) rfl ?_
  intro W0 w0 ρ0 hE
  conv => whnf
  (repeat (first | (refine g_c (by assumption) ?_; conv => whnf))); (first | exact Recast.refl _ | exact Frz.recast (Recast.refl _) rfl | (refine Frz.one rfl rfl ?_; skip) | (refine Frz.tup ?_; skip))
theorem t_Nat (n : Nat) (h : n < 100) : CallOK Tryz.prog 71 [.nat n] [] (.val (.string (tN n))) [] [] := by
  have k1 := t_Format n h
  have e1 : low n = (n : Int) := low_small (by omega)
  have e2 : ((big n).toList == (ByteArray.mk #[]).toList) = true := by rw [big_eq]; exact decide_eq_true (by omega)
  refine callV (Z := []) tabOK mixedOK Tryz.func71 rfl (by kernel_rfl) rfl rfl (by kernel_rfl) rfl ?_
  intro W0 w0 ρ0 hE
  conv => whnf
  (repeat ((first | refine step_w1 rfl rfl ?_ | refine g_c (by assumption) ?_ | rw [e2] | rw [e1]); conv => whnf)); (first | exact Recast.refl _ | exact Frz.recast (Recast.refl _) rfl | (refine Frz.one rfl rfl ?_; skip) | (refine Frz.tup ?_; skip))

theorem tN_size : ∀ n, n < 100 → (tN n).size ≤ 2 := by
  intro n h
  rw [tN_eq]
  show (Lib.decDigits n).toArray.size ≤ 2
  by_cases h1 : n < 10
  · rw [Lib.decDigits_one h1]; simp
  · rw [Lib.decDigits_two h1 h]; simp
theorem t_Int (z : Int) (h : z.natAbs < 100) : CallOK Tryz.prog 70 [.int z] [] (.val (.string (tZ z))) [] [] := by
  have k1 := t_Nat z.natAbs h
  have hs := tN_size _ h
  have h1 : (ByteArray.mk #[45]).size = 1 := rfl
  have h2 : (ByteArray.mk #[45]).size + (tN z.natAbs).size ≤ 9223372036854775807 := by omega
  unfold tZ
  refine callV (Z := []) tabOK mixedOK Tryz.func70 rfl (by kernel_rfl) rfl rfl (by kernel_rfl) rfl ?_
  intro W0 w0 ρ0 hE
  conv => whnf
  by_cases hz : z < 0
  · have t1 : decide (z < 0) = true := decide_eq_true hz
    rw [if_pos hz]
    (repeat ((first | refine step_w1 rfl rfl ?_ | refine And.intro (by first | decide | omega | (simp only [tiB5, tiB23, tiB3, tiB2, tiB9, tiB36, tiB54, tiB121, tiB34, tiB28, tiB4, tiB50, tiB52, dlen, List.length_replicate, List.length_set, List.length_map, List.length_zipWith, List.length_take, List.length_append, List.length_cons, List.length_nil]; omega)) ?_ | refine g_c (by assumption) ?_ | rw [t1]); conv => whnf)); (first | exact Recast.refl _ | exact Frz.recast (Recast.refl _) rfl | (refine Frz.one rfl rfl ?_; skip) | (refine Frz.tup ?_; skip))
  · have t1 : decide (z < 0) = false := decide_eq_false hz
    rw [if_neg hz]
    (repeat (first | (refine step_w2 rfl rfl ?_; conv => whnf) | (refine g_c (by assumption) ?_; conv => whnf) | (rw [t1]; conv => whnf))); (first | exact Recast.refl _ | exact Frz.recast (Recast.refl _) rfl | (refine Frz.one rfl rfl ?_; skip) | (refine Frz.tup ?_; skip))
theorem tZ_size {z : Int} (h : z.natAbs < 100) : (tZ z).size ≤ 3 := by
  have hs := tN_size _ h
  unfold tZ
  split
  · rw [ByteArray.size_append]; have : ("-".toUTF8).size = 1 := rfl; omega
  · omega
theorem t_Frac (q : Rat) (h : q.num.natAbs < 100) (h' : q.den < 100) : CallOK Tryz.prog 43 [.frac q] [] (.val (.string (tQ q))) [] [] := by
  have kw := c_Whole q
  have k1 := t_Int q.num h
  have k2 := t_Nat q.den h'
  have k3 := c_den natBig q (Nat.le_trans (sz_le.2 (show q.den < 2 ^ 64 by omega)) (by decide))
  have hs := tZ_size h
  have hs2 := tN_size _ h'
  have h1 : (ByteArray.mk #[47]).size = 1 := rfl
  have h2 : (tZ q.num).size + (ByteArray.mk #[47]).size ≤ 9223372036854775807 := by omega
  have h3 : (tZ q.num ++ (ByteArray.mk #[47])).size + (tN q.den).size ≤ 9223372036854775807 := by rw [ByteArray.size_append]; omega
  unfold tQ
  refine callV (Z := []) tabOK mixedOK Tryz.func43 rfl (by kernel_rfl) rfl rfl (by kernel_rfl) rfl ?_
  intro W0 w0 ρ0 hE
  conv => whnf
  by_cases hd : q.den = 1
  · rw [decide_eq_true hd] at kw
    rw [if_pos hd]
    (repeat (first | (refine step_w1 rfl rfl ?_; conv => whnf) | (refine g_c (by assumption) ?_; conv => whnf))); (first | exact Recast.refl _ | exact Frz.recast (Recast.refl _) rfl | (refine Frz.one rfl rfl ?_; skip) | (refine Frz.tup ?_; skip))
  · rw [decide_eq_false hd] at kw
    rw [if_neg hd]
    (repeat ((first | refine step_w2 rfl rfl ?_ | refine step_i (by kernel_rfl) ?_ | refine And.intro (by first | decide | omega | (simp only [tiB5, tiB23, tiB3, tiB2, tiB9, tiB36, tiB54, tiB121, tiB34, tiB28, tiB4, tiB50, tiB52, dlen, List.length_replicate, List.length_set, List.length_map, List.length_zipWith, List.length_take, List.length_append, List.length_cons, List.length_nil]; omega)) ?_ | refine g_c (by assumption) ?_); conv => whnf)); (first | exact Recast.refl _ | exact Frz.recast (Recast.refl _) rfl | (refine Frz.one rfl rfl ?_; skip) | (refine Frz.tup ?_; skip))

end Go.Proofs.YtdcaodkjofkmgaaGreatDoor

namespace Go.Proofs.YtdcaodkjofkmgaaGreatDoor
open Go.Sx
set_option linter.unusedSimpArgs false
set_option linter.unusedVariables false
set_option maxRecDepth 100000
set_option maxHeartbeats 4000000

theorem c_text (q : Rat) (s : ByteArray) (h : q.num.natAbs < 100) (h' : q.den < 100) (he : ((tQ q).toList == s.toList) = true) : CallOK Tryz.prog 40 [.frac q, .val (.string s)] [] (.val (.bool true)) [] [] := by
  have k1 := t_Frac q h h'
  refine callV (Z := [2]) tabOK mixedOK Tryz.func40 rfl (by kernel_rfl) rfl rfl (by kernel_rfl) rfl ?_
  intro W0 w0 ρ0 hE
  conv => whnf
  (repeat (first | (refine g_c (by assumption) ?_; conv => whnf) | (refine g_o (op_loadA rfl (ev_ok rfl) (tgt rfl) rfl (Nat.succ_ne_zero _) rfl) ?_; conv => whnf) | (rw [he]; conv => whnf)))
  exact Recast.refl _

abbrev r13 : Rat := ((1 : Int) : Rat) / ((3 : Int) : Rat)
abbrev r12 : Rat := ((1 : Int) : Rat) / ((2 : Int) : Rat)
theorem l_lives : CallOK Tryz.prog 15 [] [] (.val (.bool true)) [] [] := by
  have k1 := c_fOf natBig 1 3 (by decide +kernel) (by decide) (by decide) (by decide) (by decide) (by decide)
  have k2 := c_fOf natBig 1 2 (by decide +kernel) (by decide) (by decide) (by decide) (by decide) (by decide)
  have k3 := c_Value 2 3 r13 r13 r13 1000 (by decide) (by decide +kernel) (by decide +kernel) (by decide +kernel)
  have k4 := c_Value 2 0 r13 r13 r13 1000 (by decide) (by decide +kernel) (by decide +kernel) (by decide +kernel)
  have k5 := c_Slopes 2 5 r12 r12 0 1000 (by decide) (by decide +kernel) (by decide +kernel) (by decide +kernel)
  have k6 := c_Mass 1 0 0
  have k7 := c_Mass 1 0 1
  have k8 := c_Mass 2 0 3
  rw [show errF 2 3 = 0 from by decide +kernel] at k3
  rw [show errF 2 0 = 0 from by decide +kernel] at k4
  rw [show errF 2 5 = 0 from by decide +kernel] at k5
  rw [show err2 1 0 0 = 0 from by decide +kernel] at k6
  rw [show err2 1 0 1 = 0 from by decide +kernel] at k7
  rw [show err2 2 0 3 = 0 from by decide +kernel] at k8
  have t3 := c_text (atF (powersF 2 3) r13 r13 r13) ⟨#[52, 47, 57]⟩ (by decide +kernel) (by decide +kernel) (by decide +kernel)
  have t4 := c_text (atF (powersF 2 0) r13 r13 r13) ⟨#[45, 49, 47, 57]⟩ (by decide +kernel) (by decide +kernel) (by decide +kernel)
  have t5 := c_text (atF (slopeL 0 (powersF 2 5)) r12 r12 0) ⟨#[50]⟩ (by decide +kernel) (by decide +kernel) (by decide +kernel)
  have t6 := c_text (atF (slopeL 1 (powersF 2 5)) r12 r12 0) ⟨#[50]⟩ (by decide +kernel) (by decide +kernel) (by decide +kernel)
  have t7 := c_text (atF (slopeL 2 (powersF 2 5)) r12 r12 0) ⟨#[48]⟩ (by decide +kernel) (by decide +kernel) (by decide +kernel)
  have t8 := c_text (togF (powersF 1 0) (powersF 1 0)) ⟨#[49, 47, 54]⟩ (by decide +kernel) (by decide +kernel) (by decide +kernel)
  have t9 := c_text (togF (powersF 1 0) (powersF 1 1)) ⟨#[49, 47, 49, 50]⟩ (by decide +kernel) (by decide +kernel) (by decide +kernel)
  have t10 := c_text (togF (powersF 2 0) (powersF 2 3)) ⟨#[45, 49, 47, 52, 53]⟩ (by decide +kernel) (by decide +kernel) (by decide +kernel)
  generalize atF (powersF 2 3) r13 r13 r13 = x3 at *
  generalize atF (powersF 2 0) r13 r13 r13 = x4 at *
  generalize atF (slopeL 0 (powersF 2 5)) r12 r12 0 = x5 at *
  generalize atF (slopeL 1 (powersF 2 5)) r12 r12 0 = x6 at *
  generalize atF (slopeL 2 (powersF 2 5)) r12 r12 0 = x7 at *
  generalize togF (powersF 1 0) (powersF 1 0) = x8 at *
  generalize togF (powersF 1 0) (powersF 1 1) = x9 at *
  generalize togF (powersF 2 0) (powersF 2 3) = x10 at *
  refine callV (Z := []) tabOK mixedOK Tryz.func15 rfl (by kernel_rfl) rfl rfl (by kernel_rfl) rfl ?_
  intro W0 w0 ρ0 hE
  conv => whnf
  (repeat ((first | refine step_w1 rfl rfl ?_ | refine step_w2 rfl rfl ?_ | refine And.intro (by first | decide | omega | (simp only [tiB5, tiB23, tiB3, tiB2, tiB9, tiB36, tiB54, tiB121, tiB34, tiB28, tiB4, tiB50, tiB52, dlen, List.length_replicate, List.length_set, List.length_map, List.length_zipWith, List.length_take, List.length_append, List.length_cons, List.length_nil]; omega)) ?_ | refine g_c (by assumption) ?_ | refine g_o (op_pickT rfl (ev_ok rfl) (ev_ok rfl)) ?_ | refine g_o (op_pickF rfl (ev_ok rfl) (ev_ok rfl)) ?_); conv => whnf))
  exact Recast.refl _
end Go.Proofs.YtdcaodkjofkmgaaGreatDoor

namespace Go.Proofs.YtdcaodkjofkmgaaGreatDoor
open Go.Sx
set_option linter.unusedSimpArgs false
set_option linter.unusedVariables false
set_option maxRecDepth 100000
set_option maxHeartbeats 4000000

end Go.Proofs.YtdcaodkjofkmgaaGreatDoor

namespace Go.Proofs.YtdcaodkjofkmgaaGreatDoor
open Go.Sx
set_option linter.unusedSimpArgs false
set_option linter.unusedVariables false
set_option maxRecDepth 100000
set_option maxHeartbeats 4000000

end Go.Proofs.YtdcaodkjofkmgaaGreatDoor

namespace Go.Proofs.YtdcaodkjofkmgaaGreatDoor
open Go.Sx
set_option linter.unusedSimpArgs false
set_option linter.unusedVariables false

section
variable (x y : Nat → Rat)
end

end Go.Proofs.YtdcaodkjofkmgaaGreatDoor

namespace Go.Proofs.YtdcaodkjofkmgaaGreatDoor
open Go.Sx
set_option linter.unusedSimpArgs false
set_option linter.unusedVariables false
set_option maxRecDepth 100000
set_option maxHeartbeats 4000000

end Go.Proofs.YtdcaodkjofkmgaaGreatDoor

namespace Go.Proofs.YtdcaodkjofkmgaaGreatDoor
open Go.Sx
set_option linter.unusedSimpArgs false
set_option linter.unusedVariables false
set_option maxRecDepth 100000
set_option maxHeartbeats 4000000

/-- The coordinate k of the node n. -/
def nodeC (n : Int) (k : Int) : Rat := if n < 3 then (if n = k then ((1 : Int) : Rat) else 0) else if k ∈ endsF n then r12 else 0
def a3 (x y z : Rat) : Blk := ⟨40, true, .one [.frac x, .frac y, .frac z]⟩
theorem c_NodeYes (o n : Int) (h : thereF o n = true) : CallOK Tryz.prog 32 [.val (.int .i64 o), .val (.int .i64 n)] [] (.tup [.agg [.frac (nodeC n 0), .frac (nodeC n 1), .frac (nodeC n 2)], .val (.int .i64 0)]) [] [] := by
  have k1 := c_there o n
  rw [h] at k1
  have k2 := c_fInt 1 (by decide) (by decide)
  have k3 := c_fOf natBig 1 2 (by decide +kernel) (by decide) (by decide) (by decide) (by decide) (by decide)
  have hn : n = 0 ∨ n = 1 ∨ n = 2 ∨ n = 3 ∨ n = 4 ∨ n = 5 := by have := there_cases h; omega
  clear h
  rcases hn with rfl | rfl | rfl | rfl | rfl | rfl
  · have e0 : nodeC 0 0 = ((1 : Int) : Rat) := by decide +kernel
    have e1 : nodeC 0 1 = 0 := by decide +kernel
    have e2 : nodeC 0 2 = 0 := by decide +kernel
    rw [e0, e1, e2]
    refine callV (Z := []) tabOK mixedOK Tryz.func32 rfl (by kernel_rfl) rfl rfl (by kernel_rfl) rfl ?_
    intro W0 w0 ρ0 hE
    conv => whnf
    (repeat ((first | refine step_w1 rfl rfl ?_ | refine step_w2 rfl rfl ?_ | refine And.intro (by first | decide | omega | (simp only [tiB5, tiB23, tiB3, tiB2, tiB9, tiB36, tiB54, tiB121, tiB34, tiB28, tiB4, tiB50, tiB52, dlen, List.length_replicate, List.length_set, List.length_map, List.length_zipWith, List.length_take, List.length_append, List.length_cons, List.length_nil]; omega)) ?_ | refine g_c (by assumption) ?_); conv => whnf))
    exact Recast.refl _
  · have e0 : nodeC 1 0 = 0 := by decide +kernel
    have e1 : nodeC 1 1 = ((1 : Int) : Rat) := by decide +kernel
    have e2 : nodeC 1 2 = 0 := by decide +kernel
    rw [e0, e1, e2]
    refine callV (Z := []) tabOK mixedOK Tryz.func32 rfl (by kernel_rfl) rfl rfl (by kernel_rfl) rfl ?_
    intro W0 w0 ρ0 hE
    conv => whnf
    (repeat ((first | refine step_w1 rfl rfl ?_ | refine step_w2 rfl rfl ?_ | refine And.intro (by first | decide | omega | (simp only [tiB5, tiB23, tiB3, tiB2, tiB9, tiB36, tiB54, tiB121, tiB34, tiB28, tiB4, tiB50, tiB52, dlen, List.length_replicate, List.length_set, List.length_map, List.length_zipWith, List.length_take, List.length_append, List.length_cons, List.length_nil]; omega)) ?_ | refine g_c (by assumption) ?_); conv => whnf))
    exact Recast.refl _
  · have e0 : nodeC 2 0 = 0 := by decide +kernel
    have e1 : nodeC 2 1 = 0 := by decide +kernel
    have e2 : nodeC 2 2 = ((1 : Int) : Rat) := by decide +kernel
    rw [e0, e1, e2]
    refine callV (Z := []) tabOK mixedOK Tryz.func32 rfl (by kernel_rfl) rfl rfl (by kernel_rfl) rfl ?_
    intro W0 w0 ρ0 hE
    conv => whnf
    (repeat ((first | refine step_w1 rfl rfl ?_ | refine step_w2 rfl rfl ?_ | refine And.intro (by first | decide | omega | (simp only [tiB5, tiB23, tiB3, tiB2, tiB9, tiB36, tiB54, tiB121, tiB34, tiB28, tiB4, tiB50, tiB52, dlen, List.length_replicate, List.length_set, List.length_map, List.length_zipWith, List.length_take, List.length_append, List.length_cons, List.length_nil]; omega)) ?_ | refine g_c (by assumption) ?_); conv => whnf))
    exact Recast.refl _
  · have e0 : nodeC 3 0 = 0 := by decide +kernel
    have e1 : nodeC 3 1 = r12 := by decide +kernel
    have e2 : nodeC 3 2 = r12 := by decide +kernel
    rw [e0, e1, e2]
    have t4 : IntKind.i64.wrap ((3 : Int) - 3) = 0 := by decide
    refine callV (Z := []) tabOK mixedOK Tryz.func32 rfl (by kernel_rfl) rfl rfl (by kernel_rfl) rfl ?_
    intro W0 w0 ρ0 hE
    conv => whnf
    (repeat ((first | refine step_w2 rfl rfl ?_ | refine g_c (by assumption) ?_ | refine ⟨_, [], [], op_globIndex rfl (ev_ok rfl) (ev_ok rfl) (tgt rfl) rfl (tgt rfl) (by decide) (by decide), nil_fk, nil_new, ?_⟩ | refine ⟨_, [], [], op_globLoadA rfl (ev_ok rfl) (tgt rfl) rfl (vs := [1, 2]) rfl tabSides (by decide) (by decide), nil_fk, nil_new, ?_⟩ | rw [t4] | rw [Nat.zero_add]); conv => whnf))
    refine SW_loopN hE (fun k => k) [4, 5, 6, 7, 29, 30] [4, 6, 7] (fun m fr hp => ∃ (r : Nat) (x y z : Rat), m = 2 - r ∧ r ≤ 2 ∧ ((r = 0 → x = 0 ∧ y = 0 ∧ z = 0) ∧ (r = 1 → x = 0 ∧ y = r12 ∧ z = 0) ∧ (r = 2 → x = 0 ∧ y = r12 ∧ z = r12)) ∧
      fr = [(4, .ptr 4 0 0 0), (5, .val (.int .i64 0)), (6, .ptr 6 0 0 0), (7, .ptr 7 0 0 0), (29, .agg [.val (.int .i64 1), .val (.int .i64 2)]), (30, .val (.int .i64 (r : Nat)))] ∧ hp = [(4, a3 0 0 0), (6, a3 x y z), (7, fb r12)]) 2 ?_ ?_ ?_
    · kernel_rfl
    · exact ⟨0, 0, 0, 0, rfl, by decide, ⟨fun _ => ⟨rfl, rfl, rfl⟩, fun h => by omega, fun h => by omega⟩, rfl, rfl⟩
    rintro m _ _ ⟨r, x, y, z, rfl, hr, ⟨g0, g1, g2⟩, rfl, rfl⟩
    obtain rfl | rfl | rfl : r = 0 ∨ r = 1 ∨ r = 2 := by omega
    · obtain ⟨rfl, rfl, rfl⟩ := g0 rfl
      have t6 : decide (((0 : Nat) : Int) < 2) = true := by decide
      have t7 := winc (i := 0) (by decide)
      conv => whnf
      (repeat ((first | refine step_w1 rfl rfl ?_ | refine And.intro (by first | decide | omega | (simp only [tiB5, tiB23, tiB3, tiB2, tiB9, tiB36, tiB54, tiB121, tiB34, tiB28, tiB4, tiB50, tiB52, dlen, List.length_replicate, List.length_set, List.length_map, List.length_zipWith, List.length_take, List.length_append, List.length_cons, List.length_nil]; omega)) ?_ | refine ⟨_, [], [], op_indexAgg rfl (ev_ok rfl) (l := [.int .i64 1, .int .i64 2]) rfl (ev_ok rfl) (tgt rfl) rfl (tgt rfl) rfl rfl (by decide) (by decide) (v := .int .i64 1) rfl rfl, nil_fk, nil_new, ?_⟩ | rw [t6] | rw [t7] | rw [Nat.zero_add]); conv => whnf))
      exact ⟨1, fun k => k, [4, 5, 6, 7, 29, 30], [4, 6, 7], by decide, by kernel_rfl, 1, _, _, _, rfl, by decide, ⟨fun h => by omega, fun _ => ⟨rfl, rfl, rfl⟩, fun h => by omega⟩, rfl, rfl⟩
    · obtain ⟨rfl, rfl, rfl⟩ := g1 rfl
      have t6 : decide (((1 : Nat) : Int) < 2) = true := by decide
      have t7 := winc (i := 1) (by decide)
      conv => whnf
      (repeat ((first | refine step_w1 rfl rfl ?_ | refine And.intro (by first | decide | omega | (simp only [tiB5, tiB23, tiB3, tiB2, tiB9, tiB36, tiB54, tiB121, tiB34, tiB28, tiB4, tiB50, tiB52, dlen, List.length_replicate, List.length_set, List.length_map, List.length_zipWith, List.length_take, List.length_append, List.length_cons, List.length_nil]; omega)) ?_ | refine ⟨_, [], [], op_indexAgg rfl (ev_ok rfl) (l := [.int .i64 1, .int .i64 2]) rfl (ev_ok rfl) (tgt rfl) rfl (tgt rfl) rfl rfl (by decide) (by decide) (v := .int .i64 2) rfl rfl, nil_fk, nil_new, ?_⟩ | rw [t6] | rw [t7] | rw [Nat.zero_add]); conv => whnf))
      exact ⟨0, fun k => k, [4, 5, 6, 7, 29, 30], [4, 6, 7], by decide, by kernel_rfl, 2, _, _, _, rfl, by decide, ⟨fun h => by omega, fun h => by omega, fun _ => ⟨rfl, rfl, rfl⟩⟩, rfl, rfl⟩
    · obtain ⟨rfl, rfl, rfl⟩ := g2 rfl
      have t6 : decide (((2 : Nat) : Int) < 2) = false := by decide
      conv => whnf
      (repeat (first | (refine step_w2 rfl rfl ?_; conv => whnf)))
      exact Recast.refl _
  · have e0 : nodeC 4 0 = r12 := by decide +kernel
    have e1 : nodeC 4 1 = 0 := by decide +kernel
    have e2 : nodeC 4 2 = r12 := by decide +kernel
    rw [e0, e1, e2]
    have t4 : IntKind.i64.wrap ((4 : Int) - 3) = 1 := by decide
    refine callV (Z := []) tabOK mixedOK Tryz.func32 rfl (by kernel_rfl) rfl rfl (by kernel_rfl) rfl ?_
    intro W0 w0 ρ0 hE
    conv => whnf
    (repeat ((first | refine step_w2 rfl rfl ?_ | refine g_c (by assumption) ?_ | refine ⟨_, [], [], op_globIndex rfl (ev_ok rfl) (ev_ok rfl) (tgt rfl) rfl (tgt rfl) (by decide) (by decide), nil_fk, nil_new, ?_⟩ | refine ⟨_, [], [], op_globLoadA rfl (ev_ok rfl) (tgt rfl) rfl (vs := [2, 0]) rfl tabSides (by decide) (by decide), nil_fk, nil_new, ?_⟩ | rw [t4] | rw [Nat.zero_add]); conv => whnf))
    refine SW_loopN hE (fun k => k) [4, 5, 6, 7, 29, 30] [4, 6, 7] (fun m fr hp => ∃ (r : Nat) (x y z : Rat), m = 2 - r ∧ r ≤ 2 ∧ ((r = 0 → x = 0 ∧ y = 0 ∧ z = 0) ∧ (r = 1 → x = 0 ∧ y = 0 ∧ z = r12) ∧ (r = 2 → x = r12 ∧ y = 0 ∧ z = r12)) ∧
      fr = [(4, .ptr 4 0 0 0), (5, .val (.int .i64 0)), (6, .ptr 6 0 0 0), (7, .ptr 7 0 0 0), (29, .agg [.val (.int .i64 2), .val (.int .i64 0)]), (30, .val (.int .i64 (r : Nat)))] ∧ hp = [(4, a3 0 0 0), (6, a3 x y z), (7, fb r12)]) 2 ?_ ?_ ?_
    · kernel_rfl
    · exact ⟨0, 0, 0, 0, rfl, by decide, ⟨fun _ => ⟨rfl, rfl, rfl⟩, fun h => by omega, fun h => by omega⟩, rfl, rfl⟩
    rintro m _ _ ⟨r, x, y, z, rfl, hr, ⟨g0, g1, g2⟩, rfl, rfl⟩
    obtain rfl | rfl | rfl : r = 0 ∨ r = 1 ∨ r = 2 := by omega
    · obtain ⟨rfl, rfl, rfl⟩ := g0 rfl
      have t6 : decide (((0 : Nat) : Int) < 2) = true := by decide
      have t7 := winc (i := 0) (by decide)
      conv => whnf
      (repeat ((first | refine step_w1 rfl rfl ?_ | refine And.intro (by first | decide | omega | (simp only [tiB5, tiB23, tiB3, tiB2, tiB9, tiB36, tiB54, tiB121, tiB34, tiB28, tiB4, tiB50, tiB52, dlen, List.length_replicate, List.length_set, List.length_map, List.length_zipWith, List.length_take, List.length_append, List.length_cons, List.length_nil]; omega)) ?_ | refine ⟨_, [], [], op_indexAgg rfl (ev_ok rfl) (l := [.int .i64 2, .int .i64 0]) rfl (ev_ok rfl) (tgt rfl) rfl (tgt rfl) rfl rfl (by decide) (by decide) (v := .int .i64 2) rfl rfl, nil_fk, nil_new, ?_⟩ | rw [t6] | rw [t7] | rw [Nat.zero_add]); conv => whnf))
      exact ⟨1, fun k => k, [4, 5, 6, 7, 29, 30], [4, 6, 7], by decide, by kernel_rfl, 1, _, _, _, rfl, by decide, ⟨fun h => by omega, fun _ => ⟨rfl, rfl, rfl⟩, fun h => by omega⟩, rfl, rfl⟩
    · obtain ⟨rfl, rfl, rfl⟩ := g1 rfl
      have t6 : decide (((1 : Nat) : Int) < 2) = true := by decide
      have t7 := winc (i := 1) (by decide)
      conv => whnf
      (repeat ((first | refine step_w1 rfl rfl ?_ | refine And.intro (by first | decide | omega | (simp only [tiB5, tiB23, tiB3, tiB2, tiB9, tiB36, tiB54, tiB121, tiB34, tiB28, tiB4, tiB50, tiB52, dlen, List.length_replicate, List.length_set, List.length_map, List.length_zipWith, List.length_take, List.length_append, List.length_cons, List.length_nil]; omega)) ?_ | refine ⟨_, [], [], op_indexAgg rfl (ev_ok rfl) (l := [.int .i64 2, .int .i64 0]) rfl (ev_ok rfl) (tgt rfl) rfl (tgt rfl) rfl rfl (by decide) (by decide) (v := .int .i64 0) rfl rfl, nil_fk, nil_new, ?_⟩ | rw [t6] | rw [t7] | rw [Nat.zero_add]); conv => whnf))
      exact ⟨0, fun k => k, [4, 5, 6, 7, 29, 30], [4, 6, 7], by decide, by kernel_rfl, 2, _, _, _, rfl, by decide, ⟨fun h => by omega, fun h => by omega, fun _ => ⟨rfl, rfl, rfl⟩⟩, rfl, rfl⟩
    · obtain ⟨rfl, rfl, rfl⟩ := g2 rfl
      have t6 : decide (((2 : Nat) : Int) < 2) = false := by decide
      conv => whnf
      (repeat (first | (refine step_w2 rfl rfl ?_; conv => whnf)))
      exact Recast.refl _
  · have e0 : nodeC 5 0 = r12 := by decide +kernel
    have e1 : nodeC 5 1 = r12 := by decide +kernel
    have e2 : nodeC 5 2 = 0 := by decide +kernel
    rw [e0, e1, e2]
    have t4 : IntKind.i64.wrap ((5 : Int) - 3) = 2 := by decide
    refine callV (Z := []) tabOK mixedOK Tryz.func32 rfl (by kernel_rfl) rfl rfl (by kernel_rfl) rfl ?_
    intro W0 w0 ρ0 hE
    conv => whnf
    (repeat ((first | refine step_w2 rfl rfl ?_ | refine g_c (by assumption) ?_ | refine ⟨_, [], [], op_globIndex rfl (ev_ok rfl) (ev_ok rfl) (tgt rfl) rfl (tgt rfl) (by decide) (by decide), nil_fk, nil_new, ?_⟩ | refine ⟨_, [], [], op_globLoadA rfl (ev_ok rfl) (tgt rfl) rfl (vs := [0, 1]) rfl tabSides (by decide) (by decide), nil_fk, nil_new, ?_⟩ | rw [t4] | rw [Nat.zero_add]); conv => whnf))
    refine SW_loopN hE (fun k => k) [4, 5, 6, 7, 29, 30] [4, 6, 7] (fun m fr hp => ∃ (r : Nat) (x y z : Rat), m = 2 - r ∧ r ≤ 2 ∧ ((r = 0 → x = 0 ∧ y = 0 ∧ z = 0) ∧ (r = 1 → x = r12 ∧ y = 0 ∧ z = 0) ∧ (r = 2 → x = r12 ∧ y = r12 ∧ z = 0)) ∧
      fr = [(4, .ptr 4 0 0 0), (5, .val (.int .i64 0)), (6, .ptr 6 0 0 0), (7, .ptr 7 0 0 0), (29, .agg [.val (.int .i64 0), .val (.int .i64 1)]), (30, .val (.int .i64 (r : Nat)))] ∧ hp = [(4, a3 0 0 0), (6, a3 x y z), (7, fb r12)]) 2 ?_ ?_ ?_
    · kernel_rfl
    · exact ⟨0, 0, 0, 0, rfl, by decide, ⟨fun _ => ⟨rfl, rfl, rfl⟩, fun h => by omega, fun h => by omega⟩, rfl, rfl⟩
    rintro m _ _ ⟨r, x, y, z, rfl, hr, ⟨g0, g1, g2⟩, rfl, rfl⟩
    obtain rfl | rfl | rfl : r = 0 ∨ r = 1 ∨ r = 2 := by omega
    · obtain ⟨rfl, rfl, rfl⟩ := g0 rfl
      have t6 : decide (((0 : Nat) : Int) < 2) = true := by decide
      have t7 := winc (i := 0) (by decide)
      conv => whnf
      (repeat ((first | refine step_w1 rfl rfl ?_ | refine And.intro (by first | decide | omega | (simp only [tiB5, tiB23, tiB3, tiB2, tiB9, tiB36, tiB54, tiB121, tiB34, tiB28, tiB4, tiB50, tiB52, dlen, List.length_replicate, List.length_set, List.length_map, List.length_zipWith, List.length_take, List.length_append, List.length_cons, List.length_nil]; omega)) ?_ | refine ⟨_, [], [], op_indexAgg rfl (ev_ok rfl) (l := [.int .i64 0, .int .i64 1]) rfl (ev_ok rfl) (tgt rfl) rfl (tgt rfl) rfl rfl (by decide) (by decide) (v := .int .i64 0) rfl rfl, nil_fk, nil_new, ?_⟩ | rw [t6] | rw [t7] | rw [Nat.zero_add]); conv => whnf))
      exact ⟨1, fun k => k, [4, 5, 6, 7, 29, 30], [4, 6, 7], by decide, by kernel_rfl, 1, _, _, _, rfl, by decide, ⟨fun h => by omega, fun _ => ⟨rfl, rfl, rfl⟩, fun h => by omega⟩, rfl, rfl⟩
    · obtain ⟨rfl, rfl, rfl⟩ := g1 rfl
      have t6 : decide (((1 : Nat) : Int) < 2) = true := by decide
      have t7 := winc (i := 1) (by decide)
      conv => whnf
      (repeat ((first | refine step_w1 rfl rfl ?_ | refine And.intro (by first | decide | omega | (simp only [tiB5, tiB23, tiB3, tiB2, tiB9, tiB36, tiB54, tiB121, tiB34, tiB28, tiB4, tiB50, tiB52, dlen, List.length_replicate, List.length_set, List.length_map, List.length_zipWith, List.length_take, List.length_append, List.length_cons, List.length_nil]; omega)) ?_ | refine ⟨_, [], [], op_indexAgg rfl (ev_ok rfl) (l := [.int .i64 0, .int .i64 1]) rfl (ev_ok rfl) (tgt rfl) rfl (tgt rfl) rfl rfl (by decide) (by decide) (v := .int .i64 1) rfl rfl, nil_fk, nil_new, ?_⟩ | rw [t6] | rw [t7] | rw [Nat.zero_add]); conv => whnf))
      exact ⟨0, fun k => k, [4, 5, 6, 7, 29, 30], [4, 6, 7], by decide, by kernel_rfl, 2, _, _, _, rfl, by decide, ⟨fun h => by omega, fun h => by omega, fun _ => ⟨rfl, rfl, rfl⟩⟩, rfl, rfl⟩
    · obtain ⟨rfl, rfl, rfl⟩ := g2 rfl
      have t6 : decide (((2 : Nat) : Int) < 2) = false := by decide
      conv => whnf
      (repeat (first | (refine step_w2 rfl rfl ?_; conv => whnf)))
      exact Recast.refl _
end Go.Proofs.YtdcaodkjofkmgaaGreatDoor

namespace Go.Proofs.YtdcaodkjofkmgaaGreatDoor
open Go.Sx
set_option linter.unusedSimpArgs false
set_option linter.unusedVariables false
set_option maxRecDepth 100000
set_option maxHeartbeats 4000000

theorem err_ok {o : Int} {i : Nat} (h : (i : Int) < (manyF o : Nat)) : errF o i = 0 := by
  have h1 : thereF o i = true := by simp only [thereF, Bool.and_eq_true, decide_eq_true_eq]; exact ⟨by omega, h⟩
  simp only [errF, h1, if_true]
end Go.Proofs.YtdcaodkjofkmgaaGreatDoor

namespace Go.Proofs.YtdcaodkjofkmgaaGreatDoor
open Go.Sx
set_option linter.unusedSimpArgs false
set_option linter.unusedVariables false
set_option maxRecDepth 100000
set_option maxHeartbeats 40000000

theorem fsL3 (a b c : Rat) : fsL [a, b, c] = fs a + fs b + fs c := by simp [fsL]; omega
theorem fs_node (i : Nat) (hi : i < 6) : fs (nodeC i 0) ≤ 1000 ∧ fs (nodeC i 1) ≤ 1000 ∧ fs (nodeC i 2) ≤ 1000 := by
  have : ∀ i : Fin 6, fs (nodeC i.1 0) ≤ 1000 ∧ fs (nodeC i.1 1) ≤ 1000 ∧ fs (nodeC i.1 2) ≤ 1000 := by decide +kernel
  exact this ⟨i, hi⟩
theorem nd : (nodeC 0 1 = 0 ∧ nodeC 0 2 = 0) ∧ (nodeC 1 1 = 1 ∧ nodeC 1 2 = 0) ∧ (nodeC 2 1 = 0 ∧ nodeC 2 2 = 1) ∧ (nodeC 3 1 = r12 ∧ nodeC 3 2 = r12) ∧ (nodeC 4 1 = 0 ∧ nodeC 4 2 = r12) ∧ (nodeC 5 1 = r12 ∧ nodeC 5 2 = 0) := by decide +kernel
end Go.Proofs.YtdcaodkjofkmgaaGreatDoor

namespace Go.Proofs.YtdcaodkjofkmgaaGreatDoor
open Go.Sx
set_option linter.unusedSimpArgs false
set_option linter.unusedVariables false
set_option maxRecDepth 100000

end Go.Proofs.YtdcaodkjofkmgaaGreatDoor

namespace Go.Proofs.YtdcaodkjofkmgaaGreatDoor
open Go.Sx
set_option linter.unusedSimpArgs false
set_option linter.unusedVariables false
set_option maxRecDepth 100000
set_option maxHeartbeats 40000000

theorem t_tt {t : Bool} {A B : Prop} (h : t = true) (k : A) : (t = true → A) ∧ (t = false → B) := ⟨fun _ => k, fun h' => by rw [h] at h'; cases h'⟩
theorem t_ff {t : Bool} {A B : Prop} (h : t = false) (k : B) : (t = true → A) ∧ (t = false → B) := ⟨(fun h' => by rw [h] at h'; cases h'), fun _ => k⟩
theorem ne_self (q : Rat) : (!decide (q = q)) = false := by simp
end Go.Proofs.YtdcaodkjofkmgaaGreatDoor

namespace Go.Proofs.YtdcaodkjofkmgaaGreatDoor
open Go.Sx
set_option linter.unusedSimpArgs false
set_option linter.unusedVariables false
set_option maxRecDepth 100000
set_option maxHeartbeats 40000000

theorem n_sum : ∀ i : Fin 6, [nodeC i.1 0, nodeC i.1 1, nodeC i.1 2].foldl (· + ·) 0 = ((1 : Int) : Rat) := by decide +kernel
theorem n_val1 : ∀ i k : Fin 3, atF (powersF 1 k.1) (nodeC i.1 0) (nodeC i.1 1) (nodeC i.1 2) = if i = k then ((1 : Int) : Rat) else 0 := by decide +kernel
theorem n_val2 : ∀ i k : Fin 6, atF (powersF 2 k.1) (nodeC i.1 0) (nodeC i.1 1) (nodeC i.1 2) = if i = k then ((1 : Int) : Rat) else 0 := by decide +kernel
theorem n_same : ∀ i k : Fin 6, i ≠ k → decide (nodeC i.1 0 = nodeC k.1 0 ∧ nodeC i.1 1 = nodeC k.1 1 ∧ nodeC i.1 2 = nodeC k.1 2) = false := by decide +kernel
theorem c_Nodes1 : CallOK Tryz.prog 9 [.val (.bool false)] [] (.val (.bool true)) [] [] := by
  have km := c_Many 1
  rw [show manyF 1 = 3 from rfl] at km
  have kl := l_lives
  have k0 := c_fInt 1 (by decide) (by decide)
  refine callV (Z := [41]) tabOK mixedOK Tryz.func9 rfl (by kernel_rfl) rfl rfl (by kernel_rfl) rfl ?_
  intro W0 w0 ρ0 hE
  conv => whnf
  (repeat (first | (refine step_w2 rfl rfl ?_; conv => whnf) | (refine g_c (by assumption) ?_; conv => whnf)))
  refine SW_loopN hE (fun k => k) [2, 3, 4, 5] [] (fun m fr hp => ∃ (i : Nat), m = 3 - i ∧ i ≤ 3 ∧ fr = [(2, .val (.bool false)), (3, .val (.int .i64 1)), (4, .val (.int .i64 ((3 : Nat) : Int))), (5, .val (.int .i64 (i : Nat)))] ∧ hp = []) 3 ?_ ?_ ?_
  · kernel_rfl
  · exact ⟨0, rfl, Nat.zero_le _, rfl, rfl⟩
  rintro m _ _ ⟨i, rfl, hi, rfl, rfl⟩
  conv => whnf
  by_cases hlt : i < 3
  · have t1 : decide ((i : Int) < ((3 : Nat) : Int)) = true := dlt hlt
    have t2 := winc (i := i) (by omega)
    have th : ∀ k : Nat, k < 3 → thereF 1 (k : Int) = true := fun k hk => by simp only [thereF, Bool.and_eq_true, decide_eq_true_eq]; exact ⟨by omega, by show (k : Int) < ((3 : Nat) : Int); omega⟩
    have ki := c_NodeYes 1 i (th i hlt)
    obtain ⟨f0, f1, f2⟩ := fs_node i (by omega)
    have ks := f_Sum [nodeC i 0, nodeC i 1, nodeC i 2] (by simp) (by rw [fsL3]; omega)
    rw [n_sum ⟨i, by omega⟩] at ks
    have s8 := ne_self ((1 : Int) : Rat)
    (repeat ((first | refine step_w1 rfl rfl ?_ | refine step_w2 rfl rfl ?_ | refine And.intro (by first | decide | omega | (simp only [tiB5, tiB23, tiB3, tiB2, tiB9, tiB36, tiB54, tiB121, tiB34, tiB28, tiB4, tiB50, tiB52, dlen, List.length_replicate, List.length_set, List.length_map, List.length_zipWith, List.length_take, List.length_append, List.length_cons, List.length_nil]; omega)) ?_ | refine g_c (by assumption) ?_ | refine g_o (op_pickF rfl (ev_ok rfl) (ev_ok rfl)) ?_ | rw [bne_self_eq_false] | refine ⟨_, op_neAgg tabOK goodOK rfl (ev_ok rfl) (ev_ok rfl) rfl rfl rfl rfl (q_same _ _) q_guard, ?_⟩ | refine t_tt t1 ?_); conv => whnf))
    refine SW_loopN hE (fun k => k) [2, 3, 4, 5, 6, 8] [6] (fun m fr hp => ∃ (k : Nat), m = 3 - k ∧ k ≤ 3 ∧ fr = [(2, .val (.bool false)), (3, .val (.int .i64 1)), (4, .val (.int .i64 ((3 : Nat) : Int))), (5, .val (.int .i64 (i : Nat))), (6, .ptr 6 0 0 0), (8, .val (.int .i64 (k : Nat)))] ∧ hp = [(6, a3 (nodeC i 0) (nodeC i 1) (nodeC i 2))]) 3 ?_ ?_ ?_
    · kernel_rfl
    · exact ⟨0, rfl, Nat.zero_le _, rfl, rfl⟩
    rintro m _ _ ⟨k, rfl, hk, rfl, rfl⟩
    conv => whnf
    by_cases hlk : k < 3
    · have u1 : decide ((k : Int) < ((3 : Nat) : Int)) = true := dlt hlk
      have u2 := winc (i := k) (by omega)
      have kk := c_NodeYes 1 k (th k hlk)
      have kv := c_Value 1 k (nodeC i 0) (nodeC i 1) (nodeC i 2) 1000 (by decide) f0 f1 f2
      rw [err_ok (o := 1) (i := k) (by show (k : Int) < ((3 : Nat) : Int); omega), n_val1 ⟨i, hlt⟩ ⟨k, hlk⟩] at kv
      clear ks f0 f1 f2
      by_cases hik : i = k
      · subst hik
        rw [if_pos rfl] at kv
        have u3 : ((i : Int) == (i : Int)) = true := beq_self_eq_true _
        have s7 : decide (nodeC i 0 = nodeC i 0 ∧ nodeC i 1 = nodeC i 1 ∧ nodeC i 2 = nodeC i 2) = true := by simp
        (repeat (first | (refine step_w1 rfl rfl ?_; conv => whnf) | (refine g_c (by assumption) ?_; conv => whnf) | (refine g_o (op_pickF rfl (ev_ok rfl) (ev_ok rfl)) ?_; conv => whnf) | (rw [beq_self_eq_true]; conv => whnf) | (rw [bne_self_eq_false]; conv => whnf) | (refine ⟨_, op_neAgg tabOK goodOK rfl (ev_ok rfl) (ev_ok rfl) rfl rfl rfl rfl (q_same _ _) q_guard, ?_⟩; conv => whnf) | (refine ⟨_, op_eqlE rfl (ev_ok rfl) (ev_ok rfl) rfl rfl (eq_3F _ _ _ _ _ _) g_3F, ?_⟩; conv => whnf) | (refine t_tt u1 ?_; conv => whnf) | (refine t_ff (by first | (rw [s7, u3]; rfl) | (rw [u3]; rfl) | simp) ?_; conv => whnf)))
        rw [u2]
        exact ⟨3 - (i + 1), fun k => k, [2, 3, 4, 5, 6, 8], [6], by omega, by kernel_rfl, i + 1, rfl, hlk, rfl, rfl⟩
      · rw [if_neg (fun h => hik (by simpa using h))] at kv
        have u3 : ((i : Int) == (k : Int)) = false := by rw [beq_eq_false_iff_ne]; omega
        have s7 := n_same ⟨i, by omega⟩ ⟨k, by omega⟩ (fun h => hik (by simpa using h))
        have s8 := ne_self (0 : Rat)
        (repeat (first | (refine step_w1 rfl rfl ?_; conv => whnf) | (refine g_c (by assumption) ?_; conv => whnf) | (refine g_o (op_pickF rfl (ev_ok rfl) (ev_ok rfl)) ?_; conv => whnf) | (rw [bne_self_eq_false]; conv => whnf) | (refine ⟨_, op_neAgg tabOK goodOK rfl (ev_ok rfl) (ev_ok rfl) rfl rfl rfl rfl (q_same _ _) q_guard, ?_⟩; conv => whnf) | (refine ⟨_, op_eqlE rfl (ev_ok rfl) (ev_ok rfl) rfl rfl (eq_3F _ _ _ _ _ _) g_3F, ?_⟩; conv => whnf) | (refine t_tt u1 ?_; conv => whnf) | (refine t_ff u3 ?_; conv => whnf) | (refine t_ff (by first | (rw [s7, u3]; rfl) | (rw [u3]; rfl) | simp) ?_; conv => whnf)))
        rw [u2]
        exact ⟨3 - (k + 1), fun k => k, [2, 3, 4, 5, 6, 8], [6], by omega, by kernel_rfl, k + 1, rfl, hlk, rfl, rfl⟩
    · have u1 : decide ((k : Int) < ((3 : Nat) : Int)) = false := dge hlk
      (repeat (first | (refine t_ff u1 ?_; conv => whnf)))
      rw [t2]
      exact ⟨3 - (i + 1), fun k => k, [2, 3, 4, 5], [], by omega, by kernel_rfl, i + 1, rfl, hlt, rfl, rfl⟩
  · have t1 : decide ((i : Int) < ((3 : Nat) : Int)) = false := dge hlt
    (repeat (first | (refine step_w2 rfl rfl ?_; conv => whnf) | (refine g_c (by assumption) ?_; conv => whnf) | (rw [t1]; conv => whnf)))
    first | exact Recast.refl _ | skip
theorem c_Nodes2 : CallOK Tryz.prog 9 [.val (.bool true)] [] (.val (.bool true)) [] [] := by
  have km := c_Many 2
  rw [show manyF 2 = 6 from rfl] at km
  have kl := l_lives
  have k0 := c_fInt 1 (by decide) (by decide)
  refine callV (Z := [41]) tabOK mixedOK Tryz.func9 rfl (by kernel_rfl) rfl rfl (by kernel_rfl) rfl ?_
  intro W0 w0 ρ0 hE
  conv => whnf
  (repeat (first | (refine step_w1 rfl rfl ?_; conv => whnf) | (refine step_w2 rfl rfl ?_; conv => whnf) | (refine g_c (by assumption) ?_; conv => whnf)))
  refine SW_loopN hE (fun k => k) [2, 3, 4, 5] [] (fun m fr hp => ∃ (i : Nat), m = 6 - i ∧ i ≤ 6 ∧ fr = [(2, .val (.bool false)), (3, .val (.int .i64 2)), (4, .val (.int .i64 ((6 : Nat) : Int))), (5, .val (.int .i64 (i : Nat)))] ∧ hp = []) 6 ?_ ?_ ?_
  · kernel_rfl
  · exact ⟨0, rfl, Nat.zero_le _, rfl, rfl⟩
  rintro m _ _ ⟨i, rfl, hi, rfl, rfl⟩
  conv => whnf
  by_cases hlt : i < 6
  · have t1 : decide ((i : Int) < ((6 : Nat) : Int)) = true := dlt hlt
    have t2 := winc (i := i) (by omega)
    have th : ∀ k : Nat, k < 6 → thereF 2 (k : Int) = true := fun k hk => by simp only [thereF, Bool.and_eq_true, decide_eq_true_eq]; exact ⟨by omega, by show (k : Int) < ((6 : Nat) : Int); omega⟩
    have ki := c_NodeYes 2 i (th i hlt)
    obtain ⟨f0, f1, f2⟩ := fs_node i (by omega)
    have ks := f_Sum [nodeC i 0, nodeC i 1, nodeC i 2] (by simp) (by rw [fsL3]; omega)
    rw [n_sum ⟨i, by omega⟩] at ks
    have s8 := ne_self ((1 : Int) : Rat)
    (repeat ((first | refine step_w1 rfl rfl ?_ | refine step_w2 rfl rfl ?_ | refine And.intro (by first | decide | omega | (simp only [tiB5, tiB23, tiB3, tiB2, tiB9, tiB36, tiB54, tiB121, tiB34, tiB28, tiB4, tiB50, tiB52, dlen, List.length_replicate, List.length_set, List.length_map, List.length_zipWith, List.length_take, List.length_append, List.length_cons, List.length_nil]; omega)) ?_ | refine g_c (by assumption) ?_ | refine g_o (op_pickF rfl (ev_ok rfl) (ev_ok rfl)) ?_ | rw [bne_self_eq_false] | refine ⟨_, op_neAgg tabOK goodOK rfl (ev_ok rfl) (ev_ok rfl) rfl rfl rfl rfl (q_same _ _) q_guard, ?_⟩ | refine t_tt t1 ?_); conv => whnf))
    refine SW_loopN hE (fun k => k) [2, 3, 4, 5, 6, 8] [6] (fun m fr hp => ∃ (k : Nat), m = 6 - k ∧ k ≤ 6 ∧ fr = [(2, .val (.bool false)), (3, .val (.int .i64 2)), (4, .val (.int .i64 ((6 : Nat) : Int))), (5, .val (.int .i64 (i : Nat))), (6, .ptr 6 0 0 0), (8, .val (.int .i64 (k : Nat)))] ∧ hp = [(6, a3 (nodeC i 0) (nodeC i 1) (nodeC i 2))]) 6 ?_ ?_ ?_
    · kernel_rfl
    · exact ⟨0, rfl, Nat.zero_le _, rfl, rfl⟩
    rintro m _ _ ⟨k, rfl, hk, rfl, rfl⟩
    conv => whnf
    by_cases hlk : k < 6
    · have u1 : decide ((k : Int) < ((6 : Nat) : Int)) = true := dlt hlk
      have u2 := winc (i := k) (by omega)
      have kk := c_NodeYes 2 k (th k hlk)
      have kv := c_Value 2 k (nodeC i 0) (nodeC i 1) (nodeC i 2) 1000 (by decide) f0 f1 f2
      rw [err_ok (o := 2) (i := k) (by show (k : Int) < ((6 : Nat) : Int); omega), n_val2 ⟨i, hlt⟩ ⟨k, hlk⟩] at kv
      clear ks f0 f1 f2
      by_cases hik : i = k
      · subst hik
        rw [if_pos rfl] at kv
        have u3 : ((i : Int) == (i : Int)) = true := beq_self_eq_true _
        have s7 : decide (nodeC i 0 = nodeC i 0 ∧ nodeC i 1 = nodeC i 1 ∧ nodeC i 2 = nodeC i 2) = true := by simp
        (repeat (first | (refine step_w1 rfl rfl ?_; conv => whnf) | (refine g_c (by assumption) ?_; conv => whnf) | (refine g_o (op_pickF rfl (ev_ok rfl) (ev_ok rfl)) ?_; conv => whnf) | (rw [beq_self_eq_true]; conv => whnf) | (rw [bne_self_eq_false]; conv => whnf) | (refine ⟨_, op_neAgg tabOK goodOK rfl (ev_ok rfl) (ev_ok rfl) rfl rfl rfl rfl (q_same _ _) q_guard, ?_⟩; conv => whnf) | (refine ⟨_, op_eqlE rfl (ev_ok rfl) (ev_ok rfl) rfl rfl (eq_3F _ _ _ _ _ _) g_3F, ?_⟩; conv => whnf) | (refine t_tt u1 ?_; conv => whnf) | (refine t_ff (by first | (rw [s7, u3]; rfl) | (rw [u3]; rfl) | simp) ?_; conv => whnf)))
        rw [u2]
        exact ⟨6 - (i + 1), fun k => k, [2, 3, 4, 5, 6, 8], [6], by omega, by kernel_rfl, i + 1, rfl, hlk, rfl, rfl⟩
      · rw [if_neg (fun h => hik (by simpa using h))] at kv
        have u3 : ((i : Int) == (k : Int)) = false := by rw [beq_eq_false_iff_ne]; omega
        have s7 := n_same ⟨i, by omega⟩ ⟨k, by omega⟩ (fun h => hik (by simpa using h))
        have s8 := ne_self (0 : Rat)
        (repeat (first | (refine step_w1 rfl rfl ?_; conv => whnf) | (refine g_c (by assumption) ?_; conv => whnf) | (refine g_o (op_pickF rfl (ev_ok rfl) (ev_ok rfl)) ?_; conv => whnf) | (rw [bne_self_eq_false]; conv => whnf) | (refine ⟨_, op_neAgg tabOK goodOK rfl (ev_ok rfl) (ev_ok rfl) rfl rfl rfl rfl (q_same _ _) q_guard, ?_⟩; conv => whnf) | (refine ⟨_, op_eqlE rfl (ev_ok rfl) (ev_ok rfl) rfl rfl (eq_3F _ _ _ _ _ _) g_3F, ?_⟩; conv => whnf) | (refine t_tt u1 ?_; conv => whnf) | (refine t_ff u3 ?_; conv => whnf) | (refine t_ff (by first | (rw [s7, u3]; rfl) | (rw [u3]; rfl) | simp) ?_; conv => whnf)))
        rw [u2]
        exact ⟨6 - (k + 1), fun k => k, [2, 3, 4, 5, 6, 8], [6], by omega, by kernel_rfl, k + 1, rfl, hlk, rfl, rfl⟩
    · have u1 : decide ((k : Int) < ((6 : Nat) : Int)) = false := dge hlk
      (repeat (first | (refine t_ff u1 ?_; conv => whnf)))
      rw [t2]
      exact ⟨6 - (i + 1), fun k => k, [2, 3, 4, 5], [], by omega, by kernel_rfl, i + 1, rfl, hlt, rfl, rfl⟩
  · have t1 : decide ((i : Int) < ((6 : Nat) : Int)) = false := dge hlt
    (repeat (first | (refine step_w2 rfl rfl ?_; conv => whnf) | (refine g_c (by assumption) ?_; conv => whnf) | (rw [t1]; conv => whnf)))
    first | exact Recast.refl _ | skip
theorem law_ShapesNodes (b : Bool) : CallOK Tryz.prog 9 [.val (.bool b)] [] (.val (.bool true)) [] [] := by
  cases b
  · exact c_Nodes1
  · exact c_Nodes2
end Go.Proofs.YtdcaodkjofkmgaaGreatDoor

namespace Go.Sx
open Go.Lib

theorem chunks {α : Type} (m : Nat) : ∀ (n : Nat) (cs : List α), cs.length = n * m → cs = ((List.range n).map fun i => (cs.drop (i * m)).take m).flatten
  | 0, cs, h => by
    have : cs = [] := List.length_eq_zero_iff.1 (by simpa using h)
    subst this; rfl
  | n + 1, cs, h => by
    rw [Nat.succ_mul] at h
    have ih := chunks m n (cs.drop m) (by rw [List.length_drop]; omega)
    rw [List.range_succ_eq_map, List.map_cons, List.flatten_cons, Nat.zero_mul, List.drop_zero, List.map_map]
    have e : (List.range n).map ((fun i => (cs.drop (i * m)).take m) ∘ Nat.succ) = (List.range n).map fun i => ((cs.drop m).drop (i * m)).take m := by
      refine List.map_congr_left fun i _ => ?_
      simp only [Function.comp, List.drop_drop, Nat.succ_mul]
      rw [Nat.add_comm]
    rw [e, ← ih, List.take_append_drop]

theorem cells_of_tab2 {H : Type} {enc : TypeId × Value → H} {P : Program} {w : World} {base : Nat} {sp : Nat → Bool} {held : Bool} {fuel : Nat} {t e e2 : TypeId} {n m : Nat} {k : IntKind} {cs : List Value} {zss : List (List Int)} {p : List MemPlace}
    (ht : P.underlying t = some (.array n e)) (he : P.underlying e = some (.array m e2)) (he2 : P.underlying e2 = some (.int k)) (hce2 : P.cellsOf e2 = 1) (hce : P.cellsOf e = m) (hct : P.cellsOf t = n * m)
    (h : DataW.trod enc P w base sp held fuel t cs = some (.agg (zss.map (tabData k)), p)) : cs = zss.flatten.map fun z => Value.int k z := by
  cases fuel with
  | zero => simp [DataW.trod] at h
  | succ fuel =>
    simp only [DataW.trod, ht, hce] at h
    split at h
    · rename_i hl
      obtain ⟨xs, hm, hx⟩ := Option.map_eq_some_iff.1 h
      have hxs : xs.map (·.1) = zss.map (tabData (H := H) k) := by
        have := congrArg Prod.fst hx
        simpa using this
      have hxl : xs.length = n := by simpa using mapM_length hm
      have hzl : zss.length = n := by
        have := congrArg List.length hxs
        simp at this
        omega
      rw [List.map_flatten, chunks m n cs (by rw [hl, hct])]
      congr 1
      apply List.ext_getElem?
      intro i
      by_cases hi : i < n
      · obtain ⟨b, hb, hf⟩ := mapM_at hm i i (by simp [hi])
        have h2 : (xs.map (·.1))[i]? = some b.1 := by simp [hb]
        rw [hxs, List.getElem?_map] at h2
        obtain ⟨zs, hz, hzb⟩ := Option.map_eq_some_iff.1 h2
        have h3 := cells_of_tab (p := b.2) (zs := zs) he he2 hce2 hce (by rw [hzb]; exact hf)
        rw [List.getElem?_map, List.getElem?_range hi, List.getElem?_map, hz]
        simp only [Option.map_some]
        rw [h3]
      · rw [List.getElem?_eq_none (by simp; omega), List.getElem?_eq_none (by simp; omega)]
    · cases h

theorem tabIs_of_head2 {P : Program} {W : World} {name : String} {k : IntKind} {zss : List (List Int)} {rest : List (String × DataW Unit)} {g : Nat} {t e e2 : TypeId} {n m : Nat}
    (hg : P.globalNamed name = some g) (hty : (P.globals[g]?).map (·.type) = some t) (ht : P.underlying t = some (.array n e)) (he : P.underlying e = some (.array m e2)) (he2 : P.underlying e2 = some (.int k)) (hce2 : P.cellsOf e2 = 1) (hce : P.cellsOf e = m) (hct : P.cellsOf t = n * m)
    (h : laidMet P ((name, .agg (zss.map (tabData k))) :: rest) W) : TabIs P W name k zss.flatten := by
  obtain ⟨ps, ⟨g', t', cs, fuel, p, q, hg', ht', hvar, hd, _, _⟩, _⟩ := h
  obtain rfl := Option.some.inj (hg.symm.trans hg')
  obtain rfl := Option.some.inj (hty.symm.trans ht')
  unfold TabIs
  rw [hvar, ← cells_of_tab2 ht he he2 hce2 hce hct hd]
end Go.Sx

namespace Go.Proofs.YtdcaodkjofkmgaaGreatDoor.shapesNodes
open Go.ChangeShapes Go.WideShapes Go.ChangeAt Go.RowKit Go.Sx
set_option maxRecDepth 100000
set_option linter.unusedSimpArgs false

theorem own : ownKnob Tryz.prog.godebug = none := by kernel_rfl
theorem laidOut : laidOutB Tryz.prog = true := by kernel_rfl
theorem params : Tryz.f9.params.toList.all (fun t => Tryz.prog.readableRec t && decide (t < Tryz.prog.types.size)) = true := by kernel_rfl
theorem gTab0 : Tryz.prog.globalNamed "math/bits.deBruijn32tab" = some 4 := by kernel_rfl
theorem gTabType0 : (Tryz.prog.globals[4]?).map (·.type) = some 217 := by kernel_rfl
theorem cellsA0 : Tryz.prog.cellsOf 217 = 32 := by kernel_rfl
theorem cellsE0 : Tryz.prog.cellsOf 5 = 1 := by kernel_rfl
theorem gTab1 : Tryz.prog.globalNamed "math/bits.deBruijn64tab" = some 5 := by kernel_rfl
theorem gTabType1 : (Tryz.prog.globals[5]?).map (·.type) = some 218 := by kernel_rfl
theorem cellsA1 : Tryz.prog.cellsOf 218 = 64 := by kernel_rfl
theorem cellsE1 : Tryz.prog.cellsOf 5 = 1 := by kernel_rfl
theorem gTab2 : Tryz.prog.globalNamed "internal/strconv.uint64pow10" = some 2 := by kernel_rfl
theorem gTabType2 : (Tryz.prog.globals[2]?).map (·.type) = some 210 := by kernel_rfl
theorem cellsA2 : Tryz.prog.cellsOf 210 = 20 := by kernel_rfl
theorem cellsE2 : Tryz.prog.cellsOf 28 = 1 := by kernel_rfl
theorem gTab3 : Tryz.prog.globalNamed "gusset/shapes.sides" = some 0 := by kernel_rfl
theorem gTabType3 : (Tryz.prog.globals[0]?).map (·.type) = some 118 := by kernel_rfl
theorem cellsA3 : Tryz.prog.cellsOf 118 = 6 := by kernel_rfl
/-- What the row's list gives: the tables' cells hold their numbers. -/
theorem table {W : World} (h : laidMetH Tryz.prog Rows.shapesNodesRow.laid W) : TabsW W := by
  intro g kd l hm
  have h0 : laidMet Tryz.prog Rows.shapesNodesRow.laid W := h
  have ht0 : Lib.TabIs Tryz.prog W "math/bits.deBruijn32tab" .u8 [0, 1, 28, 2, 29, 14, 24, 3, 30, 22, 20, 15, 25, 17, 4, 8, 31, 27, 13, 23, 21, 19, 16, 7, 26, 12, 18, 6, 11, 5, 10, 9] := Lib.tabIs_of_head gTab0 gTabType0 Tryz.underlying217 Tryz.underlying5 cellsE0 cellsA0 h0
  have h1 := laid_tail h0
  have ht1 : Lib.TabIs Tryz.prog W "math/bits.deBruijn64tab" .u8 [0, 1, 56, 2, 57, 49, 28, 3, 61, 58, 42, 50, 38, 29, 17, 4, 62, 47, 59, 36, 45, 43, 51, 22, 53, 39, 33, 30, 24, 18, 12, 5, 63, 55, 48, 27, 60, 41, 37, 16, 46, 35, 44, 21, 52, 32, 23, 11, 54, 26, 40, 15, 34, 20, 31, 10, 25, 14, 19, 9, 13, 8, 7, 6] := Lib.tabIs_of_head gTab1 gTabType1 Tryz.underlying218 Tryz.underlying5 cellsE1 cellsA1 h1
  have h2 := laid_tail h1
  have ht2 : Lib.TabIs Tryz.prog W "internal/strconv.uint64pow10" .u64 [1, 10, 100, 1000, 10000, 100000, 1000000, 10000000, 100000000, 1000000000, 10000000000, 100000000000, 1000000000000, 10000000000000, 100000000000000, 1000000000000000, 10000000000000000, 100000000000000000, 1000000000000000000, 10000000000000000000] := Lib.tabIs_of_head gTab2 gTabType2 Tryz.underlying210 Tryz.underlying28 cellsE2 cellsA2 h2
  have h3 := laid_tail h2
  have ht3 : Lib.TabIs Tryz.prog W "gusset/shapes.sides" .i64 [1, 2, 2, 0, 0, 1] := Go.Sx.tabIs_of_head2 (zss := [[1, 2], [2, 0], [0, 1]]) gTab3 gTabType3 Tryz.underlying118 Tryz.underlying22 Tryz.underlying3 (by kernel_rfl) (by kernel_rfl) (by kernel_rfl) h3
  simp only [globTabs, List.mem_cons, List.not_mem_nil, or_false, Prod.mk.injEq] at hm
  rcases hm with ⟨rfl, rfl, rfl⟩ | ⟨rfl, rfl, rfl⟩ | ⟨rfl, rfl, rfl⟩ | ⟨rfl, rfl, rfl⟩
  · refine ⟨by simp, fun j x hx => by rw [ht0.cell gTab0 j (List.getElem?_eq_some_iff.1 hx).1, List.getD_eq_getElem?_getD, hx]; rfl, ?_⟩
    exact tab_heap gTab0 ht0
  · refine ⟨by simp, fun j x hx => by rw [ht1.cell gTab1 j (List.getElem?_eq_some_iff.1 hx).1, List.getD_eq_getElem?_getD, hx]; rfl, ?_⟩
    exact tab_heap gTab1 ht1
  · refine ⟨by simp, fun j x hx => by rw [ht2.cell gTab2 j (List.getElem?_eq_some_iff.1 hx).1, List.getD_eq_getElem?_getD, hx]; rfl, ?_⟩
    exact tab_heap gTab2 ht2
  · refine ⟨by simp, fun j x hx => by rw [ht3.cell gTab3 j (List.getElem?_eq_some_iff.1 hx).1, List.getD_eq_getElem?_getD, hx]; rfl, ?_⟩
    exact tab_heap gTab3 ht3

/-- The contract, over values. -/
theorem called (a0 : Bool) (w0 : True) : CallOK Tryz.prog 9 [(bel) a0] [] (.val (.bool true)) [] [] := law_ShapesNodes a0

theorem contract (H : Type) (enc : TypeId × Value → H) (W : World) (base : Nat) (args : Array Value) (ds gs : List (DataW H)) (before : List MemPlace)
    (hval : ∀ (j : Nat) t v, Tryz.f9.params[j]? = some t → args[j]? = some v → Value.okWide Tryz.prog W .any base t v)
    (hW : DataW.Whole enc Tryz.prog Tryz.f9.params.toList Rows.shapesNodesSpec.vars false W args.toList ds gs before) (hL : laidMetH Tryz.prog Rows.shapesNodesRow.laid W) :
    Calls Tryz.prog 9 args W fun e W' => ∃ v, e = .returned v ∧ Rows.shapesNodesSpec.post enc Tryz.prog Tryz.f9 false true false false W args v W' := by
  have hW' := hW
  obtain ⟨p, q, hA0, hV, rfl, hfz, hnd⟩ := hW
  have hA : DataW.TrodAll enc Tryz.prog W 0 (fun _ => true) true Tryz.f9.params.toList args.toList ds p := hA0
  rw [Tryz.params9] at hA hval
  obtain ⟨v0, vs0, d0, ds0, p0, q0, hargs, rfl, rfl, h0, r0⟩ := trodAll_cons hA
  obtain ⟨rfl, rfl, rfl⟩ := trodAll_nil r0
  obtain rfl : args = #[v0] := by cases args; simp_all
  obtain ⟨rfl, rfl⟩ := trodVars_none hV
  have hg := table hL
  obtain ⟨n0, t0⟩ := h0
  obtain ⟨a0, w0, c0⟩ := (show Opens enc Tryz.prog hg 4 (bel) (fun a => True) from Opens.bool Tryz.underlying4) _ _ _ t0
  have e0 : mkV ((bel) a0) v0.cells.toList = v0 := by obtain ⟨_, rfl⟩ := okWide_bool Tryz.underlying4 (hval 0 4 v0 rfl rfl); exact mkV_one rfl (by simp [Value.cells])
  have hz : HasZ (allRho hg) [(bel) a0] [v0.cells.toList] := by simp only [HasZ]; exact ⟨_, _, rfl, c0, rfl⟩
  have hr := law_runA ⟨Tryz.f9, Tryz.func9, rfl, by kernel_rfl⟩ (called a0 w0) hg hz
  simp only [List.zipWith_cons_cons, List.zipWith_nil_left, List.zipWith_nil_right, e0] at hr
  refine hr.mono fun e W' ⟨he, hb⟩ => ?_
  subst he
  exact ⟨_, rfl, law_post laidOut params rfl rfl Tryz.underlying4 hW' ⟨rfl, rfl, rfl⟩ hb⟩

/-- A world for the witness: the settled one, the tables holding what their texts lay. -/
noncomputable def laidWorld (os : Os) : World :=
  { World.holding Tryz.prog os ⟨#[], #[], []⟩ with heap := ((World.holding Tryz.prog os ⟨#[], #[], []⟩).heap |>.modify 4 (fun | .cells _ t frozen => .cells #[.int .u8 0, .int .u8 1, .int .u8 28, .int .u8 2, .int .u8 29, .int .u8 14, .int .u8 24, .int .u8 3, .int .u8 30, .int .u8 22, .int .u8 20, .int .u8 15, .int .u8 25, .int .u8 17, .int .u8 4, .int .u8 8, .int .u8 31, .int .u8 27, .int .u8 13, .int .u8 23, .int .u8 21, .int .u8 19, .int .u8 16, .int .u8 7, .int .u8 26, .int .u8 12, .int .u8 18, .int .u8 6, .int .u8 11, .int .u8 5, .int .u8 10, .int .u8 9] t frozen | o => o) |>.modify 5 (fun | .cells _ t frozen => .cells #[.int .u8 0, .int .u8 1, .int .u8 56, .int .u8 2, .int .u8 57, .int .u8 49, .int .u8 28, .int .u8 3, .int .u8 61, .int .u8 58, .int .u8 42, .int .u8 50, .int .u8 38, .int .u8 29, .int .u8 17, .int .u8 4, .int .u8 62, .int .u8 47, .int .u8 59, .int .u8 36, .int .u8 45, .int .u8 43, .int .u8 51, .int .u8 22, .int .u8 53, .int .u8 39, .int .u8 33, .int .u8 30, .int .u8 24, .int .u8 18, .int .u8 12, .int .u8 5, .int .u8 63, .int .u8 55, .int .u8 48, .int .u8 27, .int .u8 60, .int .u8 41, .int .u8 37, .int .u8 16, .int .u8 46, .int .u8 35, .int .u8 44, .int .u8 21, .int .u8 52, .int .u8 32, .int .u8 23, .int .u8 11, .int .u8 54, .int .u8 26, .int .u8 40, .int .u8 15, .int .u8 34, .int .u8 20, .int .u8 31, .int .u8 10, .int .u8 25, .int .u8 14, .int .u8 19, .int .u8 9, .int .u8 13, .int .u8 8, .int .u8 7, .int .u8 6] t frozen | o => o) |>.modify 2 (fun | .cells _ t frozen => .cells #[.int .u64 1, .int .u64 10, .int .u64 100, .int .u64 1000, .int .u64 10000, .int .u64 100000, .int .u64 1000000, .int .u64 10000000, .int .u64 100000000, .int .u64 1000000000, .int .u64 10000000000, .int .u64 100000000000, .int .u64 1000000000000, .int .u64 10000000000000, .int .u64 100000000000000, .int .u64 1000000000000000, .int .u64 10000000000000000, .int .u64 100000000000000000, .int .u64 1000000000000000000, .int .u64 10000000000000000000] t frozen | o => o) |>.modify 0 (fun | .cells _ t frozen => .cells #[.int .i64 1, .int .i64 2, .int .i64 2, .int .i64 0, .int .i64 0, .int .i64 1] t frozen | o => o)) }
theorem laid_met (os : Os) : laidMet Tryz.prog Rows.shapesNodesRow.laid ((laidWorld os).forCall (fun _ _ => 0) ⟨#[], #[.bool false], []⟩).memory :=
  laidMet_of_run' 8 (by kernel_rfl) (by kernel_rfl)
theorem reads (os : Os) {H : Type} (enc : TypeId × Value → H) : ∃ places, DataW.whole enc Tryz.prog ((laidWorld os).forCall (fun _ _ => 0) ⟨#[], #[.bool false], []⟩).memory Tryz.f9.params.toList Rows.shapesNodesSpec.vars false #[.bool false].toList 8 = some ([.lit (.bool false)], [], places) :=
  ⟨[], by kernel_rfl⟩

theorem lifted (os : Os) (started : os.Started) (H : Type) (enc : TypeId × Value → H) (F : Stop.Interp) :
    ReturnsInHanded {} Tryz.checked os 9 .any ((OpenSpec.ofChange Rows.shapesNodesSpec).preRow enc Tryz.prog Tryz.f9 Rows.shapesNodesRow.domain false Rows.shapesNodesRow.laid) (((OpenSpec.ofChange Rows.shapesNodesSpec).at F).post enc Tryz.prog Tryz.f9 false true false false) := by
  obtain ⟨places, hx⟩ := reads os enc
  refine returnsInHanded_of_row (C := Tryz.checked) (s := OpenSpec.ofChange Rows.shapesNodesSpec) own started (by kernel_rfl) Tryz.func9
    (witness_row_at (enc := enc) (C := Tryz.checked) false (laidWorld os) #[.bool false] rfl (by kernel_rfl) (by kernel_rfl) (by kernel_rfl)
      (OpenSpec.preRow_of_cond 8 hx (by kernel_rfl) (fun k hk => by cases hk) (by kernel_rfl) (laid_met os))) ?_
  intro W base args ds gs before hval hW _ _ _ hL _ _
  exact contract H enc W base args ds gs before hval hW hL

theorem said : Rows.ShapesNodesSaid :=
  OpenClaim.holds_of_cond 9 Tryz.f9 rfl rfl rfl rfl rfl rfl rfl ⟨rfl, rfl, rfl, rfl, rfl⟩ rfl rfl rfl rfl rfl (by kernel_rfl) Tryz.func9 (by kernel_rfl)
    (of_decide_eq_true (by kernel_rfl)) (by unfold Func.isWrapper; first | (rw [if_pos (by decide +kernel)]; kernel_rfl) | (rw [if_neg (by decide +kernel)]; exact ⟨rfl, rfl⟩))
    (fun os started H enc _ F => by rw [OpenClaim.pre_eq_preRow]; exact lifted os started H enc F)

/-- No parameter wants a stand-in; the program's own looks are off. -/
theorem plain (f : FuncId) (fn : Func) (hf : Tryz.pinned.checked.prog.funcNamed "gusset/gussetlaw34.ShapesNodes" = some f) (hfn : Tryz.pinned.checked.prog.funcs[f]? = some fn) :
    false = Tryz.pinned.checked.prog.looks [] ∧ ∀ (j : Nat) t, fn.params[j]? = some t → Tryz.pinned.checked.prog.wantsStandIn t = false := by
  obtain rfl : f = 9 := Option.some.inj ((show Tryz.prog.funcNamed "gusset/gussetlaw34.ShapesNodes" = some 9 by kernel_rfl).symm.trans hf) |>.symm
  obtain rfl : fn = Tryz.f9 := (Option.some.inj (Tryz.func9.symm.trans hfn)).symm
  refine ⟨by kernel_rfl, fun j t ht => ?_⟩
  have hall : (Tryz.f9.params.toList.all fun t => !Tryz.prog.wantsStandIn t) = true := by kernel_rfl
  have := List.all_eq_true.1 hall t (by simpa using Array.mem_of_getElem? ht)
  exact (show Tryz.prog.wantsStandIn t = false by simpa using this)

/-- The card. -/
theorem card : Rows.ShapesNodesCardSaid :=
  Claim7.holds_tied_plain_at .later [] _ _ _ _ said (fun _ h => by cases h) (by kernel_rfl) (fun _ h => by cases h) shapesNodes_row_tie rfl ⟨rfl, rfl⟩ (by kernel_rfl) rfl plain (by kernel_rfl)
#print axioms card
end Go.Proofs.YtdcaodkjofkmgaaGreatDoor.shapesNodes
