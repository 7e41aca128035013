/- ModsOf returns true for every input and leaves its arguments as they were: the row, and the card that ties its tables to the program's text. -/
import Derived.Test.YtcaofdhffiifpaaGreatDoorCards
import Derived.Test.YtcaofdhffiifpaaGreatDoorTie
import Derived.WalkKit
import Derived.ProofKit
import Derived.OpenShut
import Derived.Deep.DeepHandedRow
import Derived.Lib.LaidTab
import Derived.Test.YtcaofdhffiifpaaGreatDoorQLModsOf3
namespace Go.Proofs.YtcaofdhffiifpaaGreatDoor
open Go.Sx
set_option linter.unusedSimpArgs false
set_option linter.unusedVariables false
set_option maxRecDepth 100000
set_option maxHeartbeats 4000000

theorem SWx_frzP {E : Env} (t k : Nat) {c : Code} {K : Post'} {fr : List (Nat × SV)} {hp : List (Nat × Blk)} {ty : TypeId} {n : Nat} {kd : IntKind} {xs ys : List Int} (hW : ∀ b, ¬ E.W0 b) (ht : lk fr t = some (.slc k 1 0 n)) (hk : find hp k = some ⟨ty, true, .ints kd xs⟩)
    (hn : n ≤ xs.length) (hy : xs.take n = ys) (hs : SWx E c K ((t, ivec kd ys) :: fr) (setB hp k ⟨ty, true, .dead⟩)) : SWx E c K fr hp := by
  refine SWx_freeze t k (xs := xs.map (iel kd)) hW ht hk rfl rfl (keylessL_map (fun _ => rfl) xs) (by simp; omega) ?_
  have e : cutL (xs.map (iel kd)) 0 (0 + n) = ys.map (iel kd) := by
    rw [cutL, List.drop_zero, Nat.sub_zero, Nat.zero_add, ← List.map_take, hy]
  rw [e]
  exact hs

theorem r_trimM (xs : List Int) (n : Nat) (hn : n ≤ xs.length) (hl : xs.length < 1099511627776) (K : Nat) (wr : Bool) :
    CallOK Tryz.prog 77 [.slc K 1 0 n] [(K, ⟨3, wr, .ints .i64 xs⟩)] (.slc K 1 0 (cutN xs n)) [] [] := by
  refine CallOK.anyWr ?_
  refine callK (Z := []) tabOK mixedOK Tryz.func77 rfl (by kernel_rfl) (args := [.slc 1001 1 0 n]) (fk := [(1001, ⟨3, false, .ints .i64 xs⟩)]) (c := .slc 1001 1 0 (cutN xs n)) (new := []) (upd := []) (ShapeOK.of rfl rfl rfl rfl rfl rfl rfl rfl rfl rfl rfl) rfl (fun _ => K) (NamesOK.ro rfl) ?_
  intro W0 w0 ρ0 hE
  conv => whnf
  skip
  refine SW_loopN hE (fun k => k) [0] [1001] (fun m fr hp => m ≤ n ∧ cutN xs m = cutN xs n ∧ fr = [(0, .slc 1001 1 0 m)] ∧ hp = [(1001, ⟨3, false, .ints .i64 xs⟩)]) n ?_ ?_ ?_
  · kernel_rfl
  · exact ⟨by omega, rfl, rfl, rfl⟩
  rintro m _ _ ⟨hm, hc, rfl, rfl⟩
  conv => whnf
  by_cases h0 : m = 0
  · subst h0
    have t1 : decide (((0 : Nat) : Int) > 0) = false := rfl
    have e : cutN xs n = 0 := hc.symm
    rw [e]
    (repeat (first | (refine step_w2 rfl rfl ?_; conv => whnf) | (refine g_o (op_pickF rfl (ev_ok rfl) (ev_ok rfl)) ?_; conv => whnf)))
    exact ⟨Recast.refl _, (fun _ _ h => by cases h), (fun _ _ h => by cases h)⟩
  · obtain ⟨m, rfl⟩ : ∃ k, m = k + 1 := ⟨m - 1, by omega⟩
    have t1 : decide (((m + 1 : Nat) : Int) > 0) = true := decide_eq_true (by omega)
    have e1 : IntKind.i64.wrap (((m + 1 : Nat) : Int) - 1) = (m : Int) := by rw [wrap_i64 (by omega) (by omega)]; omega
    by_cases hx : xs.getD m 0 = 0
    · have t2 : (xs.getD m 0 == 0) = true := beq_iff_eq.2 hx
      rw [cutN, if_pos hx] at hc
      (repeat ((first | refine step_w1 rfl rfl ?_ | refine step_oL (by first | omega | decide | (simp only [tiB5, tiB27, tiB3, tiB2, tiB9, tiB39, tiB47, tiB37, tiB31, tiB4, tiB43, tiB45, dlen, List.length_replicate, List.length_set, List.length_map, List.length_zipWith, List.length_take, List.length_append, List.length_cons, List.length_nil]; omega)) ?_ | refine step_oA (by first | omega | decide | (simp only [tiB5, tiB27, tiB3, tiB2, tiB9, tiB39, tiB47, tiB37, tiB31, tiB4, tiB43, tiB45, dlen, List.length_replicate, List.length_set, List.length_map, List.length_zipWith, List.length_take, List.length_append, List.length_cons, List.length_nil]; omega)) ?_ | refine g_o (op_pickT rfl (ev_ok rfl) (ev_ok rfl)) ?_ | rw [t1] | rw [e1] | rw [show 0 + (m : Int).toNat = m from by omega] | rw [t2] | rw [show ((m : Int) - 0).toNat = m from by omega] | rw [Nat.zero_add]); conv => whnf))
      exact ⟨m, fun k => k, [0], [1001], by omega, by kernel_rfl, by omega, hc, rfl, rfl⟩
    · have t2 : (xs.getD m 0 == 0) = false := beq_false_of_ne hx
      rw [cutN, if_neg hx] at hc
      rw [← hc]
      (repeat ((first | refine step_w1 rfl rfl ?_ | refine step_w2 rfl rfl ?_ | refine step_oL (by first | omega | decide | (simp only [tiB5, tiB27, tiB3, tiB2, tiB9, tiB39, tiB47, tiB37, tiB31, tiB4, tiB43, tiB45, dlen, List.length_replicate, List.length_set, List.length_map, List.length_zipWith, List.length_take, List.length_append, List.length_cons, List.length_nil]; omega)) ?_ | refine step_oA (by first | omega | decide | (simp only [tiB5, tiB27, tiB3, tiB2, tiB9, tiB39, tiB47, tiB37, tiB31, tiB4, tiB43, tiB45, dlen, List.length_replicate, List.length_set, List.length_map, List.length_zipWith, List.length_take, List.length_append, List.length_cons, List.length_nil]; omega)) ?_ | refine g_o (op_pickT rfl (ev_ok rfl) (ev_ok rfl)) ?_ | rw [t1] | rw [e1] | rw [show 0 + (m : Int).toNat = m from by omega] | rw [t2]); conv => whnf))
      exact ⟨Recast.refl _, (fun _ _ h => by cases h), (fun _ _ h => by cases h)⟩

/-- Dividing by a power, one place more. -/
theorem div_pow_step (R i : Nat) : R / 10000 ^ i = 10000 * (R / 10000 ^ (i + 1)) + R / 10000 ^ i % 10000 := by
  have := Nat.div_add_mod (R / 10000 ^ i) 10000
  rw [Nat.div_div_eq_div_mul, ← Nat.pow_succ] at this
  exact this.symm

theorem r_leading (R F : Nat) (hR : (td R).length < 1099511627776) (hF : F < 1099511627776) (hb : R / 10000 ^ F < 100000000000000000) : CallOK Tryz.prog 78 [nN R, .val (.int .i64 (F : Nat))] [] (.val (.int .i64 ((R / 10000 ^ F : Nat) : Int))) [] [] := by
  have e0 : IntKind.i64.wrap (((td R).length : Int) - 1) = ((td R).length : Int) - 1 := wrap_i64 (by omega) (by omega)
  refine callV (Z := []) tabOK mixedOK Tryz.func78 rfl (by kernel_rfl) rfl rfl (by kernel_rfl) rfl ?_
  intro W0 w0 ρ0 hE
  conv => whnf
  (repeat (first | (refine g_o (op_lenM rfl rfl rfl (ev_ok rfl) (tgt rfl) rfl) ?_; conv => whnf) | (rw [e0]; conv => whnf)))
  refine SW_loopN hE (fun k => k) [0, 1, 5, 6] [] (fun q fr hp => ∃ j : Nat, q = j - F ∧ j ≤ (td R).length ∧ (F ≤ j ∨ j = (td R).length) ∧ fr = [(0, nN R), (1, .val (.int .i64 (F : Nat))), (5, .val (.int .i64 ((R / 10000 ^ j : Nat) : Int))), (6, .val (.int .i64 ((j : Int) - 1)))] ∧ hp = []) ((td R).length - F) ?_ ?_ ?_
  · kernel_rfl
  · exact ⟨(td R).length, rfl, Nat.le_refl _, .inr rfl, by rw [Nat.div_eq_of_lt (tlt_len R)]; rfl, rfl⟩
  rintro q _ _ ⟨j, rfl, hj, hjF, rfl, rfl⟩
  conv => whnf
  by_cases hgo : F < j
  · obtain ⟨i, rfl⟩ : ∃ i, j = i + 1 := ⟨j - 1, by omega⟩
    have ei : (((i + 1 : Nat) : Int) - 1) = (i : Int) := by omega
    rw [ei]
    have hs := div_pow_step R i
    have hle : R / 10000 ^ i ≤ R / 10000 ^ F := Nat.div_le_div_left (Nat.pow_le_pow_right (by decide) (by omega)) (Nat.pow_pos (by decide))
    have hg := td_get R i
    have t1 : decide ((i : Int) ≥ (F : Int)) = true := decide_eq_true (by omega)
    generalize hA : R / 10000 ^ (i + 1) = A at *
    generalize hB : R / 10000 ^ i = B at *
    have e1 : IntKind.i64.wrap (10000 * (A : Int)) = 10000 * (A : Int) := wrap_i64 (by omega) (by omega)
    have e2 : IntKind.i64.wrap (10000 * (A : Int) + ((B % 10000 : Nat) : Int)) = (B : Int) := by rw [wrap_i64 (by omega) (by omega)]; omega
    have e3 : IntKind.i64.wrap ((i : Int) - 1) = (i : Int) - 1 := wrap_i64 (by omega) (by omega)
    have hiT : i < (td R).length := by omega
    clear hs hle
    (repeat ((first | refine step_w1 rfl rfl ?_ | refine g_o (op_loadA rfl (ev_ok rfl) (tgt rfl) rfl (Nat.succ_ne_zero _) rfl) ?_ | refine g_o (op_indexN (α := Int) (d := 0) rfl (ev_ok rfl) (ev_ok rfl) (tgt rfl) rfl (tgt rfl) rfl (by omega)) ?_ | rw [t1] | rw [hg] | rw [e1] | rw [e2] | rw [e3]); conv => whnf))
    exact ⟨i - F, fun k => k, [0, 1, 5, 6], [], by omega, by kernel_rfl, i, rfl, by omega, by omega, by rw [hB]; rfl, rfl⟩
  · have t1 : decide ((j : Int) - 1 ≥ (F : Int)) = false := decide_eq_false (by omega)
    have e : R / 10000 ^ F = R / 10000 ^ j := by
      rcases hjF with h | h
      · rw [show j = F by omega]
      · rw [h, Nat.div_eq_of_lt (tlt_len R), Nat.div_eq_of_lt (td_lt_pow (by omega))]
    rw [e]
    (repeat (first | (refine step_w2 rfl rfl ?_; conv => whnf) | (rw [t1]; conv => whnf))); (first | exact Recast.refl _ | exact Frz.recast (Recast.refl _) rfl | (refine Frz.one rfl rfl ?_; skip) | (refine Frz.tup ?_; skip))
theorem r_leadingM (L : List Int) (R F : Nat) (hL : L.take (td R).length = td R) (hLl : (td R).length ≤ L.length) (hR : (td R).length < 1099511627776) (hF : F < 1099511627776) (hb : R / 10000 ^ F < 100000000000000000) (K : Nat) (wr : Bool) :
    CallOK Tryz.prog 78 [.slc K 1 0 (td R).length, .val (.int .i64 (F : Nat))] [(K, ⟨3, wr, .ints .i64 L⟩)] (.val (.int .i64 ((R / 10000 ^ F : Nat) : Int))) [] [] := by
  have e0 : IntKind.i64.wrap (((td R).length : Int) - 1) = ((td R).length : Int) - 1 := wrap_i64 (by omega) (by omega)
  have hLg : ∀ i, i < (td R).length → L.getD i 0 = ((R / 10000 ^ i % 10000 : Nat) : Int) := fun i hi => by rw [← td_get, ← hL, getD_take, if_pos hi]
  refine CallOK.anyWr ?_
  refine callK (Z := []) tabOK mixedOK Tryz.func78 rfl (by kernel_rfl) (args := [.slc 1001 1 0 (td R).length, .val (.int .i64 (F : Nat))]) (fk := [(1001, ⟨3, false, .ints .i64 L⟩)]) (c := .val (.int .i64 ((R / 10000 ^ F : Nat) : Int))) (new := []) (upd := []) (ShapeOK.of rfl rfl rfl rfl rfl rfl rfl rfl rfl rfl rfl) rfl (fun _ => K) (NamesOK.ro rfl) ?_
  intro W0 w0 ρ0 hE
  conv => whnf
  (repeat (first | (rw [e0]; conv => whnf)))
  refine SW_loopN hE (fun k => k) [0, 1, 5, 6] [1001] (fun q fr hp => ∃ j : Nat, q = j - F ∧ j ≤ (td R).length ∧ (F ≤ j ∨ j = (td R).length) ∧ fr = [(0, .slc 1001 1 0 (td R).length), (1, .val (.int .i64 (F : Nat))), (5, .val (.int .i64 ((R / 10000 ^ j : Nat) : Int))), (6, .val (.int .i64 ((j : Int) - 1)))] ∧ hp = [(1001, ⟨3, false, .ints .i64 L⟩)]) ((td R).length - F) ?_ ?_ ?_
  · kernel_rfl
  · exact ⟨(td R).length, rfl, Nat.le_refl _, .inr rfl, by rw [Nat.div_eq_of_lt (tlt_len R)]; rfl, rfl⟩
  rintro q _ _ ⟨j, rfl, hj, hjF, rfl, rfl⟩
  conv => whnf
  by_cases hgo : F < j
  · obtain ⟨i, rfl⟩ : ∃ i, j = i + 1 := ⟨j - 1, by omega⟩
    have ei : (((i + 1 : Nat) : Int) - 1) = (i : Int) := by omega
    rw [ei]
    have hs := div_pow_step R i
    have hle : R / 10000 ^ i ≤ R / 10000 ^ F := Nat.div_le_div_left (Nat.pow_le_pow_right (by decide) (by omega)) (Nat.pow_pos (by decide))
    have hg := hLg i (by omega)
    have t1 : decide ((i : Int) ≥ (F : Int)) = true := decide_eq_true (by omega)
    generalize hA : R / 10000 ^ (i + 1) = A at *
    generalize hB : R / 10000 ^ i = B at *
    have e1 : IntKind.i64.wrap (10000 * (A : Int)) = 10000 * (A : Int) := wrap_i64 (by omega) (by omega)
    have e2 : IntKind.i64.wrap (10000 * (A : Int) + ((B % 10000 : Nat) : Int)) = (B : Int) := by rw [wrap_i64 (by omega) (by omega)]; omega
    have e3 : IntKind.i64.wrap ((i : Int) - 1) = (i : Int) - 1 := wrap_i64 (by omega) (by omega)
    have hiT : i < (td R).length := by omega
    clear hs hle
    (repeat ((first | refine step_w1 rfl rfl ?_ | refine step_oL (by first | omega | decide | (simp only [tiB5, tiB27, tiB3, tiB2, tiB9, tiB39, tiB47, tiB37, tiB31, tiB4, tiB43, tiB45, dlen, List.length_replicate, List.length_set, List.length_map, List.length_zipWith, List.length_take, List.length_append, List.length_cons, List.length_nil]; omega)) ?_ | refine step_oA (by first | omega | decide | (simp only [tiB5, tiB27, tiB3, tiB2, tiB9, tiB39, tiB47, tiB37, tiB31, tiB4, tiB43, tiB45, dlen, List.length_replicate, List.length_set, List.length_map, List.length_zipWith, List.length_take, List.length_append, List.length_cons, List.length_nil]; omega)) ?_ | rw [t1] | rw [hg] | rw [e1] | rw [e2] | rw [e3] | rw [Int.toNat_natCast] | rw [Nat.zero_add]); conv => whnf))
    exact ⟨i - F, fun k => k, [0, 1, 5, 6], [1001], by omega, by kernel_rfl, i, rfl, by omega, by omega, by rw [hB]; rfl, rfl⟩
  · have t1 : decide ((j : Int) - 1 ≥ (F : Int)) = false := decide_eq_false (by omega)
    have e : R / 10000 ^ F = R / 10000 ^ j := by
      rcases hjF with h | h
      · rw [show j = F by omega]
      · rw [h, Nat.div_eq_of_lt (tlt_len R), Nat.div_eq_of_lt (td_lt_pow (by omega))]
    rw [e]
    (repeat (first | (refine step_w2 rfl rfl ?_; conv => whnf) | (rw [t1]; conv => whnf)))
    exact ⟨Recast.refl _, (fun _ _ h => by cases h), (fun _ _ h => by cases h)⟩

section
variable {a b R d P F T lb : Nat}
theorem guess_lo {R b P T : Nat} (hb : 0 < b) (hP : 0 < P) (hT : b < (T + 1) * P) : R / P / (T + 1) ≤ R / b := by
  rw [Nat.le_div_iff_mul_le hb]
  have h1 : R / P / (T + 1) * (T + 1) ≤ R / P := Nat.div_mul_le_self _ _
  have h2 : R / P * P ≤ R := Nat.div_mul_le_self _ _
  have h3 : R / P / (T + 1) * b ≤ R / P / (T + 1) * ((T + 1) * P) := Nat.mul_le_mul_left _ (Nat.le_of_lt hT)
  have h4 : R / P / (T + 1) * (T + 1) * P ≤ R / P * P := Nat.mul_le_mul_right P h1
  rw [Nat.mul_assoc] at h4
  omega
theorem guess_hi {R b P T : Nat} (hT0 : 0 < T) (hP : 0 < P) (hT : T * P ≤ b) : R / b ≤ R / P / T := by
  rw [Nat.le_div_iff_mul_le hT0, Nat.le_div_iff_mul_le hP]
  have h1 : R / b * b ≤ R := Nat.div_mul_le_self _ _
  have h2 : R / b * (T * P) ≤ R / b * b := Nat.mul_le_mul_left _ hT
  rw [Nat.mul_assoc]
  omega
end
theorem step_div {A b d : Nat} (hb : 0 < b) : (10000 * A + d) / b = 10000 * (A / b) + (A % b * 10000 + d) / b := by
  have h : 10000 * A + d = A % b * 10000 + d + b * (10000 * (A / b)) := by
    have := Nat.div_add_mod A b
    have e : b * (10000 * (A / b)) = 10000 * (b * (A / b)) := by rw [← Nat.mul_assoc, Nat.mul_comm b 10000, Nat.mul_assoc]
    omega
  rw [h, Nat.add_mul_div_left _ _ hb]; omega
theorem step_mod {A b d : Nat} : (10000 * A + d) % b = (A % b * 10000 + d) % b := by
  have h : 10000 * A + d = A % b * 10000 + d + b * (10000 * (A / b)) := by
    have := Nat.div_add_mod A b
    have e : b * (10000 * (A / b)) = 10000 * (b * (A / b)) := by rw [← Nat.mul_assoc, Nat.mul_comm b 10000, Nat.mul_assoc]
    omega
  rw [h, Nat.add_mul_mod_self_left]
theorem digit_lt {r b d : Nat} (hb : 0 < b) (hr : r < b) (hd : d < 10000) : (r * 10000 + d) / b < 10000 := by
  rw [Nat.div_lt_iff_lt_mul hb]
  have : (r + 1) * 10000 ≤ b * 10000 := Nat.mul_le_mul_right _ hr
  rw [Nat.add_mul] at this
  rw [Nat.mul_comm 10000 b]; omega
/-- The first digits of a number. -/
theorem top_pos {b : Nat} (hb : 0 < b) : 0 < b / 10000 ^ ((td b).length - 3) := by
  refine Nat.div_pos (Nat.le_trans (Nat.pow_le_pow_right (by decide) (by omega)) (td_ge_pow (by omega))) (Nat.pow_pos (by decide))
theorem top_lt {b : Nat} : b / 10000 ^ ((td b).length - 3) < 1000000000000 := by
  rw [Nat.div_lt_iff_lt_mul (Nat.pow_pos (by decide)), show 1000000000000 = 10000 ^ 3 from rfl, ← Nat.pow_add]
  exact td_lt_pow (by omega)
theorem td_cons {d R : Nat} (hd : d < 10000) (h : R * 10000 + d ≠ 0) : td (R * 10000 + d) = (d : Int) :: td R := by
  rw [td_succ h, show (R * 10000 + d) % 10000 = d by omega, show (R * 10000 + d) / 10000 = R by omega]
theorem td_drop : ∀ (k n : Nat), (td n).drop k = td (n / 10000 ^ k)
  | 0, n => by simp
  | k + 1, n => by
    by_cases h : n = 0
    · subst h; rw [td_zero, Nat.zero_div]; rfl
    · rw [td_succ h, List.drop_succ_cons, td_drop k, Nat.div_div_eq_div_mul, Nat.pow_succ, Nat.mul_comm]
/-- A digit in front of a number's. -/
theorem cut_cons {d R : Nat} (hd : d < 10000) : cutN ((d : Int) :: td R) ((td R).length + 1) = (td (R * 10000 + d)).length ∧ ((d : Int) :: td R).take (td (R * 10000 + d)).length = td (R * 10000 + d) := by
  by_cases h : R * 10000 + d = 0
  · obtain rfl : R = 0 := by omega
    obtain rfl : d = 0 := by omega
    exact ⟨rfl, rfl⟩
  · have e := td_cons hd h
    have hl : (td (R * 10000 + d)).length = (td R).length + 1 := by rw [e]; rfl
    have ht := (td_top h).2
    rw [hl, e, Nat.add_sub_cancel] at ht
    refine ⟨?_, ?_⟩
    · rw [hl, cutN, if_neg ht]
    · rw [← e, List.take_length]

theorem wrap_nat {n : Nat} (h : n < 9223372036854775808) : IntKind.i64.wrap (n : Int) = n := wrap_i64 (by omega) (by omega)
theorem r_Div (a b : Nat) (hb : 0 < b) (ha : (td a).length < 268435456) (hbl : (td b).length < 268435456) : CallOK Tryz.prog 58 [nN a, nN b] [] (.tup [nN (a / b), nN (a % b)]) [] [] := by
  have k1 := r_Cmp a b (by omega) (by omega)
  by_cases hlt : a < b
  · have t1 : decide (((a : Int) - b).sign < 0) = true := decide_eq_true (by rw [Int.sign_eq_neg_one_of_neg (by omega)]; omega)
    have e0 : nN (a / b) = vecA 1 [] := by rw [Nat.div_eq_of_lt hlt]; rfl
    have e1 : nN (a % b) = nN a := by rw [Nat.mod_eq_of_lt hlt]
    rw [e0, e1]
    refine callF (Z := []) tabOK mixedOK Tryz.func58 rfl (by kernel_rfl) (by first | rfl | (simp [keylessL, keyless, keylessL_map, *]; done)) (by first | rfl | (simp [keylessL, keyless, keylessL_map, *]; done)) (by kernel_rfl) rfl ?_
    intro w0 ρ0 hE
    conv => whnf
    (repeat (first | (refine step_w1 rfl rfl ?_; conv => whnf) | (refine g_c (by assumption) ?_; conv => whnf) | (rw [t1]; conv => whnf))); (first | exact Recast.refl _ | exact Frz.recast (Recast.refl _) rfl | (refine Frz.one rfl rfl ?_; skip) | (refine Frz.tup ?_; (repeat (first | exact FrzC.keyless rfl | exact FrzL.nil | refine FrzL.cons ?_ ?_ | exact FrzC.nilS))))
  have t1 : decide (((a : Int) - b).sign < 0) = false := decide_eq_false (by have := Int.sign_nonneg_iff.2 (show 0 ≤ (a : Int) - b by omega); omega)
  have hle := td_len_mono (show b ≤ a by omega)
  have hlb0 : 0 < (td b).length := by have := (td_len_zero (n := b)); omega
  have hT0 := top_pos hb
  have hT1 := top_lt (b := b)
  have hPos : 0 < 10000 ^ ((td b).length - 3) := Nat.pow_pos (by decide)
  have hTb : b / 10000 ^ ((td b).length - 3) * 10000 ^ ((td b).length - 3) ≤ b := Nat.div_mul_le_self _ _
  have hbT : b < (b / 10000 ^ ((td b).length - 3) + 1) * 10000 ^ ((td b).length - 3) := by rw [Nat.mul_comm]; exact Nat.lt_mul_div_succ b hPos
  have k2 := r_leading b ((td b).length - 3) (by omega) (by omega) (by omega)
  generalize hF : (td b).length - 3 = F at *
  generalize hT : b / 10000 ^ F = T at *
  have e1 : IntKind.i64.wrap (((td b).length : Int) - 3) = ((td b).length : Int) - 3 := wrap_i64 (by omega) (by omega)
  have e2 : (if ((td b).length : Int) - 3 > 0 then ((td b).length : Int) - 3 else 0) = (F : Int) := by split <;> omega
  generalize hD : (td a).length - (td b).length = D
  have e3 : IntKind.i64.wrap (((td a).length : Int) - ((td b).length : Int)) = (D : Int) := by rw [wrap_i64 (by omega) (by omega)]; omega
  have e4 : IntKind.i64.wrap ((D : Int) + 1) = ((D + 1 : Nat) : Int) := by rw [wrap_i64 (by omega) (by omega)]; omega
  have hA0 : a / 10000 ^ (D + 1) < b := by
    have h1 := tlt_len a
    have h2 := td_ge_pow (n := b) (by omega)
    rw [Nat.div_lt_iff_lt_mul (Nat.pow_pos (by decide))]
    refine Nat.lt_of_lt_of_le h1 (Nat.le_trans (m := 10000 ^ ((td b).length - 1) * 10000 ^ (D + 1)) ?_ (Nat.mul_le_mul_right _ h2))
    rw [← Nat.pow_add]
    exact Nat.pow_le_pow_right (by decide) (by omega)
  have hdrop : ((td a).drop (D + 1)).take ((td a).length - (D + 1)) = td (a / 10000 ^ (D + 1)) := by
    rw [td_drop, List.take_of_length_le]
    rw [← td_drop, List.length_drop]; omega
  have wb := td_w32 b
  refine callF (Z := []) tabOK mixedOK Tryz.func58 rfl (by kernel_rfl) (by first | rfl | (simp [keylessL, keyless, keylessL_map, *]; done)) (by first | rfl | (simp [keylessL, keyless, keylessL_map, *]; done)) (by kernel_rfl) rfl ?_
  intro w0 ρ0 hE
  conv => whnf
  have hR0l : (td (a / 10000 ^ (D + 1))).length < 1099511627776 := by have := td_len_mono (Nat.div_le_self a (10000 ^ (D + 1))); omega
  generalize hR0 : a / 10000 ^ (D + 1) = R0 at *
  (repeat (first | (refine step_w2 rfl rfl ?_; conv => whnf) | (refine step_oA (by first | omega | decide | (simp only [tiB5, tiB27, tiB3, tiB2, tiB9, tiB39, tiB47, tiB37, tiB31, tiB4, tiB43, tiB45, dlen, List.length_replicate, List.length_set, List.length_map, List.length_zipWith, List.length_take, List.length_append, List.length_cons, List.length_nil]; omega)) ?_; conv => whnf) | (refine g_c (by assumption) ?_; conv => whnf) | (refine g_o (op_lenM rfl rfl rfl (ev_ok rfl) (tgt rfl) rfl) ?_; conv => whnf) | (refine g_o (op_sliceM rfl (ev_ok rfl) (bound_spec rfl) (bound_spec rfl) (.inl rfl) (tgt rfl) rfl (tgt rfl) rfl (by omega)) ?_; conv => whnf) | (refine ⟨.slc 40 1 0 (0 + (td R0).length), [(35, ⟨3, true, .ints .i64 []⟩)], [(40, ⟨3, true, .ints .i64 (td R0)⟩)], [(35, ⟨3, true, .dead⟩)], op_appendV rfl rfl rfl (ev_ok rfl) (ev_ok rfl) (rows_ints (td R0)) (tabOK.get (t := 43) rfl) rfl (tabOK.get (t := 43) rfl) rfl (tabOK.get (t := 3) rfl) (List.mem_cons_self ..) rfl rfl (by simp [dlen]) (by simp) (by simp [dlen]) (by simp [dapp]) (by show (0 + _) * ti3.bytes ≤ _; simp only [tiB3]; omega) (by omega), one_fk rfl, one_new rfl, one_upd (List.mem_cons_self ..) rfl rfl rfl, ?_⟩; conv => whnf) | (rw [t1]; conv => whnf) | (rw [e1]; conv => whnf) | (rw [e2]; conv => whnf) | (rw [e3]; conv => whnf) | (rw [e4]; conv => whnf) | (rw [hdrop]; conv => whnf) | (rw [Int.toNat_natCast]; conv => whnf) | (rw [Nat.zero_add]; conv => whnf)))
  refine SWx_frzP 10 40 (fun _ h => h) rfl rfl (Nat.le_refl _) (List.take_length) ?_
  have e5 : ((D + 1 : Nat) : Int) - 1 = (D : Int) := by omega
  refine SW_loopS hE (fun k => k) [0, 1, 6, 7, 8, 9, 10] [34] (fun m fr hp => ∃ Q : List Int, m ≤ D + 1 ∧ Q.length = D + 1 ∧ W4 Q ∧ (∀ k, k < m → Q.getD k 0 = 0) ∧ valT Q (D + 1) = ((a / 10000 ^ m / b : Nat) : Int) * 10000 ^ m ∧
    fr = [(0, nN a), (1, nN b), (6, .val (.int .i64 (F : Nat))), (7, .val (.int .i64 (T : Nat))), (8, .val (.int .i64 ((m : Int) - 1))), (9, .slc 34 1 0 (D + 1)), (10, nN (a / 10000 ^ m % b))] ∧ hp = [(34, zblk Q)]) (D + 1) ?_ ?_ ?_
  · kernel_rfl
  · refine ⟨List.replicate (D + 1) 0, Nat.le_refl _, List.length_replicate, W4_of (fun x hx => by rw [(List.mem_replicate.1 hx).2]; omega), (fun k _ => getD_replicate), ?_, ?_, rfl⟩
    · rw [valT_zeros (k := 0) (fun i _ _ => getD_replicate) (Nat.zero_le _), hR0, Nat.div_eq_of_lt hA0]; simp [valT]
    · rw [e5, hR0, Nat.mod_eq_of_lt hA0]; rfl
  rintro m _ _ ⟨Q, hm, hQl, hQw, hQ0, hQv, rfl, rfl⟩
  by_cases h0 : m = 0
  · subst h0
    rw [Nat.pow_zero, Nat.div_one, Int.pow_zero, Int.mul_one] at hQv
    have hz : nN (a / 10000 ^ 0 % b) = nN (a % b) := by rw [Nat.pow_zero, Nat.div_one]
    rw [hz]
    have t2 : decide (((0 : Nat) : Int) - 1 ≥ 0) = false := rfl
    have kt := r_trim Q (by omega) hQw
    rw [show (valT Q Q.length).toNat = a / b by rw [hQl, hQv]; exact Int.toNat_natCast _] at kt
    refine SWx_frzI 9 34 (fun _ h => h) rfl rfl hQl.symm ?_
    refine SWx.of hE ?_
    conv => whnf
    (repeat (first | (refine step_w2 rfl rfl ?_; conv => whnf) | (refine g_c (by assumption) ?_; conv => whnf))); (first | exact Recast.refl _ | exact Frz.recast (Recast.refl _) rfl | (refine Frz.one rfl rfl ?_; skip) | (refine Frz.tup ?_; skip))
  · obtain ⟨i, rfl⟩ : ∃ i, m = i + 1 := ⟨m - 1, by omega⟩
    have ei : (((i + 1 : Nat) : Int) - 1) = (i : Int) := by omega
    rw [ei]
    have hst := div_pow_step a i
    have hdig : (td a).getD i 0 = ((a / 10000 ^ i % 10000 : Nat) : Int) := td_get a i
    have hdlt : a / 10000 ^ i % 10000 < 10000 := Nat.mod_lt _ (by decide)
    have hia : i < (td a).length := by omega
    have hAle := td_len_mono (Nat.le_trans (Nat.mod_le (a / 10000 ^ (i + 1)) b) (Nat.div_le_self a _))
    have hq1 := hQv
    have hfin : ((a / 10000 ^ i / b : Nat) : Int) = 10000 * ((a / 10000 ^ (i + 1) / b : Nat) : Int) + (((a / 10000 ^ (i + 1) % b * 10000 + a / 10000 ^ i % 10000) / b : Nat) : Int) := by
      rw [hst, step_div hb]
      have : (10000 * (a / 10000 ^ (i + 1)) + a / 10000 ^ i % 10000) % 10000 = a / 10000 ^ i % 10000 := by rw [← hst]
      rw [this]; omega
    have hfinr : a / 10000 ^ i % b = (a / 10000 ^ (i + 1) % b * 10000 + a / 10000 ^ i % 10000) % b := by
      have h := step_mod (A := a / 10000 ^ (i + 1)) (b := b) (d := a / 10000 ^ i % 10000)
      rw [← hst] at h; exact h
    have hRb : a / 10000 ^ (i + 1) % b < b := Nat.mod_lt _ hb
    clear hst
    generalize hd : a / 10000 ^ i % 10000 = d at *
    generalize hR : a / 10000 ^ (i + 1) % b = R at *
    obtain ⟨hc1, hc2⟩ := cut_cons (R := R) hdlt
    have hR'l : (td (R * 10000 + d)).length ≤ (td R).length + 1 := tlen_le (by have := tlt_len R; rw [Nat.pow_succ]; omega)
    have hqlt := digit_lt (d := d) hb hRb hdlt
    have hR'b : (td (R * 10000 + d)).length ≤ (td b).length + 1 := tlen_le (by have := tlt_len b; rw [Nat.pow_succ]; omega)
    have kt := r_trimM ((d : Int) :: td R) (1 + (td R).length) (by rw [List.length_cons]; omega) (by rw [List.length_cons]; omega) 51 true
    rw [Nat.add_comm 1, hc1, Nat.add_comm] at kt
    have hfst : (R * 10000 + d) / 10000 ^ F < 10000 ^ 4 := by
      rw [Nat.div_lt_iff_lt_mul (Nat.pow_pos (by decide)), ← Nat.pow_add]
      exact td_lt_pow (by omega)
    have kl := r_leadingM ((d : Int) :: td R) (R * 10000 + d) F hc2 (by rw [List.length_cons]; omega) (by omega) (by omega) (by omega) 51 true
    have glo := guess_lo (R := R * 10000 + d) hb hPos hbT
    have ghi := guess_hi (R := R * 10000 + d) hT0 hPos hTb
    have hsub : R * 10000 + d - b * ((R * 10000 + d) / b) = a / 10000 ^ i % b := by
      rw [hfinr]; have := Nat.div_add_mod (R * 10000 + d) b; omega
    have hmulle : b * ((R * 10000 + d) / b) ≤ R * 10000 + d := Nat.mul_div_le _ _
    have hqle : ∀ x, b * x ≤ R * 10000 + d ↔ x ≤ (R * 10000 + d) / b := fun x => by rw [Nat.le_div_iff_mul_le hb, Nat.mul_comm]
    generalize hR' : R * 10000 + d = R' at *
    generalize hfe : R' / 10000 ^ F = fst at *
    generalize hqd : R' / b = qd at *
    have e6 : IntKind.i64.wrap ((T : Int) + 1) = ((T + 1 : Nat) : Int) := by rw [wrap_i64 (by omega) (by omega)]; omega
    have e7 : IntKind.i64.wrap ((fst : Int).tdiv ((T + 1 : Nat) : Int)) = ((fst / (T + 1) : Nat) : Int) := by
      rw [Int.tdiv_eq_ediv_of_nonneg (by omega), ← Int.natCast_ediv]
      exact wrap_nat (Nat.lt_of_le_of_lt (Nat.div_le_self fst (T + 1)) (by omega))
    have e8 : IntKind.i64.wrap ((fst : Int).tdiv (T : Int)) = ((fst / T : Nat) : Int) := by
      rw [Int.tdiv_eq_ediv_of_nonneg (by omega), ← Int.natCast_ediv]
      exact wrap_nat (Nat.lt_of_le_of_lt (Nat.div_le_self fst T) (by omega))
    have e9 : (if (9999 : Int) < ((fst / T : Nat) : Int) then (9999 : Int) else ((fst / T : Nat) : Int)) = ((min (fst / T) 9999 : Nat) : Int) := by split <;> omega
    have t2 : decide ((i : Int) ≥ 0) = true := decide_eq_true (by omega)
    have hRl : (td R).length < 1099511627776 := by omega
    refine SWx.of hE ?_
    conv => whnf
    (repeat (first | (refine step_w1 rfl rfl ?_; conv => whnf) | (refine step_i (by kernel_rfl) ?_; conv => whnf) | (refine step_oN (by first | omega | decide | (simp only [tiB5, tiB27, tiB3, tiB2, tiB9, tiB39, tiB47, tiB37, tiB31, tiB4, tiB43, tiB45, dlen, List.length_replicate, List.length_set, List.length_map, List.length_zipWith, List.length_take, List.length_append, List.length_cons, List.length_nil]; omega)) ?_; conv => whnf) | (refine g_c1 (by assumption) rfl ?_; conv => whnf) | (refine g_o (op_loadA rfl (ev_ok rfl) (tgt rfl) rfl (Nat.succ_ne_zero _) rfl) ?_; conv => whnf) | (refine g_o (op_indexN (α := Int) (d := 0) rfl (ev_ok rfl) (ev_ok rfl) (tgt rfl) rfl (tgt rfl) rfl (by omega)) ?_; conv => whnf) | (refine ⟨.slc 51 1 0 (1 + (td R).length), [(49, ⟨3, true, .ints .i64 [(d : Int)]⟩)], [(51, ⟨3, true, .ints .i64 ((d : Int) :: td R)⟩)], [(49, ⟨3, true, .dead⟩)], op_appendV rfl rfl rfl (ev_ok rfl) (ev_ok rfl) (rows_ints (td R)) (tabOK.get (t := 43) rfl) rfl (tabOK.get (t := 43) rfl) rfl (tabOK.get (t := 3) rfl) (List.mem_cons_self ..) rfl rfl (by simp [dlen]) (by simp) (by simp [dlen]) (by simp [dapp]) (by show (1 + _) * ti3.bytes ≤ _; simp only [tiB3]; omega) (by omega), one_fk rfl, one_new rfl, one_upd (List.mem_cons_self ..) rfl rfl rfl, ?_⟩; conv => whnf) | (rw [t2]; conv => whnf) | (rw [hdig]; conv => whnf) | (rw [e6]; conv => whnf) | (rw [e7]; conv => whnf) | (rw [e8]; conv => whnf) | (rw [e9]; conv => whnf)))
    refine SWx_frzP 10 51 (fun _ h => h) rfl rfl (by rw [List.length_cons]; omega) hc2 ?_
    have hmin1 : fst / (T + 1) ≤ qd := glo
    have hmin2 : qd ≤ min (fst / T) 9999 := by omega
    have hmin3 : min (fst / T) 9999 ≤ 9999 := Nat.min_le_right _ _
    clear kl kt hc1 hc2 glo ghi hbT hTb e9 e8 e7 e6 hfst
    generalize fst / (T + 1) = lo0 at *
    generalize min (fst / T) 9999 = hi0 at *
    refine SW_loopN hE (fun k => k) [0, 1, 6, 7, 8, 9, 10, 12, 13] [34] (fun q fr hp => ∃ lo hi : Nat, q = hi - lo ∧ lo ≤ qd ∧ qd ≤ hi ∧ hi ≤ 9999 ∧
      fr = [(0, nN a), (1, nN b), (6, .val (.int .i64 (F : Nat))), (7, .val (.int .i64 (T : Nat))), (8, .val (.int .i64 (i : Nat))), (9, .slc 34 1 0 (D + 1)), (10, nN R'), (12, .val (.int .i64 (lo : Nat))), (13, .val (.int .i64 (hi : Nat)))] ∧ hp = [(34, zblk Q)]) (hi0 - lo0) ?_ ?_ ?_
    · kernel_rfl
    · exact ⟨lo0, hi0, rfl, hmin1, hmin2, hmin3, rfl, rfl⟩
    rintro q _ _ ⟨lo, hi, rfl, hlo, hhi, hhi2, rfl, rfl⟩
    conv => whnf
    by_cases hl : lo < hi
    · have t3 : decide ((lo : Int) < (hi : Int)) = true := decide_eq_true (by omega)
      have e10 : IntKind.i64.wrap ((lo : Int) + (hi : Int)) = ((lo + hi : Nat) : Int) := by rw [wrap_i64 (by omega) (by omega)]; omega
      have e11 : IntKind.i64.wrap (((lo + hi : Nat) : Int) + 1) = ((lo + hi + 1 : Nat) : Int) := by rw [wrap_i64 (by omega) (by omega)]; omega
      have e12 : IntKind.i64.wrap (((lo + hi + 1 : Nat) : Int).tdiv 2) = (((lo + hi + 1) / 2 : Nat) : Int) := by
        rw [Int.tdiv_eq_ediv_of_nonneg (by omega)]
        exact wrap_i64 (by omega) (by omega)
      have e12' : (((lo + hi + 1 : Nat) : Int).tdiv 2) = (((lo + hi + 1) / 2 : Nat) : Int) := by rw [Int.tdiv_eq_ediv_of_nonneg (by omega)]; rfl
      have hmid : lo < (lo + hi + 1) / 2 ∧ (lo + hi + 1) / 2 ≤ hi := by omega
      generalize (lo + hi + 1) / 2 = mid at *
      have e13 : IntKind.u64.wrap (mid : Int) = (mid : Int) := wrap_u64 (by omega) (by omega)
      have hbm : (td (b * mid)).length ≤ (td b).length + 1 := tlen_le (by
        have h1 := tlt_len b
        have h2 : b * mid ≤ b * 10000 := Nat.mul_le_mul_left _ (by omega)
        rw [Nat.pow_succ]; omega)
      have hml : (td mid).length ≤ 1 := tlen_le (by omega)
      have o1 := r_Of mid (by omega)
      have o2 := r_Mul b mid (by omega) (by omega)
      have o3 := r_Cmp (b * mid) R' (by omega) (by omega)
      by_cases hc : b * mid ≤ R'
      · have t4 : decide ((((b * mid : Nat) : Int) - R').sign ≤ 0) = true := decide_eq_true (by
          have := Int.sign_nonpos_iff.2 (show ((b * mid : Nat) : Int) - R' ≤ 0 by omega); omega)
        have := (hqle mid).1 hc
        (repeat ((first | refine step_w1 rfl rfl ?_ | refine step_oN (by first | omega | decide | (simp only [tiB5, tiB27, tiB3, tiB2, tiB9, tiB39, tiB47, tiB37, tiB31, tiB4, tiB43, tiB45, dlen, List.length_replicate, List.length_set, List.length_map, List.length_zipWith, List.length_take, List.length_append, List.length_cons, List.length_nil]; omega)) ?_ | refine g_c (by assumption) ?_ | rw [t3] | rw [e10] | rw [e11] | rw [e12] | rw [e13] | rw [t4]); conv => whnf))
        exact ⟨hi - mid, fun k => k, [0, 1, 6, 7, 8, 9, 10, 12, 13], [34], by omega, by kernel_rfl, mid, hi, rfl, this, hhi, hhi2, rfl, rfl⟩
      · have t4 : decide ((((b * mid : Nat) : Int) - R').sign ≤ 0) = false := decide_eq_false (by
          rw [Int.sign_eq_one_of_pos (show 0 < ((b * mid : Nat) : Int) - R' by omega)]; omega)
        have : ¬ mid ≤ qd := fun h => hc ((hqle mid).2 h)
        have e14 : IntKind.i64.wrap ((mid : Int) - 1) = ((mid - 1 : Nat) : Int) := by rw [wrap_i64 (by omega) (by omega)]; omega
        (repeat ((first | refine step_w1 rfl rfl ?_ | refine step_w2 rfl rfl ?_ | refine step_oN (by first | omega | decide | (simp only [tiB5, tiB27, tiB3, tiB2, tiB9, tiB39, tiB47, tiB37, tiB31, tiB4, tiB43, tiB45, dlen, List.length_replicate, List.length_set, List.length_map, List.length_zipWith, List.length_take, List.length_append, List.length_cons, List.length_nil]; omega)) ?_ | refine g_c (by assumption) ?_ | rw [t3] | rw [e10] | rw [e11] | rw [e12] | rw [e13] | rw [t4] | rw [e14]); conv => whnf))
        exact ⟨mid - 1 - lo, fun k => k, [0, 1, 6, 7, 8, 9, 10, 12, 13], [34], by omega, by kernel_rfl, lo, mid - 1, rfl, hlo, by omega, by omega, rfl, rfl⟩
    · have t3 : decide ((lo : Int) < (hi : Int)) = false := decide_eq_false (by omega)
      obtain rfl : lo = qd := by omega
      have e13 : IntKind.u64.wrap (lo : Int) = (lo : Int) := wrap_u64 (by omega) (by omega)
      have e14 : IntKind.i64.wrap ((i : Int) - 1) = (i : Int) - 1 := wrap_i64 (by omega) (by omega)
      have hbm : (td (b * lo)).length ≤ (td b).length + 1 := tlen_le (by
        have h1 := tlt_len b
        have h2 : b * lo ≤ b * 10000 := Nat.mul_le_mul_left _ (by omega)
        rw [Nat.pow_succ]; omega)
      have hml : (td lo).length ≤ 1 := tlen_le (by omega)
      have o1 := r_Of lo (by omega)
      have o2 := r_Mul b lo (by omega) (by omega)
      have o3 := r_Sub R' (b * lo) hmulle (by omega)
      rw [hsub] at o3
      have hiQ : i < Q.length := by omega
      have hQs : (Q.set i (lo : Int)).length = D + 1 := by rw [List.length_set]; exact hQl
      have hQw2 := hQw.set (i := i) (show (0 : Int) ≤ lo by omega) (by omega)
      have hQ02 : ∀ k, k < i → (Q.set i (lo : Int)).getD k 0 = 0 := fun k hk => by rw [getD_set, if_neg (by omega)]; exact hQ0 k (by omega)
      have hQv2 : valT (Q.set i (lo : Int)) (D + 1) = ((a / 10000 ^ i / b : Nat) : Int) * 10000 ^ i := by
        rw [valT_set (by omega) hiQ, hQ0 i (by omega), hQv, hfin, Int.pow_succ]; grind
      (repeat ((first | refine step_w2 rfl rfl ?_ | refine step_oL (by first | omega | decide | (simp only [tiB5, tiB27, tiB3, tiB2, tiB9, tiB39, tiB47, tiB37, tiB31, tiB4, tiB43, tiB45, dlen, List.length_replicate, List.length_set, List.length_map, List.length_zipWith, List.length_take, List.length_append, List.length_cons, List.length_nil]; omega)) ?_ | refine step_oA (by first | omega | decide | (simp only [tiB5, tiB27, tiB3, tiB2, tiB9, tiB39, tiB47, tiB37, tiB31, tiB4, tiB43, tiB45, dlen, List.length_replicate, List.length_set, List.length_map, List.length_zipWith, List.length_take, List.length_append, List.length_cons, List.length_nil]; omega)) ?_ | refine g_c (by assumption) ?_ | rw [t3] | rw [show 0 + (i : Int).toNat = i from by omega] | rw [e13] | rw [e14]); conv => whnf))
      exact ⟨i, fun k => k, [0, 1, 6, 7, 8, 9, 10], [34], by omega, by kernel_rfl, Q.set i (lo : Int), by omega, hQs, hQw2, hQ02, hQv2, rfl, rfl⟩

theorem td_lt_len {a b : Nat} (h : a ≤ b) {M : Nat} (hb : (td b).length < M) : (td a).length < M := Nat.lt_of_le_of_lt (td_len_mono h) hb
theorem r_Gcd (a b : Nat) (ha : (td a).length < 268435456) (hb : (td b).length < 268435456) : CallOK Tryz.prog 57 [nN a, nN b] [] (nN (Nat.gcd a b)) [] [] := by
  refine callV (Z := []) tabOK mixedOK Tryz.func57 rfl (by kernel_rfl) rfl rfl (by kernel_rfl) rfl ?_
  intro W0 w0 ρ0 hE
  conv => whnf
  skip
  refine SW_loopN hE (fun k => k) [0, 1] [] (fun q fr hp => ∃ x y : Nat, q = y ∧ Nat.gcd x y = Nat.gcd a b ∧ (td x).length < 268435456 ∧ (td y).length < 268435456 ∧ fr = [(0, nN x), (1, nN y)] ∧ hp = []) b ?_ ?_ ?_
  · kernel_rfl
  · exact ⟨a, b, rfl, rfl, ha, hb, rfl, rfl⟩
  rintro q _ _ ⟨x, y, rfl, hg, hx, hy, rfl, rfl⟩
  conv => whnf
  by_cases h0 : 0 < q
  · have t1 : decide (((td q).length : Int) > 0) = true := decide_eq_true (by have := td_len_zero (n := q); omega)
    have k1 := r_Div x q h0 hx hy
    have hlt := Nat.mod_lt x h0
    (repeat ((first | refine step_w1 rfl rfl ?_ | refine g_c (by assumption) ?_ | refine g_o (op_lenM rfl rfl rfl (ev_ok rfl) (tgt rfl) rfl) ?_ | rw [t1]); conv => whnf))
    exact ⟨x % q, fun k => k, [0, 1], [], hlt, by kernel_rfl, q, x % q, rfl, by rw [← hg, Nat.gcd_comm x q, Nat.gcd_rec q x]; exact Nat.gcd_comm _ _, hy, td_lt_len (Nat.le_of_lt hlt) hy, rfl, rfl⟩
  · obtain rfl : q = 0 := by omega
    rw [Nat.gcd_zero_right] at hg
    subst hg
    have t1 : decide (((td 0).length : Int) > 0) = false := rfl
    (repeat (first | (refine step_w2 rfl rfl ?_; conv => whnf) | (refine g_o (op_lenM rfl rfl rfl (ev_ok rfl) (tgt rfl) rfl) ?_; conv => whnf))); (first | exact Recast.refl _ | exact Frz.recast (Recast.refl _) rfl | (refine Frz.one rfl rfl ?_; skip) | (refine Frz.tup ?_; skip))
end Go.Proofs.YtcaofdhffiifpaaGreatDoor

namespace Go.Proofs.YtcaofdhffiifpaaGreatDoor
open Go.Sx
set_option linter.unusedSimpArgs false
set_option linter.unusedVariables false
set_option maxRecDepth 100000
set_option maxHeartbeats 4000000

/-- A reference integer, a reference fraction. -/
abbrev zZ (z : Int) : SV := .agg [.val (.bool (decide (z < 0))), nN z.natAbs]
abbrev fF (q : Rat) : SV := .agg [zZ q.num, nN (q.den - 1)]

theorem tl_sz {n M : Nat} (h : sz n ≤ M) : (td n).length ≤ M := tlen_le (Nat.lt_of_lt_of_le (sz_le.1 h) (Nat.pow_le_pow_left (by decide) M))

theorem r2_From (neg : Bool) (n : Nat) (hn : (td n).length < 1099511627776) : CallOK Tryz.prog 31 [.val (.bool neg), nN n] [] (zZ (signed neg n)) [] [] := by
  refine callV (Z := []) tabOK mixedOK Tryz.func31 rfl (by kernel_rfl) rfl rfl (by kernel_rfl) rfl ?_
  intro W0 w0 ρ0 hE
  conv => whnf
  cases neg with
  | false =>
    have e : zZ (signed false n) = .agg [.val (.bool false), nN n] := by
      have h : ¬ (signed false n < 0) := by show ¬ ((n : Int) < 0); omega
      rw [zZ, decide_eq_false h, signed_abs]
    rw [e]
    (repeat (first | (refine step_w2 rfl rfl ?_; conv => whnf) | (refine g_o (op_pickF rfl (ev_ok rfl) (ev_ok rfl)) ?_; conv => whnf)))
    exact Recast.refl _
  | true =>
    by_cases h0 : 0 < n
    · have t1 : decide (((td n).length : Int) > 0) = true := decide_eq_true (by have := td_len_zero (n := n); omega)
      have e : zZ (signed true n) = .agg [.val (.bool true), nN n] := by
        have h : signed true n < 0 := by show -(n : Int) < 0; omega
        rw [zZ, decide_eq_true h, signed_abs]
      rw [e]
      (repeat ((first | refine step_w1 rfl rfl ?_ | refine g_o (op_pickT rfl (ev_ok rfl) (ev_ok rfl)) ?_ | refine g_o (op_lenM rfl rfl rfl (ev_ok rfl) (tgt rfl) rfl) ?_ | rw [t1]); conv => whnf))
      exact Recast.refl _
    · obtain rfl : n = 0 := by omega
      have t1 : decide (((td 0).length : Int) > 0) = false := rfl
      have e : zZ (signed true 0) = .agg [.val (.bool false), nN 0] := rfl
      rw [e]
      (repeat ((first | refine step_w1 rfl rfl ?_ | refine g_o (op_pickT rfl (ev_ok rfl) (ev_ok rfl)) ?_ | refine g_o (op_lenM rfl rfl rfl (ev_ok rfl) (tgt rfl) rfl) ?_ | rw [t1]); conv => whnf))
      exact Recast.refl _
/-- From, where the sign and the size are known. -/
theorem r2_From' {neg : Bool} {n : Nat} {z : Int} (hz : signed neg n = z) (hn : (td n).length < 1099511627776) : CallOK Tryz.prog 31 [.val (.bool neg), nN n] [] (zZ z) [] [] := by
  rw [← hz]; exact r2_From neg n hn

theorem r2_Sign (z : Int) (hz : (td z.natAbs).length < 1099511627776) : CallOK Tryz.prog 67 [zZ z] [] (.val (.int .i64 z.sign)) [] [] := by
  refine callV (Z := [1]) tabOK mixedOK Tryz.func67 rfl (by kernel_rfl) rfl rfl (by kernel_rfl) rfl ?_
  intro W0 w0 ρ0 hE
  conv => whnf
  by_cases h0 : z = 0
  · subst h0
    have t1 : (((td (Int.natAbs 0)).length : Int) == 0) = true := rfl
    (repeat ((first | refine step_w1 rfl rfl ?_ | refine g_o (op_lenM rfl rfl rfl (ev_ok rfl) (tgt rfl) rfl) ?_ | refine g_o (op_loadA rfl (ev_ok rfl) (tgt rfl) rfl (Nat.succ_ne_zero _) rfl) ?_ | refine g_o (op_fieldA rfl (ev_ok rfl) (tgt rfl) rfl rfl (Nat.succ_ne_zero _) rfl) ?_); conv => whnf)); (first | exact Recast.refl _ | exact Frz.recast (Recast.refl _) rfl | (refine Frz.one rfl rfl ?_; skip) | (refine Frz.tup ?_; skip))
  · have t1 : (((td z.natAbs).length : Int) == 0) = false := beq_false_of_ne (by have := td_len_zero (n := z.natAbs); omega)
    by_cases hn : z < 0
    · have t2 : decide (z < 0) = true := decide_eq_true hn
      rw [Int.sign_eq_neg_one_of_neg hn]
      (repeat ((first | refine step_w1 rfl rfl ?_ | refine step_w2 rfl rfl ?_ | refine g_o (op_lenM rfl rfl rfl (ev_ok rfl) (tgt rfl) rfl) ?_ | refine g_o (op_loadA rfl (ev_ok rfl) (tgt rfl) rfl (Nat.succ_ne_zero _) rfl) ?_ | refine g_o (op_fieldA rfl (ev_ok rfl) (tgt rfl) rfl rfl (Nat.succ_ne_zero _) rfl) ?_ | rw [t1] | rw [t2]); conv => whnf)); (first | exact Recast.refl _ | exact Frz.recast (Recast.refl _) rfl | (refine Frz.one rfl rfl ?_; skip) | (refine Frz.tup ?_; skip))
    · have t2 : decide (z < 0) = false := decide_eq_false hn
      rw [Int.sign_eq_one_of_pos (by omega)]
      (repeat ((first | refine step_w2 rfl rfl ?_ | refine g_o (op_lenM rfl rfl rfl (ev_ok rfl) (tgt rfl) rfl) ?_ | refine g_o (op_loadA rfl (ev_ok rfl) (tgt rfl) rfl (Nat.succ_ne_zero _) rfl) ?_ | refine g_o (op_fieldA rfl (ev_ok rfl) (tgt rfl) rfl rfl (Nat.succ_ne_zero _) rfl) ?_ | rw [t1] | rw [t2]); conv => whnf)); (first | exact Recast.refl _ | exact Frz.recast (Recast.refl _) rfl | (refine Frz.one rfl rfl ?_; skip) | (refine Frz.tup ?_; skip))

theorem r2_Neg (z : Int) (hz : (td z.natAbs).length < 1099511627776) : CallOK Tryz.prog 87 [zZ z] [] (zZ (-z)) [] [] := by
  have k1 := r2_From' (neg := !decide (z < 0)) (n := z.natAbs) (z := -z) (by by_cases h : z < 0 <;> simp [signed, h] <;> omega) hz
  refine callV (Z := [1]) tabOK mixedOK Tryz.func87 rfl (by kernel_rfl) rfl rfl (by kernel_rfl) rfl ?_
  intro W0 w0 ρ0 hE
  conv => whnf
  (repeat (first | (refine g_c (by assumption) ?_; conv => whnf) | (refine g_o (op_loadA rfl (ev_ok rfl) (tgt rfl) rfl (Nat.succ_ne_zero _) rfl) ?_; conv => whnf) | (refine g_o (op_fieldA rfl (ev_ok rfl) (tgt rfl) rfl rfl (Nat.succ_ne_zero _) rfl) ?_; conv => whnf)))
  exact Recast.refl _

theorem r2_Add (a b : Int) (ha : (td a.natAbs).length < 536870912) (hb : (td b.natAbs).length < 536870912) : CallOK Tryz.prog 35 [zZ a, zZ b] [] (zZ (a + b)) [] [] := by
  refine callV (Z := [2, 3]) tabOK mixedOK Tryz.func35 rfl (by kernel_rfl) rfl rfl (by kernel_rfl) rfl ?_
  intro W0 w0 ρ0 hE
  conv => whnf
  by_cases hs : a < 0 ↔ b < 0
  · have t1 : (decide (a < 0) == decide (b < 0)) = true := by rw [decide_eq_decide.2 hs]; exact beq_self_eq_true _
    have k1 := r_Add a.natAbs b.natAbs (by omega) (by omega)
    have hl : (td (a.natAbs + b.natAbs)).length < 1099511627776 := by
      have h1 : (td (a.natAbs + b.natAbs)).length ≤ max ((td a.natAbs).length) ((td b.natAbs).length) + 1 := tlen_le (by
        have h2 := td_lt_pow (n := a.natAbs) (k := max ((td a.natAbs).length) ((td b.natAbs).length)) (Nat.le_max_left _ _)
        have h3 := td_lt_pow (n := b.natAbs) (k := max ((td a.natAbs).length) ((td b.natAbs).length)) (Nat.le_max_right _ _)
        rw [Nat.pow_succ]; omega)
      omega
    have k2 := r2_From' (neg := decide (a < 0)) (n := a.natAbs + b.natAbs) (z := a + b) (by unfold signed; by_cases h : a < 0 <;> simp [h] <;> omega) hl
    (repeat ((first | refine step_w1 rfl rfl ?_ | refine step_i (by kernel_rfl) ?_ | refine g_c (by assumption) ?_ | refine g_o (op_loadA rfl (ev_ok rfl) (tgt rfl) rfl (Nat.succ_ne_zero _) rfl) ?_ | refine g_o (op_fieldA rfl (ev_ok rfl) (tgt rfl) rfl rfl (Nat.succ_ne_zero _) rfl) ?_ | rw [t1]); conv => whnf))
    exact Recast.refl _
  · have t1 : (decide (a < 0) == decide (b < 0)) = false := beq_false_of_ne (fun h => hs (decide_eq_decide.1 h))
    have k1 := r_Cmp a.natAbs b.natAbs (by omega) (by omega)
    by_cases hab : b.natAbs ≤ a.natAbs
    · have t2 : decide (((a.natAbs : Int) - b.natAbs).sign ≥ 0) = true := decide_eq_true (by have := Int.sign_nonneg_iff.2 (show 0 ≤ (a.natAbs : Int) - b.natAbs by omega); omega)
      have k2 := r_Sub a.natAbs b.natAbs hab (by omega)
      have k3 := r2_From' (neg := decide (a < 0)) (n := a.natAbs - b.natAbs) (z := a + b) (by unfold signed; by_cases h : a < 0 <;> simp [h] <;> omega) (td_lt_len (Nat.sub_le _ b.natAbs) (by omega))
      (repeat ((first | refine step_w1 rfl rfl ?_ | refine step_w2 rfl rfl ?_ | refine step_i (by kernel_rfl) ?_ | refine g_c (by assumption) ?_ | refine g_o (op_loadA rfl (ev_ok rfl) (tgt rfl) rfl (Nat.succ_ne_zero _) rfl) ?_ | refine g_o (op_fieldA rfl (ev_ok rfl) (tgt rfl) rfl rfl (Nat.succ_ne_zero _) rfl) ?_ | rw [t1] | rw [t2]); conv => whnf))
      exact Recast.refl _
    · have t2 : decide (((a.natAbs : Int) - b.natAbs).sign ≥ 0) = false := decide_eq_false (by rw [Int.sign_eq_neg_one_of_neg (show (a.natAbs : Int) - b.natAbs < 0 by omega)]; omega)
      have k2 := r_Sub b.natAbs a.natAbs (by omega) (by omega)
      have k3 := r2_From' (neg := decide (b < 0)) (n := b.natAbs - a.natAbs) (z := a + b) (by unfold signed; by_cases h : b < 0 <;> simp [h] <;> omega) (td_lt_len (Nat.sub_le _ a.natAbs) (by omega))
      (repeat ((first | refine step_w2 rfl rfl ?_ | refine step_i (by kernel_rfl) ?_ | refine g_c (by assumption) ?_ | refine g_o (op_loadA rfl (ev_ok rfl) (tgt rfl) rfl (Nat.succ_ne_zero _) rfl) ?_ | refine g_o (op_fieldA rfl (ev_ok rfl) (tgt rfl) rfl rfl (Nat.succ_ne_zero _) rfl) ?_ | rw [t1] | rw [t2]); conv => whnf))
      exact Recast.refl _

theorem tl_mul {a b : Nat} : (td (a * b)).length ≤ (td a).length + (td b).length := tlen_le (by
  rcases Nat.eq_zero_or_pos b with h | h
  · subst h; rw [Nat.mul_zero]; exact Nat.pow_pos (by decide)
  · rw [Nat.pow_add]
    exact Nat.lt_of_lt_of_le (Nat.mul_lt_mul_of_pos_right (tlt_len a) h) (Nat.mul_le_mul_left _ (Nat.le_of_lt (tlt_len b))))
theorem r2_Mul (a b : Int) (ha : (td a.natAbs).length < 134217728) (hb : (td b.natAbs).length < 134217728) : CallOK Tryz.prog 75 [zZ a, zZ b] [] (zZ (a * b)) [] [] := by
  have k1 := r_Mul a.natAbs b.natAbs (by omega) (by omega)
  have k2 := r2_From' (signed_mul a b) (Nat.lt_of_le_of_lt tl_mul (by omega))
  refine callV (Z := [2, 3]) tabOK mixedOK Tryz.func75 rfl (by kernel_rfl) rfl rfl (by kernel_rfl) rfl ?_
  intro W0 w0 ρ0 hE
  conv => whnf
  (repeat ((first | refine step_i (by kernel_rfl) ?_ | refine g_c (by assumption) ?_ | refine g_o (op_loadA rfl (ev_ok rfl) (tgt rfl) rfl (Nat.succ_ne_zero _) rfl) ?_ | refine g_o (op_fieldA rfl (ev_ok rfl) (tgt rfl) rfl rfl (Nat.succ_ne_zero _) rfl) ?_); conv => whnf))
  exact Recast.refl _

theorem r2_Of (n : Int) (h0 : -9223372036854775808 ≤ n) (h1 : n < 9223372036854775808) : CallOK Tryz.prog 36 [.val (.int .i64 n)] [] (zZ n) [] [] := by
  have k1 := r_Of n.natAbs (by omega)
  have hl : (td n.natAbs).length < 1099511627776 := Nat.lt_of_le_of_lt (tlen_le (k := 5) (by omega)) (by decide)
  refine callV (Z := []) tabOK mixedOK Tryz.func36 rfl (by kernel_rfl) rfl rfl (by kernel_rfl) rfl ?_
  intro W0 w0 ρ0 hE
  conv => whnf
  by_cases hn : n < 0
  · have t1 : decide (n < 0) = true := decide_eq_true hn
    have e1 : IntKind.i64.wrap (n + 1) = n + 1 := wrap_i64 (by omega) (by omega)
    have e2 : IntKind.i64.wrap (0 - (n + 1)) = -(n + 1) := by rw [Int.zero_sub]; exact wrap_i64 (by omega) (by omega)
    have e3 : IntKind.u64.wrap (-(n + 1)) = -(n + 1) := wrap_u64 (by omega) (by omega)
    have e4 : IntKind.u64.wrap (-(n + 1) + 1) = (n.natAbs : Int) := by rw [wrap_u64 (by omega) (by omega)]; omega
    have k2 := r2_From' (neg := true) (n := n.natAbs) (z := n) (by show -(n.natAbs : Int) = n; omega) hl
    have e : zZ n = .agg [.val (.bool true), nN n.natAbs] := by rw [zZ, t1]
    rw [e] at *
    (repeat ((first | refine step_w1 rfl rfl ?_ | refine g_c (by assumption) ?_ | rw [t1] | rw [e1] | rw [e2] | rw [e3] | rw [e4]); conv => whnf))
    exact Recast.refl _
  · have t1 : decide (n < 0) = false := decide_eq_false hn
    have e1 : IntKind.u64.wrap n = (n.natAbs : Int) := by rw [wrap_u64 (by omega) (by omega)]; omega
    have k2 := r2_From' (neg := false) (n := n.natAbs) (z := n) (by show (n.natAbs : Int) = n; omega) hl
    have e : zZ n = .agg [.val (.bool false), nN n.natAbs] := by rw [zZ, t1]
    rw [e] at *
    (repeat ((first | refine step_w2 rfl rfl ?_ | refine g_c (by assumption) ?_ | rw [t1] | rw [e1]); conv => whnf))
    exact Recast.refl _

theorem r3_one : CallOK Tryz.prog 56 [] [] (nN 1) [] [] := by
  have k1 := r_Of 1 (by decide)
  refine callV (Z := []) tabOK mixedOK Tryz.func56 rfl (by kernel_rfl) rfl rfl (by kernel_rfl) rfl ?_
  intro W0 w0 ρ0 hE
  conv => whnf
  (repeat (first | (refine g_c (by assumption) ?_; conv => whnf))); (first | exact Recast.refl _ | exact Frz.recast (Recast.refl _) rfl | (refine Frz.one rfl rfl ?_; skip) | (refine Frz.tup ?_; skip))
theorem r3_Den (q : Rat) (h : (td q.den).length < 134217728) : CallOK Tryz.prog 32 [fF q] [] (nN q.den) [] [] := by
  have k0 := r3_one
  have k1 := r_Add (q.den - 1) 1 (Nat.lt_of_le_of_lt (td_len_mono (Nat.sub_le q.den 1)) (by omega)) (by decide)
  rw [den_pred] at k1
  refine callV (Z := [1]) tabOK mixedOK Tryz.func32 rfl (by kernel_rfl) rfl rfl (by kernel_rfl) rfl ?_
  intro W0 w0 ρ0 hE
  conv => whnf
  (repeat ((first | refine step_i (by kernel_rfl) ?_ | refine g_c (by assumption) ?_ | refine g_o (op_loadA rfl (ev_ok rfl) (tgt rfl) rfl (Nat.succ_ne_zero _) rfl) ?_ | refine g_o (op_fieldA rfl (ev_ok rfl) (tgt rfl) rfl rfl (Nat.succ_ne_zero _) rfl) ?_); conv => whnf)); (first | exact Recast.refl _ | exact Frz.recast (Recast.refl _) rfl | (refine Frz.one rfl rfl ?_; skip) | (refine Frz.tup ?_; skip))
theorem signed_num {n : Int} {d : Nat} (hd : d ≠ 0) : signed (decide (n < 0)) (n.natAbs / Nat.gcd n.natAbs d) = (mkRat n d).num := by
  rw [num_mkRat hd]
  have hdv : Nat.gcd n.natAbs d ∣ n.natAbs := Nat.gcd_dvd_left _ _
  unfold signed
  by_cases hn : n < 0
  · rw [decide_eq_true hn, if_pos rfl]
    have : n = -(n.natAbs : Int) := by omega
    rw [Int.natCast_ediv, ← Int.neg_ediv_of_dvd (Int.natCast_dvd_natCast.2 hdv), ← this]
  · rw [decide_eq_false hn]
    simp only [Bool.false_eq_true, if_false]
    have : n = (n.natAbs : Int) := by omega
    rw [Int.natCast_ediv, ← this]
theorem r3_From (n : Int) (d : Nat) (hd : d ≠ 0) (h1 : (td n.natAbs).length < 268435456) (h2 : (td d).length < 268435456) : CallOK Tryz.prog 34 [zZ n, nN d] [] (fF (mkRat n d)) [] [] := by
  have hg : Nat.gcd n.natAbs d ≠ 0 := fun h => hd (Nat.gcd_eq_zero_iff.1 h).2
  have hgl : (td (Nat.gcd n.natAbs d)).length < 268435456 := td_lt_len (Nat.le_of_dvd (by omega) (Nat.gcd_dvd_right _ _)) h2
  have hq : d / Nat.gcd n.natAbs d ≠ 0 := Nat.div_ne_zero_iff.2 ⟨hg, Nat.le_of_dvd (by omega) (Nat.gcd_dvd_right _ _)⟩
  have k1 := r_Gcd n.natAbs d h1 h2
  have k2 := r_Div n.natAbs (Nat.gcd n.natAbs d) (by omega) h1 hgl
  have k3 := r_Div d (Nat.gcd n.natAbs d) (by omega) h2 hgl
  have k4 := r2_From' (signed_num (n := n) hd) (td_lt_len (Nat.div_le_self _ _) (by omega))
  have k5 := r3_one
  have k6 : CallOK Tryz.prog 59 [nN (d / Nat.gcd n.natAbs d), nN 1] [] (nN ((mkRat n d).den - 1)) [] [] := by
    rw [den_mkRat hd]; exact r_Sub (d / Nat.gcd n.natAbs d) 1 (Nat.pos_of_ne_zero hq) (td_lt_len (Nat.div_le_self _ _) (by omega))
  refine callV (Z := [2]) tabOK mixedOK Tryz.func34 rfl (by kernel_rfl) rfl rfl (by kernel_rfl) rfl ?_
  intro W0 w0 ρ0 hE
  conv => whnf
  (repeat (first | (refine g_c (by assumption) ?_; conv => whnf) | (refine g_o (op_loadA rfl (ev_ok rfl) (tgt rfl) rfl (Nat.succ_ne_zero _) rfl) ?_; conv => whnf) | (refine g_o (op_fieldA rfl (ev_ok rfl) (tgt rfl) rfl rfl (Nat.succ_ne_zero _) rfl) ?_; conv => whnf)))
  exact Recast.refl _

theorem tl_fs {q : Rat} {M : Nat} (h : fs q ≤ M) : (td q.num.natAbs).length ≤ M ∧ (td q.den).length ≤ M := by
  have h1 := fsz_num q; have h2 := fsz_den q
  unfold fs at h
  exact ⟨tl_sz (by omega), tl_sz (by omega)⟩
end Go.Proofs.YtcaofdhffiifpaaGreatDoor

namespace Go.Proofs.YtcaofdhffiifpaaGreatDoor
open Go.Sx
set_option linter.unusedSimpArgs false
set_option linter.unusedVariables false
set_option maxRecDepth 100000
set_option maxHeartbeats 4000000

theorem r2_Sub (a b : Int) (ha : (td a.natAbs).length < 536870912) (hb : (td b.natAbs).length < 536870912) : CallOK Tryz.prog 68 [zZ a, zZ b] [] (zZ (a - b)) [] [] := by
  have k1 := r2_Neg b (by omega)
  have k2 := r2_Add a (-b) ha (by rw [Int.natAbs_neg]; exact hb)
  rw [← Int.sub_eq_add_neg] at k2
  refine callV (Z := [2, 3]) tabOK mixedOK Tryz.func68 rfl (by kernel_rfl) rfl rfl (by kernel_rfl) rfl ?_
  intro W0 w0 ρ0 hE
  conv => whnf
  (repeat (first | (refine step_i (by kernel_rfl) ?_; conv => whnf) | (refine g_c (by assumption) ?_; conv => whnf) | (refine g_o (op_loadA rfl (ev_ok rfl) (tgt rfl) rfl (Nat.succ_ne_zero _) rfl) ?_; conv => whnf)))
  exact Recast.refl _

theorem tl_sub {a b : Int} {k : Nat} (ha : (td a.natAbs).length ≤ k) (hb : (td b.natAbs).length ≤ k) : (td (a - b).natAbs).length ≤ k + 1 := tlen_le (by
  have h1 := td_lt_pow ha
  have h2 := td_lt_pow hb
  rw [Nat.pow_succ]; omega)

theorem r2_Cmp (a b : Int) (ha : (td a.natAbs).length < 536870912) (hb : (td b.natAbs).length < 536870912) : CallOK Tryz.prog 54 [zZ a, zZ b] [] (.val (.int .i64 (a - b).sign)) [] [] := by
  have k1 := r2_Sub a b ha hb
  have hl := tl_sub (a := a) (b := b) (k := 536870911) (by omega) (by omega)
  have k2 := r2_Sign (a - b) (by omega)
  refine callV (Z := [2, 3]) tabOK mixedOK Tryz.func54 rfl (by kernel_rfl) rfl rfl (by kernel_rfl) rfl ?_
  intro W0 w0 ρ0 hE
  conv => whnf
  (repeat (first | (refine g_c (by assumption) ?_; conv => whnf) | (refine g_o (op_loadA rfl (ev_ok rfl) (tgt rfl) rfl (Nat.succ_ne_zero _) rfl) ?_; conv => whnf)))
  exact Recast.refl _

theorem tdiv_signed (a b : Int) : signed (decide (a < 0) != decide (b < 0)) (a.natAbs / b.natAbs) = a.tdiv b := by
  cases a with
  | ofNat m => cases b with
    | ofNat n =>
      have h1 : ¬ (Int.ofNat m < 0) := by show ¬ ((m : Int) < 0); omega
      have h2 : ¬ (Int.ofNat n < 0) := by show ¬ ((n : Int) < 0); omega
      simp only [decide_eq_false h1, decide_eq_false h2]; rfl
    | negSucc n =>
      have h1 : ¬ (Int.ofNat m < 0) := by show ¬ ((m : Int) < 0); omega
      have h2 : Int.negSucc n < 0 := Int.negSucc_lt_zero n
      simp only [decide_eq_false h1, decide_eq_true h2]; rfl
  | negSucc m => cases b with
    | ofNat n =>
      have h1 : Int.negSucc m < 0 := Int.negSucc_lt_zero m
      have h2 : ¬ (Int.ofNat n < 0) := by show ¬ ((n : Int) < 0); omega
      simp only [decide_eq_true h1, decide_eq_false h2]; rfl
    | negSucc n =>
      simp only [decide_eq_true (Int.negSucc_lt_zero m), decide_eq_true (Int.negSucc_lt_zero n)]; rfl
theorem tmod_signed (a b : Int) : signed (decide (a < 0)) (a.natAbs % b.natAbs) = a.tmod b := by
  cases a with
  | ofNat m =>
    have h1 : ¬ (Int.ofNat m < 0) := by show ¬ ((m : Int) < 0); omega
    simp only [decide_eq_false h1]; cases b <;> rfl
  | negSucc m =>
    simp only [decide_eq_true (Int.negSucc_lt_zero m)]; cases b <;> rfl

theorem r2_Div (a b : Int) (hb0 : b ≠ 0) (ha : (td a.natAbs).length < 134217728) (hb : (td b.natAbs).length < 134217728) : CallOK Tryz.prog 40 [zZ a, zZ b] [] (.tup [zZ (a / b), zZ (a % b)]) [] [] := by
  have k1 := r_Div a.natAbs b.natAbs (by omega) (by omega) (by omega)
  have ql : (td (a.natAbs / b.natAbs)).length ≤ (td a.natAbs).length := td_len_mono (Nat.div_le_self _ _)
  have rl : (td (a.natAbs % b.natAbs)).length ≤ (td a.natAbs).length := td_len_mono (Nat.mod_le _ _)
  have k2 := r2_From' (tdiv_signed a b) (by omega)
  have k3 := r2_From' (tmod_signed a b) (by omega)
  have eq : (a.tdiv b).natAbs = a.natAbs / b.natAbs := Int.natAbs_tdiv a b
  have er : (a.tmod b).natAbs = a.natAbs % b.natAbs := Int.natAbs_tmod a b
  have k4 := r2_Sign (a.tmod b) (by rw [er]; omega)
  have k5 := r2_Sign b (by omega)
  have k6 := r2_Of 1 (by decide) (by decide)
  have hd := Int.mul_tdiv_add_tmod a b
  have hlt : a.natAbs % b.natAbs < b.natAbs := Nat.mod_lt _ (by omega)
  have u := fun (q r : Int) (h : b * q + r = a) (h0 : 0 ≤ r) (h1 : r < b.natAbs) => (show a / b = q ∧ a % b = r from by
    have h3 : a % b = r := by
      rw [← h, Int.mul_add_emod_self_left]
      rcases Int.lt_or_lt_of_ne hb0 with h4 | h4
      · rw [← Int.emod_neg, Int.emod_eq_of_lt h0 (by omega)]
      · exact Int.emod_eq_of_lt h0 (by omega)
    refine ⟨?_, h3⟩
    have h5 := Int.mul_ediv_add_emod a b
    rw [h3] at h5
    exact Int.eq_of_mul_eq_mul_left hb0 (by omega))
  have hq : (td (a.tdiv b).natAbs).length < 134217728 := by rw [eq]; omega
  have hr : (td (a.tmod b).natAbs).length < 134217728 := by rw [er]; omega
  have k7 := r2_Sub (a.tdiv b) 1 (by omega) (by decide)
  have k8 := r2_Add (a.tmod b) b (by omega) (by omega)
  have k9 := r2_Add (a.tdiv b) 1 (by omega) (by decide)
  have k10 := r2_Sub (a.tmod b) b (by omega) (by omega)
  by_cases hn : a.tmod b < 0
  · have t1 : decide ((a.tmod b).sign < 0) = true := decide_eq_true (by rw [Int.sign_eq_neg_one_of_neg hn]; omega)
    by_cases hp : 0 < b
    · have t2 : decide (b.sign > 0) = true := decide_eq_true (by rw [Int.sign_eq_one_of_pos hp]; omega)
      obtain ⟨u1, u2⟩ := u (a.tdiv b - 1) (a.tmod b + b) (by rw [Int.mul_sub]; omega) (by omega) (by omega)
      rw [u1, u2]
      generalize a.tdiv b = q at *
      generalize a.tmod b = r at *
      clear u
      refine callV (Z := [2, 3]) tabOK mixedOK Tryz.func40 rfl (by kernel_rfl) rfl rfl (by kernel_rfl) rfl ?_
      intro W0 w0 ρ0 hE
      conv => whnf
      (repeat ((first | refine step_w1 rfl rfl ?_ | refine step_i (by kernel_rfl) ?_ | refine g_c (by assumption) ?_ | refine g_o (op_pickT rfl (ev_ok rfl) (ev_ok rfl)) ?_ | refine g_o (op_loadA rfl (ev_ok rfl) (tgt rfl) rfl (Nat.succ_ne_zero _) rfl) ?_ | refine g_o (op_fieldA rfl (ev_ok rfl) (tgt rfl) rfl rfl (Nat.succ_ne_zero _) rfl) ?_ | rw [t1] | rw [t2]); conv => whnf)); (first | exact Recast.refl _ | exact Frz.recast (Recast.refl _) rfl | (refine Frz.one rfl rfl ?_; skip) | (refine Frz.tup ?_; skip))
    · have t2 : decide (b.sign > 0) = false := decide_eq_false (by rw [Int.sign_eq_neg_one_of_neg (by omega)]; omega)
      obtain ⟨u1, u2⟩ := u (a.tdiv b + 1) (a.tmod b - b) (by rw [Int.mul_add]; omega) (by omega) (by omega)
      rw [u1, u2]
      generalize a.tdiv b = q at *
      generalize a.tmod b = r at *
      clear u
      refine callV (Z := [2, 3]) tabOK mixedOK Tryz.func40 rfl (by kernel_rfl) rfl rfl (by kernel_rfl) rfl ?_
      intro W0 w0 ρ0 hE
      conv => whnf
      (repeat ((first | refine step_w1 rfl rfl ?_ | refine step_w2 rfl rfl ?_ | refine step_i (by kernel_rfl) ?_ | refine g_c (by assumption) ?_ | refine g_o (op_pickT rfl (ev_ok rfl) (ev_ok rfl)) ?_ | refine g_o (op_loadA rfl (ev_ok rfl) (tgt rfl) rfl (Nat.succ_ne_zero _) rfl) ?_ | refine g_o (op_fieldA rfl (ev_ok rfl) (tgt rfl) rfl rfl (Nat.succ_ne_zero _) rfl) ?_ | rw [t1] | rw [t2]); conv => whnf)); (first | exact Recast.refl _ | exact Frz.recast (Recast.refl _) rfl | (refine Frz.one rfl rfl ?_; skip) | (refine Frz.tup ?_; skip))
  · have t1 : decide ((a.tmod b).sign < 0) = false := decide_eq_false (by have := Int.sign_nonneg_iff.2 (show 0 ≤ a.tmod b by omega); omega)
    obtain ⟨u1, u2⟩ := u (a.tdiv b) (a.tmod b) hd (by omega) (by omega)
    rw [u1, u2]
    generalize a.tdiv b = q at *
    generalize a.tmod b = r at *
    clear u
    refine callV (Z := [2, 3]) tabOK mixedOK Tryz.func40 rfl (by kernel_rfl) rfl rfl (by kernel_rfl) rfl ?_
    intro W0 w0 ρ0 hE
    conv => whnf
    (repeat ((first | refine step_w2 rfl rfl ?_ | refine step_i (by kernel_rfl) ?_ | refine g_c (by assumption) ?_ | refine g_o (op_pickF rfl (ev_ok rfl) (ev_ok rfl)) ?_ | refine g_o (op_loadA rfl (ev_ok rfl) (tgt rfl) rfl (Nat.succ_ne_zero _) rfl) ?_ | refine g_o (op_fieldA rfl (ev_ok rfl) (tgt rfl) rfl rfl (Nat.succ_ne_zero _) rfl) ?_ | rw [t1]); conv => whnf)); (first | exact Recast.refl _ | exact Frz.recast (Recast.refl _) rfl | (refine Frz.one rfl rfl ?_; skip) | (refine Frz.tup ?_; skip))

/-- The extended greatest common divisor of P2.3, with a depth. -/
def gqF : Nat → Int → Int → Int × Int × Int
  | 0, a, _ => (a.natAbs, a.sign, 0)
  | f + 1, a, b => if b = 0 then (a.natAbs, a.sign, 0) else ((gqF f b (a % b)).1, (gqF f b (a % b)).2.2, (gqF f b (a % b)).2.1 - a / b * (gqF f b (a % b)).2.2)
theorem gqF_spec : ∀ (f : Nat) (a b : Int), 0 ≤ a → 0 ≤ b → b < f → (gqF f a b).1 = Int.gcd a b ∧ a * (gqF f a b).2.1 + b * (gqF f a b).2.2 = (gqF f a b).1 ∧ (gqF f a b).2.1.natAbs ≤ max 1 b.natAbs ∧ (gqF f a b).2.2.natAbs ≤ max 1 a.natAbs
  | 0, a, b, _, h1, h2 => by omega
  | f + 1, a, b, h0, h1, h2 => by
    by_cases hb : b = 0
    · subst hb
      simp only [gqF, if_true]
      refine ⟨by simp, ?_, ?_, by simp⟩
      · rw [Int.zero_mul, Int.add_zero]
        rcases Int.lt_or_eq_of_le h0 with h | h
        · rw [Int.sign_eq_one_of_pos h]; omega
        · rw [← h]; rfl
      · have := Int.natAbs_sign a
        split at this <;> omega
    · have hr0 := Int.emod_nonneg a hb
      have hr1 := Int.emod_lt_of_pos a (show 0 < b by omega)
      have hd := Int.mul_ediv_add_emod a b
      obtain ⟨i1, i2, i3, i4⟩ := gqF_spec f b (a % b) h1 hr0 (by omega)
      have hz : a % b = 0 → gqF f b (a % b) = ((b.natAbs : Int), b.sign, 0) := fun h => by
        rw [h]; cases f with
        | zero => rfl
        | succ f => simp [gqF]
      simp only [gqF, if_neg hb]
      refine ⟨?_, ?_, by omega, ?_⟩
      · rw [i1]
        obtain ⟨m, rfl⟩ := Int.eq_ofNat_of_zero_le h0
        obtain ⟨n, rfl⟩ := Int.eq_ofNat_of_zero_le h1
        show ((Nat.gcd n (m % n) : Nat) : Int) = ((Nat.gcd m n : Nat) : Int)
        rw [Nat.gcd_comm n, ← Nat.gcd_rec, Nat.gcd_comm]
      · rw [← i2]
        generalize (gqF f b (a % b)).2.1 = x at *
        generalize (gqF f b (a % b)).2.2 = y at *
        generalize a % b = r at *
        rw [← hd]; grind
      · by_cases hz0 : a % b = 0
        · rw [hz hz0]
          simp only [Int.mul_zero, Int.sub_zero]
          rw [Int.sign_eq_one_of_pos (by omega)]
          exact Nat.le_max_left _ _
        · generalize (gqF f b (a % b)).2.1 = x at *
          generalize (gqF f b (a % b)).2.2 = y at *
          have hq0 : 0 ≤ a / b := Int.ediv_nonneg h0 h1
          have e1 : (a / b * y).natAbs = (a / b).natAbs * y.natAbs := Int.natAbs_mul _ _
          have e2 : (a / b).natAbs * y.natAbs ≤ (a / b).natAbs * b.natAbs := Nat.mul_le_mul_left _ (by omega)
          have e3 : (a / b).natAbs * b.natAbs = (b * (a / b)).natAbs := by rw [Int.natAbs_mul, Nat.mul_comm]
          have e4 : 0 ≤ b * (a / b) := Int.mul_nonneg h1 hq0
          omega

theorem r2_Gcd : ∀ (f : Nat) (a b : Int), 0 ≤ a → 0 ≤ b → b < f → a < 4294967296 → b < 4294967296 →
    CallOK Tryz.prog 53 [zZ a, zZ b] [] (.tup [zZ (gqF f a b).1, zZ (gqF f a b).2.1, zZ (gqF f a b).2.2]) [] []
  | 0, a, b, _, h1, h2, _, _ => by omega
  | f + 1, a, b, h0, h1, h2, h3, h4 => by
    have tl : ∀ z : Int, z.natAbs < 10000000000000000 → (td z.natAbs).length < 134217728 := fun z h => Nat.lt_of_le_of_lt (tlen_le (k := 4) h) (by decide)
    have k0 := r2_Sign b (by have := tl b (by omega); omega)
    by_cases hb : b = 0
    · subst hb
      have e : gqF (f + 1) a 0 = ((a.natAbs : Int), a.sign, 0) := by simp [gqF]
      rw [e]
      have k1 := r2_From' (neg := false) (n := a.natAbs) (z := (a.natAbs : Int)) rfl (by have := tl a (by omega); omega)
      have k2 := r2_Sign a (by have := tl a (by omega); omega)
      have hs : -1 ≤ a.sign ∧ a.sign ≤ 1 := by rcases Int.lt_trichotomy a 0 with h | h | h <;> simp [h, Int.sign_eq_neg_one_of_neg, Int.sign_eq_one_of_pos]
      have k3 := r2_Of a.sign (by omega) (by omega)
      have k4 := r2_Of 0 (by decide) (by decide)
      have t1 : ((Int.sign 0 : Int) == 0) = true := rfl
      generalize a.sign = sg at *
      refine callV (Z := [2, 3]) tabOK mixedOK Tryz.func53 rfl (by kernel_rfl) rfl rfl (by kernel_rfl) rfl ?_
      intro W0 w0 ρ0 hE
      conv => whnf
      (repeat ((first | refine step_w1 rfl rfl ?_ | refine step_i (by kernel_rfl) ?_ | refine g_c (by assumption) ?_ | refine g_o (op_loadA rfl (ev_ok rfl) (tgt rfl) rfl (Nat.succ_ne_zero _) rfl) ?_ | refine g_o (op_fieldA rfl (ev_ok rfl) (tgt rfl) rfl rfl (Nat.succ_ne_zero _) rfl) ?_); conv => whnf)); (first | exact Recast.refl _ | exact Frz.recast (Recast.refl _) rfl | (refine Frz.one rfl rfl ?_; skip) | (refine Frz.tup ?_; skip))
    · have hr0 := Int.emod_nonneg a hb
      have hr1 := Int.emod_lt_of_pos a (show 0 < b by omega)
      have hq0 : 0 ≤ a / b := Int.ediv_nonneg h0 h1
      have hq1 : a / b ≤ a := Int.ediv_le_self _ h0
      have k1 := r2_Div a b hb (tl a (by omega)) (tl b (by omega))
      have k2 := r2_Gcd f b (a % b) h1 hr0 (by omega) h4 (by omega)
      obtain ⟨_, _, i3, i4⟩ := gqF_spec f b (a % b) h1 hr0 (by omega)
      have e : gqF (f + 1) a b = ((gqF f b (a % b)).1, (gqF f b (a % b)).2.2, (gqF f b (a % b)).2.1 - a / b * (gqF f b (a % b)).2.2) := by simp [gqF, hb]
      rw [e]
      generalize gqF f b (a % b) = g at *
      obtain ⟨g, x, y⟩ := g
      have i3' : x.natAbs ≤ 4294967296 := by simp only [] at i3; omega
      have i4' : y.natAbs ≤ 4294967296 := by simp only [] at i4; omega
      have k3 := r2_Mul (a / b) y (tl _ (by omega)) (tl _ (by omega))
      have hm : (td (a / b * y).natAbs).length < 536870912 := by rw [Int.natAbs_mul]; have h5 := @tl_mul (a / b).natAbs y.natAbs; have h6 := tl (a / b) (by omega); have h7 := tl y (by omega); omega
      have k4 := r2_Sub x (a / b * y) (by have := tl x (by omega); omega) hm
      have t1 : ((b.sign : Int) == 0) = false := beq_false_of_ne (by rw [Int.sign_eq_one_of_pos (by omega)]; omega)
      generalize a / b = q at *
      generalize a % b = r at *
      refine callV (Z := [2, 3]) tabOK mixedOK Tryz.func53 rfl (by kernel_rfl) rfl rfl (by kernel_rfl) rfl ?_
      intro W0 w0 ρ0 hE
      conv => whnf
      (repeat ((first | refine step_w2 rfl rfl ?_ | refine step_i (by kernel_rfl) ?_ | refine g_c (by assumption) ?_ | refine g_o (op_loadA rfl (ev_ok rfl) (tgt rfl) rfl (Nat.succ_ne_zero _) rfl) ?_ | rw [t1]); conv => whnf)); (first | exact Recast.refl _ | exact Frz.recast (Recast.refl _) rfl | (refine Frz.one rfl rfl ?_; skip) | (refine Frz.tup ?_; skip))
end Go.Proofs.YtcaofdhffiifpaaGreatDoor

namespace Go.Proofs.YtcaofdhffiifpaaGreatDoor
open Go.Sx
set_option linter.unusedSimpArgs false
set_option linter.unusedVariables false
set_option maxRecDepth 100000

/-- The residue, 0 for the modulus 0. -/
def md (n p : Int) : Int := if p = 0 then 0 else n % p

theorem c_mod (n p : Int) (h1 : 0 ≤ n) (h3 : 0 ≤ p) (h4 : p < 4294967296) :
    CallOK Tryz.prog 44 [.val (.int .u64 n), .val (.int .u32 p)] [] (.val (.int .u32 (md n p))) [] [] := by
  refine callV (Z := []) tabOK mixedOK Tryz.func44 rfl (by kernel_rfl) rfl rfl (by kernel_rfl) rfl ?_
  intro W0 w0 ρ0 hE
  conv => whnf
  refine ⟨fun h => ?_, fun h => ?_⟩
  · conv => whnf
    have h : p = 0 := by simpa using h
    simp only [md, h, if_true]
    exact Recast.refl _
  · conv => whnf
    have h : p ≠ 0 := by simpa using h
    have e1 : IntKind.u64.wrap p = p := wrap_u64 h3 (by omega)
    refine ⟨by rw [e1]; exact h, ?_⟩
    conv => whnf
    rw [e1, Int.tmod_eq_emod_of_nonneg h1, wrap_u32 (Int.emod_nonneg _ h) (by have := Int.emod_lt_of_pos n (show 0 < p by omega); omega)]
    simp only [md, h, if_false]
    exact Recast.refl _

theorem md_bd {n p : Int} (h3 : 0 ≤ p) : 0 ≤ md n p ∧ (md n p < p ∨ md n p = 0) := by
  unfold md
  split
  · simp
  · rename_i hp
    exact ⟨Int.emod_nonneg _ hp, .inl (Int.emod_lt_of_pos n (by omega))⟩

theorem c_Add (a b p : Int) (ha : 0 ≤ a) (ha' : a < 4294967296) (hb : 0 ≤ b) (hb' : b < 4294967296) (h3 : 0 ≤ p) (h4 : p < 4294967296) :
    CallOK Tryz.prog 19 [.val (.int .u32 a), .val (.int .u32 b), .val (.int .u32 p)] [] (.val (.int .u32 (md (a + b) p))) [] [] := by
  refine callV (Z := []) tabOK mixedOK Tryz.func19 rfl (by kernel_rfl) rfl rfl (by kernel_rfl) rfl ?_
  intro W0 w0 ρ0 hE
  conv => whnf
  have e1 : IntKind.u64.wrap (IntKind.u64.wrap a + IntKind.u64.wrap b) = a + b := by rw [wrap_u64 ha (by omega), wrap_u64 hb (by omega), wrap_u64 (by omega) (by omega)]
  rw [e1]
  refine ⟨[], _, [], [], c_mod (a + b) p (by omega) h3 h4, nil_fk, nil_new, nil_upd, ?_⟩
  conv => whnf
  exact Recast.refl _

theorem c_Mul (a b p : Int) (ha : 0 ≤ a) (ha' : a < 4294967296) (hb : 0 ≤ b) (hb' : b < 4294967296) (h3 : 0 ≤ p) (h4 : p < 4294967296) :
    CallOK Tryz.prog 17 [.val (.int .u32 a), .val (.int .u32 b), .val (.int .u32 p)] [] (.val (.int .u32 (md (a * b) p))) [] [] := by
  refine callV (Z := []) tabOK mixedOK Tryz.func17 rfl (by kernel_rfl) rfl rfl (by kernel_rfl) rfl ?_
  intro W0 w0 ρ0 hE
  conv => whnf
  have h0 : 0 ≤ a * b := Int.mul_nonneg ha hb
  have h1 : a * b ≤ 4294967295 * 4294967295 := Int.mul_le_mul (by omega) (by omega) hb (by omega)
  have e1 : IntKind.u64.wrap (IntKind.u64.wrap a * IntKind.u64.wrap b) = a * b := by rw [wrap_u64 ha (by omega), wrap_u64 hb (by omega), wrap_u64 h0 (by omega)]
  rw [e1]
  refine ⟨[], _, [], [], c_mod (a * b) p h0 h3 h4, nil_fk, nil_new, nil_upd, ?_⟩
  conv => whnf
  exact Recast.refl _

theorem c_Sub (a b p : Int) (ha : 0 ≤ a) (ha' : a < 4294967296) (hb : 0 ≤ b) (hb' : b < 4294967296) (h3 : 0 ≤ p) (h4 : p < 4294967296) :
    CallOK Tryz.prog 16 [.val (.int .u32 a), .val (.int .u32 b), .val (.int .u32 p)] [] (.val (.int .u32 (md (md a p + p - md b p) p))) [] [] := by
  refine callV (Z := []) tabOK mixedOK Tryz.func16 rfl (by kernel_rfl) rfl rfl (by kernel_rfl) rfl ?_
  intro W0 w0 ρ0 hE
  conv => whnf
  have e1 : IntKind.u64.wrap a = a := wrap_u64 ha (by omega)
  have e2 : IntKind.u64.wrap b = b := wrap_u64 hb (by omega)
  rw [e1]
  refine ⟨[], _, [], [], c_mod a p ha h3 h4, nil_fk, nil_new, nil_upd, ?_⟩
  conv => whnf
  rw [e2]
  refine ⟨[], _, [], [], c_mod b p hb h3 h4, nil_fk, nil_new, nil_upd, ?_⟩
  conv => whnf
  obtain ⟨a1, a2⟩ := md_bd (n := a) h3
  obtain ⟨b1, b2⟩ := md_bd (n := b) h3
  have e3 : IntKind.u64.wrap (IntKind.u64.wrap (IntKind.u64.wrap (md a p) + IntKind.u64.wrap p) - IntKind.u64.wrap (md b p)) = md a p + p - md b p := by
    rw [wrap_u64 a1 (by omega), wrap_u64 h3 (by omega), wrap_u64 b1 (by omega), wrap_u64 (n := md a p + p) (by omega) (by omega), wrap_u64 (by omega) (by omega)]
  rw [e3]
  refine ⟨[], _, [], [], c_mod _ p (by omega) h3 h4, nil_fk, nil_new, nil_upd, ?_⟩
  conv => whnf
  exact Recast.refl _
end Go.Proofs.YtcaofdhffiifpaaGreatDoor

namespace Go.Proofs.YtcaofdhffiifpaaGreatDoor
open Go.Sx
set_option linter.unusedSimpArgs false
set_option linter.unusedVariables false
set_option maxRecDepth 100000

theorem md_lt {n p : Int} (h3 : 0 ≤ p) (hp : p ≠ 0) : 0 ≤ md n p ∧ md n p < p := by
  simp only [md, hp, if_false]
  exact ⟨Int.emod_nonneg _ hp, Int.emod_lt_of_pos n (by omega)⟩

theorem mul_cong {p x x' y y' : Int} (h : x % p = x' % p) (h' : y % p = y' % p) : (x * y) % p = (x' * y') % p := by
  rw [Int.mul_emod, h, h', ← Int.mul_emod]
theorem emod_cong (x p : Int) : (x % p) % p = x % p := Int.emod_emod_of_dvd _ (Int.dvd_refl p)
theorem pow_cong {p x x' : Int} (h : x % p = x' % p) : ∀ n : Nat, (x ^ n) % p = (x' ^ n) % p
  | 0 => by rw [Int.pow_zero, Int.pow_zero]
  | n + 1 => by rw [Int.pow_succ, Int.pow_succ]; exact mul_cong (pow_cong h n) h

/-- What stands at the head of Pow's loop. -/
structure PowI (t p : Int) (n : Nat) (out a : Int) : Prop where
  o0 : 0 ≤ out
  o1 : out < 4294967296
  a0 : 0 ≤ a
  a1 : a < 4294967296
  n1 : n < 18446744073709551616
  z : p = 0 → out = 0
  s : p ≠ 0 → out < p ∧ (out * a ^ n) % p = t % p

theorem PowI.step {t p out a : Int} {n : Nat} (h3 : 0 ≤ p) (h4 : p < 4294967296) (h : PowI t p n out a) : PowI t p (n / 2) (if n % 2 = 1 then md (out * a) p else out) (md (a * a) p) := by
  have hb := md_bd (n := out * a) h3
  have hc := md_bd (n := a * a) h3
  refine ⟨by split <;> first | exact hb.1 | exact h.o0, by split <;> first | omega | exact h.o1, hc.1, by omega, by have := h.n1; omega, fun hz => ?_, fun hz => ?_⟩
  · split
    · simp [md, hz]
    · exact h.z hz
  · obtain ⟨s1, s2⟩ := h.s hz
    refine ⟨by split <;> first | exact (md_lt h3 hz).2 | exact s1, ?_⟩
    rw [← s2]
    have hn : n = n % 2 + 2 * (n / 2) := by omega
    have hpow : a ^ n = a ^ (n % 2) * (a * a) ^ (n / 2) := by
      conv => lhs; rw [hn, Int.pow_add, Int.pow_mul]
      rw [show a ^ 2 = a * a from by rw [Int.pow_succ, Int.pow_succ, Int.pow_zero, Int.one_mul]]
    rw [hpow]
    simp only [md, hz, if_false]
    split
    · rename_i h1
      rw [h1, Int.pow_succ, Int.pow_zero, Int.one_mul, ← Int.mul_assoc]
      exact mul_cong (emod_cong _ _) (pow_cong (emod_cong _ _) _)
    · rename_i h1
      have h0 : n % 2 = 0 := by omega
      rw [h0, Int.pow_zero, Int.one_mul]
      exact mul_cong rfl (pow_cong (emod_cong _ _) _)

theorem c_Pow (a p : Int) (n : Nat) (ha : 0 ≤ a) (ha' : a < 4294967296) (hn : n < 18446744073709551616) (h3 : 0 ≤ p) (h4 : p < 4294967296) :
    CallOK Tryz.prog 18 [.val (.int .u32 a), .val (.int .u64 n), .val (.int .u32 p)] [] (.val (.int .u32 (md (a ^ n) p))) [] [] := by
  refine callV (Z := []) tabOK mixedOK Tryz.func18 rfl (by kernel_rfl) rfl rfl (by kernel_rfl) rfl ?_
  intro W0 w0 ρ0 hE
  conv => whnf
  refine ⟨[], _, [], [], c_mod 1 p (by omega) h3 h4, nil_fk, nil_new, nil_upd, ?_⟩
  conv => whnf
  have hb1 := md_bd (n := 1) h3
  refine SW_loopN hE (fun k => k) [0, 1, 2, 7] [] (fun m fr hp => ∃ out b, PowI (a ^ n) p m out b ∧ fr = [(0, .val (.int .u32 b)), (1, .val (.int .u64 m)), (2, .val (.int .u32 p)), (7, .val (.int .u32 out))] ∧ hp = []) n (by kernel_rfl)
    ⟨md 1 p, a, ⟨hb1.1, by omega, ha, ha', hn, fun hz => by simp [md, hz], fun hz => ⟨(md_lt h3 hz).2, by simp only [md, hz, if_false]; rw [show a ^ n = 1 * a ^ n from (Int.one_mul _).symm, ← Int.mul_assoc, Int.mul_one]; exact mul_cong (emod_cong _ _) rfl⟩⟩, rfl, rfl⟩ ?_
  rintro m _ _ ⟨out, b, hI, rfl, rfl⟩
  conv => whnf
  refine ⟨fun h => ?_, fun h => ?_⟩
  · conv => whnf
    have hm : 0 < m := by simpa using h
    have e1 : iand .u64 (m : Int) 1 = ((m % 2 : Nat) : Int) := by
      have := iand_u64 (x := m) (y := 1) hI.n1 (by decide)
      rw [Nat.and_one_is_mod] at this
      exact this
    have e2 : ishr .u64 (m : Int) 1 = ((m / 2 : Nat) : Int) := ishr_nat .u64 (x := m) (s := 1) (by decide)
    have hst := hI.step h3 h4
    rw [e1]
    refine ⟨fun h => ?_, fun h => ?_⟩
    · have h : m % 2 = 1 := by have := of_decide_eq_true h; omega
      rw [if_pos h] at hst
      conv => whnf
      refine ⟨[], _, [], [], c_Mul out b p hI.o0 hI.o1 hI.a0 hI.a1 h3 h4, nil_fk, nil_new, nil_upd, ?_⟩
      conv => whnf
      refine ⟨[], _, [], [], c_Mul b b p hI.a0 hI.a1 hI.a0 hI.a1 h3 h4, nil_fk, nil_new, nil_upd, ?_⟩
      conv => whnf
      refine ⟨by decide, ?_⟩
      conv => whnf
      rw [e2]
      exact ⟨m / 2, fun k => k, [0, 1, 2, 7], [], by omega, by kernel_rfl, _, _, hst, rfl, rfl⟩
    · have h : ¬ m % 2 = 1 := by have := of_decide_eq_false h; omega
      rw [if_neg h] at hst
      conv => whnf
      refine ⟨[], _, [], [], c_Mul b b p hI.a0 hI.a1 hI.a0 hI.a1 h3 h4, nil_fk, nil_new, nil_upd, ?_⟩
      conv => whnf
      refine ⟨by decide, ?_⟩
      conv => whnf
      rw [e2]
      exact ⟨m / 2, fun k => k, [0, 1, 2, 7], [], by omega, by kernel_rfl, _, _, hst, rfl, rfl⟩
  · conv => whnf
    have hm : m = 0 := by have := of_decide_eq_false h; omega
    have e3 : out = md (a ^ n) p := by
      by_cases hz : p = 0
      · simp [md, hz, hI.z hz]
      · obtain ⟨s1, s2⟩ := hI.s hz
        simp only [md, hz, if_false, ← s2, hm, Int.pow_zero, Int.mul_one]
        exact (Int.emod_eq_of_lt hI.o0 s1).symm
    rw [e3]
    exact Recast.refl _
end Go.Proofs.YtcaofdhffiifpaaGreatDoor

namespace Go.Proofs.YtcaofdhffiifpaaGreatDoor
open Go.Sx
set_option linter.unusedSimpArgs false
set_option linter.unusedVariables false
set_option maxRecDepth 100000

/-- The extended Euclidean algorithm, one coefficient. -/
def eu (x y : Nat) (u v : Int) : Nat × Int := if _h : y = 0 then (x, u) else eu y (x % y) v (u - (x / y : Nat) * v)
termination_by y
decreasing_by exact Nat.mod_lt _ (Nat.pos_of_ne_zero _h)

def invF (a p : Nat) : Int × Bool :=
  if p = 0 then (0, false) else
    let r := eu p (a % p) 0 1
    if r.1 = 1 then (r.2 % p, true) else (0, false)

theorem wrap_i64n {n : Nat} (h : n < 9223372036854775808) : IntKind.i64.wrap (n : Int) = n := wrap_i64 (by omega) (by omega)

structure InvI (p : Nat) (x y : Nat) (u v : Int) : Prop where
  hx : 1 ≤ x
  hx' : x ≤ p
  hy : y ≤ p
  hu : u.natAbs ≤ p
  hv : v.natAbs ≤ p
  s : v.natAbs * x + u.natAbs * y ≤ p

theorem InvI.step {p x y : Nat} {u v : Int} (h : InvI p x y u v) (hy : y ≠ 0) : InvI p y (x % y) v (u - (x / y : Nat) * v) ∧ ((x / y : Nat) * v).natAbs ≤ p := by
  have hq : ((x / y : Nat) * v : Int).natAbs = (x / y) * v.natAbs := by rw [Int.natAbs_mul, Int.natAbs_natCast]
  have hdm := Nat.div_add_mod x y
  have hs := h.s
  have h1 : (x / y) * v.natAbs * y + v.natAbs * (x % y) = v.natAbs * x := by
    conv => rhs; rw [← hdm]
    rw [Nat.mul_add, Nat.mul_comm (x / y), Nat.mul_assoc, Nat.mul_comm (x / y)]
  have h2 : (u - (x / y : Nat) * v).natAbs ≤ u.natAbs + (x / y) * v.natAbs := by rw [← hq]; omega
  have h3 : (u - (x / y : Nat) * v).natAbs * y ≤ u.natAbs * y + (x / y) * v.natAbs * y := by rw [← Nat.add_mul]; exact Nat.mul_le_mul_right _ h2
  have h4 : (u - (x / y : Nat) * v).natAbs * 1 ≤ (u - (x / y : Nat) * v).natAbs * y := Nat.mul_le_mul_left _ (by omega)
  have h5 : (x / y) * v.natAbs * 1 ≤ (x / y) * v.natAbs * y := Nat.mul_le_mul_left _ (by omega)
  refine ⟨⟨by omega, h.hy, ?_, h.hv, by omega, by omega⟩, by rw [hq]; omega⟩
  exact Nat.le_trans (Nat.le_of_lt (Nat.mod_lt _ (by omega))) h.hy

theorem c_Inv (a p : Nat) (ha : a < 4294967296) (h4 : p < 4294967296) :
    CallOK Tryz.prog 15 [.val (.int .u32 a), .val (.int .u32 p)] [] (.tup [.val (.int .u32 (invF a p).1), .val (.bool (invF a p).2)]) [] [] := by
  refine callV (Z := []) tabOK mixedOK Tryz.func15 rfl (by kernel_rfl) rfl rfl (by kernel_rfl) rfl ?_
  intro W0 w0 ρ0 hE
  conv => whnf
  refine ⟨fun h => ?_, fun h => ?_⟩
  · conv => whnf
    have hp : p = 0 := by have := of_decide_eq_true h; omega
    simp only [invF, hp, if_true]
    exact Recast.refl _
  · have hp : p ≠ 0 := by have := of_decide_eq_false h; omega
    conv => whnf
    have e1 : IntKind.u64.wrap (a : Int) = a := wrap_u64 (by omega) (by omega)
    have e2 : IntKind.i64.wrap (p : Int) = p := wrap_i64 (by omega) (by omega)
    have e3 : md (a : Int) p = ((a % p : Nat) : Int) := by simp only [md]; rw [if_neg (by omega)]; omega
    have e5 : a % p < p := Nat.mod_lt _ (by omega)
    have e4 : IntKind.i64.wrap ((a % p : Nat) : Int) = ((a % p : Nat) : Int) := wrap_i64 (by omega) (by omega)
    rw [e1]
    refine ⟨[], _, [], [], c_mod a p (by omega) (by omega) (by omega), nil_fk, nil_new, nil_upd, ?_⟩
    conv => whnf
    rw [e3]
    rw [e2, e4]
    refine SW_loopN hE (fun k => k) [1, 6, 7, 8, 9] [] (fun m fr hp => ∃ x u v, InvI p x m u v ∧ eu x m u v = eu p (a % p) 0 1 ∧ fr = [(1, .val (.int .u32 p)), (6, .val (.int .i64 x)), (7, .val (.int .i64 m)), (8, .val (.int .i64 u)), (9, .val (.int .i64 v))] ∧ hp = []) (a % p) (by kernel_rfl)
      ⟨p, 0, 1, ⟨by omega, by omega, by omega, by omega, by omega, by simp⟩, rfl, rfl, rfl⟩ ?_
    rintro m _ _ ⟨x, u, v, hI, hT, rfl, rfl⟩
    conv => whnf
    refine ⟨fun h => ?_, fun h => ?_⟩
    · have hm : m ≠ 0 := by rintro rfl; simp at h
      obtain ⟨hI', hq⟩ := hI.step hm
      conv => whnf
      refine ⟨by omega, ?_⟩
      conv => whnf
      have f1 : IntKind.i64.wrap ((x : Int).tdiv (m : Int)) = ((x / m : Nat) : Int) := by
        have : (x : Int).tdiv (m : Int) = ((x / m : Nat) : Int) := by simp
        rw [this]
        exact wrap_i64n (Nat.lt_of_le_of_lt (Nat.div_le_self x m) (Nat.lt_of_le_of_lt hI.hx' (by omega)))
      have f2 : IntKind.i64.wrap ((x : Int) - IntKind.i64.wrap (((x / m : Nat) : Int) * (m : Int))) = ((x % m : Nat) : Int) := by
        have g := Nat.div_add_mod x m
        have g' : ((x / m : Nat) : Int) * (m : Int) = (x : Int) - (x % m : Nat) := by
          have : ((m * (x / m) + x % m : Nat) : Int) = x := by rw [g]
          rw [Int.natCast_add, Int.natCast_mul, Int.mul_comm] at this
          omega
        have := hI.hx'
        have := Nat.mod_le x m
        rw [g', wrap_i64 (n := (x : Int) - (x % m : Nat)) (by omega) (by omega), show (x : Int) - ((x : Int) - (x % m : Nat)) = ((x % m : Nat) : Int) from by omega]
        exact wrap_i64n (by omega)
      have hu := hI.hu
      have hv := hI'.hv
      have f3 : IntKind.i64.wrap (u - IntKind.i64.wrap (((x / m : Nat) : Int) * v)) = u - ((x / m : Nat) : Int) * v := by
        rw [wrap_i64 (n := ((x / m : Nat) : Int) * v) (by omega) (by omega), wrap_i64 (by omega) (by omega)]
      rw [f1, f2, f3]
      refine ⟨x % m, fun k => k, [1, 6, 7, 8, 9], [], Nat.mod_lt _ (by omega), by kernel_rfl, m, v, u - ((x / m : Nat) : Int) * v, hI', ?_, rfl, rfl⟩
      rw [← hT]
      conv => rhs; rw [eu, dif_neg hm]
    · have hm : m = 0 := by have h := h; simp at h; omega
      subst hm
      rw [eu, dif_pos rfl] at hT
      conv => whnf
      refine ⟨fun h => ?_, fun h => ?_⟩
      · have hx : x ≠ 1 := by rintro rfl; simp at h
        conv => whnf
        have : (invF a p) = (0, false) := by simp only [invF, hp, if_false, ← hT, hx]
        rw [this]
        exact Recast.refl _
      · have hx : x = 1 := by have h := h; simp at h; omega
        conv => whnf
        refine ⟨by rw [e2]; omega, ?_⟩
        conv => whnf
        refine ⟨by rw [e2]; omega, ?_⟩
        conv => whnf
        have : (invF a p) = (u % p, true) := by simp only [invF, hp, if_false, ← hT, hx, if_true]
        rw [this, e2]
        have hpp : (0 : Int) < p := by omega
        have hu := hI.hu
        have g0 : IntKind.i64.wrap (u.tmod (p : Int) + (p : Int)) = u.tmod (p : Int) + p := by
          have h1 := Int.tmod_lt_of_pos u hpp
          have h2 := Int.lt_tmod_of_pos u hpp
          exact wrap_i64 (by omega) (by omega)
        have g1 : (u.tmod (p : Int) + (p : Int)).tmod p = u % p := by
          have h1 := Int.tmod_lt_of_pos u hpp
          have h2 : -(p : Int) < u.tmod p := by have := Int.lt_tmod_of_pos u hpp; omega
          rw [Int.tmod_eq_emod_of_nonneg (by omega), Int.add_emod_right]
          rw [Int.tmod_eq_emod]
          split <;> simp
        rw [g0, g1, wrap_u32 (Int.emod_nonneg _ (by omega)) (by have := Int.emod_lt_of_pos u hpp; omega)]
        exact Recast.refl _
end Go.Proofs.YtcaofdhffiifpaaGreatDoor

namespace Go.Proofs.YtcaofdhffiifpaaGreatDoor
open Go.Sx
set_option linter.unusedSimpArgs false
set_option linter.unusedVariables false
set_option maxRecDepth 100000

theorem and_compl (m k : Nat) (h : m < 2 ^ k) : m &&& (2 ^ k - (m + 1)) = 0 := by
  apply Nat.eq_of_testBit_eq
  intro i
  rw [Nat.testBit_and, Nat.testBit_two_pow_sub_succ h]
  cases m.testBit i <;> simp

theorem odd_and (m k : Nat) (h : m < 2 ^ k) : (2 * m + 1) &&& (2 ^ (k + 1) - (2 * m + 1)) = 1 := by
  have hp : 2 ^ (k + 1) = 2 * 2 ^ k := by rw [Nat.pow_succ, Nat.mul_comm]
  have h2 : 2 ^ (k + 1) - (2 * m + 1) = 2 * (2 ^ k - (m + 1)) + 1 := by omega
  rw [h2]
  have hc := and_compl m k h
  apply Nat.eq_of_testBit_eq
  intro i
  rw [Nat.testBit_and]
  cases i with
  | zero => simp
  | succ i =>
    have e : ∀ a : Nat, (2 * a + 1).testBit (i + 1) = a.testBit i := fun a => by rw [Nat.testBit_succ]; congr 1; omega
    rw [e, e, ← Nat.testBit_and, hc]
    simp [Nat.testBit_succ]

theorem low_bit (t m k : Nat) (h : m < 2 ^ k) : (2 ^ t * (2 * m + 1)) &&& (2 ^ (t + (k + 1)) - 2 ^ t * (2 * m + 1)) = 2 ^ t := by
  have h2 : 2 ^ (t + (k + 1)) - 2 ^ t * (2 * m + 1) = 2 ^ t * (2 ^ (k + 1) - (2 * m + 1)) := by rw [Nat.pow_add, Nat.mul_sub]
  rw [h2]
  have := odd_and m k h
  have e : ∀ a : Nat, 2 ^ t * a = a <<< t := fun a => by rw [Nat.shiftLeft_eq, Nat.mul_comm]
  rw [e, e, ← Nat.shiftLeft_and_distrib, this, Nat.shiftLeft_eq, Nat.one_mul]

def deBruijn : List Int := [0, 1, 28, 2, 29, 14, 24, 3, 30, 22, 20, 15, 25, 17, 4, 8, 31, 27, 13, 23, 21, 19, 16, 7, 26, 12, 18, 6, 11, 5, 10, 9]

theorem deBruijn_at : ∀ t : Nat, t < 32 → deBruijn[(2 ^ t * 125613361 % 4294967296) / 134217728]? = some (t : Int) := by decide

theorem c_TZ' (X : Nat) (t J : Int) (hx : 0 < X) (h : X < 4294967296) (hj0 : 0 ≤ J) (hj : J < 32) (e : ishr .u32 (IntKind.u32.wrap (iand .u32 (X : Int) (IntKind.u32.wrap (0 - (X : Int))) * 125613361)) 27 = J) (hd : deBruijn[J.toNat]? = some t) (ht0 : 0 ≤ t) (ht : t < 32) :
    CallOK Tryz.prog 42 [.val (.int .u32 X)] [] (.val (.int .i64 t)) [] [] := by
  refine callV (Z := []) tabOK mixedOK Tryz.func42 rfl (by kernel_rfl) rfl rfl (by kernel_rfl) rfl ?_
  intro W0 w0 ρ0 hE
  conv => whnf
  refine ⟨fun h => ?_, fun h => ?_⟩
  · exfalso; have := of_decide_eq_true h; omega
  · conv => whnf
    refine ⟨by decide, ?_⟩
    conv => whnf
    rw [e]
    refine ⟨_, [], [], op_globIndex rfl (ev_ok rfl) (ev_ok rfl) tok112 rfl tok5 hj0 (by exact hj), nil_fk, nil_new, ?_⟩
    conv => whnf
    refine ⟨_, [], [], op_globLoad rfl (ev_ok rfl) tok5 rfl (kd := .u8) (l := deBruijn) (v := t) (List.mem_cons_self ..) (by simpa [ti5] using hd), nil_fk, nil_new, ?_⟩
    conv => whnf
    rw [wrap_i64 (by omega) (by omega)]
    exact Recast.refl _

theorem c_TZ (t m : Nat) (h : 2 ^ t * (2 * m + 1) < 4294967296) :
    CallOK Tryz.prog 42 [.val (.int .u32 (2 ^ t * (2 * m + 1) : Nat))] [] (.val (.int .i64 t)) [] [] := by
  have ht : t < 32 := by
    have h1 : 2 ^ t * 1 ≤ 2 ^ t * (2 * m + 1) := Nat.mul_le_mul_left _ (by omega)
    exact (Nat.pow_lt_pow_iff_right (a := 2) (by decide)).1 (by omega)
  have hx : 0 < 2 ^ t * (2 * m + 1) := Nat.mul_pos (Nat.pow_pos (by decide)) (by omega)
  have hm : m < 2 ^ (31 - t) := by
    have h1 : 2 ^ t * (2 * m + 1) < 2 ^ t * 2 ^ (32 - t) := by rw [← Nat.pow_add, show t + (32 - t) = 32 from by omega]; exact h
    have h2 := Nat.lt_of_mul_lt_mul_left h1
    rw [show 32 - t = (31 - t) + 1 from by omega, Nat.pow_succ] at h2
    omega
  have hl := low_bit t m (31 - t) hm
  rw [show t + (31 - t + 1) = 32 from by omega] at hl
  generalize 2 ^ t * (2 * m + 1) = X at *
  have e0 : IntKind.u32.wrap (0 - (X : Int)) = ((2 ^ 32 - X : Nat) : Int) := by rw [wrap_u32']; omega
  have e1 : iand .u32 (X : Int) ((2 ^ 32 - X : Nat) : Int) = ((2 ^ t : Nat) : Int) := by rw [iand_u32 h (by omega), hl]
  have e2 : IntKind.u32.wrap (((2 ^ t : Nat) : Int) * 125613361) = ((2 ^ t * 125613361 % 4294967296 : Nat) : Int) := by rw [wrap_u32']; omega
  have e3 : ishr .u32 ((2 ^ t * 125613361 % 4294967296 : Nat) : Int) 27 = ((2 ^ t * 125613361 % 4294967296 / 134217728 : Nat) : Int) := ishr_nat .u32 (s := 27) (by decide)
  exact c_TZ' X t ((2 ^ t * 125613361 % 4294967296 / 134217728 : Nat) : Int) hx h (by omega) (by omega) (by rw [e0, e1, e2, e3]) (by rw [Int.toNat_natCast]; exact deBruijn_at t ht) (by omega) (by omega)

theorem c_minus (x n : Int) (K : Nat) (wr : Bool) (h1 : 1 ≤ n) (h2 : n < 4294967296) :
    CallOK Tryz.prog 43 [.val (.int .u32 x), .ptr K 0 0 0] [(K, ⟨27, wr, .one [.val (.int .u32 n)]⟩)] (.val (.bool (x == n - 1))) [] [] := by
  refine CallOK.anyWr ?_
  refine callK (Z := []) tabOK mixedOK Tryz.func43 rfl (by kernel_rfl) (args := [.val (.int .u32 x), .ptr 0 0 0 0]) (fk := [(0, ⟨27, false, .one [.val (.int .u32 n)]⟩)]) (c := .val (.bool (x == n - 1))) (new := []) (upd := []) ?_ rfl (fun _ => K) ?_ ?_
  · exact ⟨rfl, rfl, rfl, rfl, rfl, (fun _ _ h => by cases h), (fun k b h hw => by simp at h; rw [h.2] at hw; cases hw), rfl, rfl, rfl, rfl⟩
  · exact ⟨(fun q q' b b' h h' hne => by simp at h h'; omega), (fun _ _ h => by simp [keysOf] at h), (fun _ _ h => by simp [keysOf] at h)⟩
  intro W0 w0 ρ0 hE
  conv => whnf
  rw [wrap_u32 (by omega) (by omega)]
  exact ⟨Recast.refl _, (fun _ _ h => by cases h), (fun _ _ h => by cases h)⟩
end Go.Proofs.YtcaofdhffiifpaaGreatDoor

namespace Go.Proofs.YtcaofdhffiifpaaGreatDoor
open Go.Sx
set_option linter.unusedSimpArgs false
set_option linter.unusedVariables false
set_option maxRecDepth 100000

def firsts : List Nat := [2, 3, 5, 7, 11, 13, 17, 19, 23, 29, 31, 37, 41, 43, 47, 53, 59, 61]

def trial (n : Nat) : List Nat → Option Bool
  | [] => none
  | q :: l => if n % q = 0 then some (n == q) else trial n l

def tzF : Nat → Nat → Nat
  | 0, _ => 0
  | f + 1, x => if x % 2 = 1 then 0 else tzF f (x / 2) + 1

def iterF : Nat → Nat → Nat → Bool
  | 0, _, _ => false
  | k + 1, x, n => x * x % n == n - 1 || iterF k (x * x % n) n

/-- out times a to the n modulo p. -/
def powM : Nat → Nat → Nat → Nat → Nat → Nat
  | 0, out, _, _, _ => out
  | f + 1, out, a, n, p => powM f (if n % 2 = 1 then out * a % p else out) (a * a % p) (n / 2) p

def witF (n t w : Nat) : Bool :=
  let x := powM 64 (1 % n) w ((n - 1) / 2 ^ t) n
  x == 1 || (x == n - 1 || iterF (t - 1) x n)

def primeF (n : Nat) : Bool := match trial n firsts with
  | some b => b
  | none => if n < 2 then false else witF n (tzF 32 (n - 1)) 2 && (witF n (tzF 32 (n - 1)) 7 && witF n (tzF 32 (n - 1)) 61)

theorem tzF_spec : ∀ (f x : Nat), 0 < x → x < 2 ^ f → ∃ m, x = 2 ^ tzF f x * (2 * m + 1)
  | 0, x, h0, h => by simp at h; omega
  | f + 1, x, h0, h => by
    simp only [tzF]
    split
    · exact ⟨x / 2, by omega⟩
    · rw [Nat.pow_succ] at h
      obtain ⟨m, hm⟩ := tzF_spec f (x / 2) (by omega) (by omega)
      refine ⟨m, ?_⟩
      rw [Nat.pow_succ, Nat.mul_comm (2 ^ _) 2, Nat.mul_assoc, ← hm]
      omega

theorem powM_spec : ∀ (f out a n p : Nat), n < 2 ^ f → out < p → powM f out a n p = out * a ^ n % p
  | 0, out, a, n, p, h, ho => by
    have : n = 0 := by simpa using h
    simp [powM, this, Nat.mod_eq_of_lt ho]
  | f + 1, out, a, n, p, h, ho => by
    rw [Nat.pow_succ] at h
    have hn : n = n % 2 + 2 * (n / 2) := by omega
    have hpow : a ^ n = a ^ (n % 2) * (a * a) ^ (n / 2) := by
      conv => lhs; rw [hn, Nat.pow_add, Nat.pow_mul]
      rw [show a ^ 2 = a * a from Nat.pow_two a]
    simp only [powM]
    rw [hpow]
    by_cases h1 : n % 2 = 1
    · rw [if_pos h1, powM_spec f _ _ _ p (by omega) (Nat.mod_lt _ (by omega)), h1, Nat.pow_one, Nat.mul_mod, Nat.mod_mod, ← Nat.pow_mod, ← Nat.mul_mod, Nat.mul_assoc]
    · rw [if_neg h1, powM_spec f _ _ _ p (by omega) ho, show n % 2 = 0 from by omega, Nat.pow_zero, Nat.one_mul, Nat.mul_mod, ← Nat.pow_mod, ← Nat.mul_mod]

theorem firsts_bd : ∀ q ∈ firsts, 0 < q ∧ q < 62 := by decide

def wits : List Nat := [2, 7, 61]
theorem wits_bd : ∀ q ∈ wits, 0 < q ∧ q < 62 := by decide

theorem c_Prime (n : Nat) (hn : n < 4294967296) :
    CallOK Tryz.prog 14 [.val (.int .u32 n)] [] (.val (.bool (primeF n))) [] [] := by
  refine callV (Z := []) tabOK mixedOK Tryz.func14 rfl (by kernel_rfl) rfl rfl (by kernel_rfl) rfl ?_
  intro W0 w0 ρ0 hE
  conv => whnf
  refine SW_loopN hE (fun k => k) [1, 12, 13] [1] (fun m fr hp => ∃ i, m = 18 - i ∧ i ≤ 18 ∧ trial n (firsts.drop i) = trial n firsts ∧ fr = [(1, .ptr 1 0 0 0), (12, .agg (firsts.map fun (q : Nat) => .val (.int .u32 q))), (13, .val (.int .i64 i))] ∧ hp = [(1, ⟨27, true, .one [.val (.int .u32 n)]⟩)]) 18 ?_ ?_ ?_
  · kernel_rfl
  · exact ⟨0, rfl, by omega, rfl, rfl, rfl⟩
  rintro m _ _ ⟨i, rfl, hi, hT, rfl, rfl⟩
  conv => whnf
  refine ⟨fun h => ?_, fun h => ?_⟩
  · have hi' : i < 18 := by have := of_decide_eq_true h; omega
    obtain ⟨q, hq⟩ : ∃ q, firsts[i]? = some q := ⟨firsts[i]'(by simpa [firsts] using hi'), by simp⟩
    have hqm : q ∈ firsts := List.mem_of_getElem? hq
    have hqb : 0 < q ∧ q < 62 := firsts_bd q hqm
    conv => whnf
    refine ⟨_, [], [], op_indexAgg rfl (ev_ok rfl) (l := firsts.map fun (q : Nat) => .int .u32 q) rfl (ev_ok rfl) tok86 rfl tok27 rfl rfl (by omega) (by omega) (v := .int .u32 q) (by simp [hq]) rfl, nil_fk, nil_new, ?_⟩
    conv => whnf
    refine ⟨by omega, ?_⟩
    conv => whnf
    have hdrop : firsts.drop i = q :: firsts.drop (i + 1) := by
      rw [List.drop_eq_getElem_cons (by simpa [firsts] using hi')]
      congr 1
      exact (List.getElem?_eq_some_iff.1 hq).2
    have e1 : (n : Int).tmod (q : Int) = ((n % q : Nat) : Int) := by rw [Int.tmod_eq_emod_of_nonneg (by omega)]; rfl
    rw [e1]
    refine ⟨fun h => ?_, fun h => ?_⟩
    · have hz : n % q = 0 := by have := of_decide_eq_true h; omega
      conv => whnf
      have e2 : primeF n = ((n : Int) == (q : Int)) := by
        rw [hdrop] at hT
        simp only [primeF, ← hT, trial, hz, if_true]
        rw [Bool.eq_iff_iff]; simp; omega
      rw [e2]
      exact Recast.refl _
    · have hz : ¬ n % q = 0 := by have := of_decide_eq_false h; omega
      conv => whnf
      have e3 : IntKind.i64.wrap ((i : Int) + 1) = ((i + 1 : Nat) : Int) := by rw [wrap_i64 (by omega) (by omega)]; omega
      rw [e3]
      refine ⟨18 - (i + 1), fun k => k, [1, 12, 13], [1], by omega, by kernel_rfl, i + 1, rfl, by omega, ?_, rfl, rfl⟩
      rw [← hT, hdrop]
      simp only [trial, hz, if_false]
  · have hi' : i = 18 := by have := of_decide_eq_false h; omega
    subst hi'
    have hT : trial n firsts = none := hT.symm
    conv => whnf
    refine ⟨fun h => ?_, fun h => ?_⟩
    · have h2 : n < 2 := by have := of_decide_eq_true h; omega
      conv => whnf
      have e2 : primeF n = false := by simp only [primeF, hT, h2, if_true]
      rw [e2]
      exact Recast.refl _
    have h2 : ¬ n < 2 := by have := of_decide_eq_false h; omega
    obtain ⟨m0, hm0⟩ := tzF_spec 32 (n - 1) (by omega) (by omega)
    have cTZ := c_TZ (tzF 32 (n - 1)) m0 (by rw [← hm0]; omega)
    rw [← hm0] at cTZ
    have eP : primeF n = wits.all (witF n (tzF 32 (n - 1))) := by simp only [wits, primeF, hT, h2, if_false, List.all_cons, List.all_nil, Bool.and_true]
    have hTb : tzF 32 (n - 1) < 32 := by
      have h1 : 2 ^ (tzF 32 (n - 1)) * 1 ≤ 2 ^ (tzF 32 (n - 1)) * (2 * m0 + 1) := Nat.mul_le_mul_left _ (by omega)
      rw [← hm0] at h1
      exact (Nat.pow_lt_pow_iff_right (a := 2) (by decide)).1 (by omega)
    generalize tzF 32 (n - 1) = T at *
    have e1 : IntKind.u32.wrap ((n : Int) - 1) = ((n - 1 : Nat) : Int) := by rw [wrap_u32 (by omega) (by omega)]; omega
    conv => whnf
    rw [e1]
    refine ⟨[], _, [], [], cTZ, nil_fk, nil_new, nil_upd, ?_⟩
    conv => whnf
    refine ⟨_, [], [], [], op_makeFunc rfl rfl rfl, nil_fk, nil_new, nil_upd, ?_⟩
    conv => whnf
    refine SW_loopN hE (fun k => k) [1, 6, 7, 30, 31] [1] (fun m fr hp => ∃ i, m = 3 - i ∧ i ≤ 3 ∧ (wits.drop i).all (witF n T) = wits.all (witF n T) ∧ fr = [(1, .ptr 1 0 0 0), (6, .val (.int .i64 T)), (7, .clo 43 [] [.ptr 1 0 0 0]), (30, .agg (wits.map fun (q : Nat) => .val (.int .u32 q))), (31, .val (.int .i64 i))] ∧ hp = [(1, ⟨27, true, .one [.val (.int .u32 n)]⟩)]) 3 ?_ ?_ ?_
    · kernel_rfl
    · exact ⟨0, rfl, by omega, rfl, rfl, rfl⟩
    rintro m _ _ ⟨i, rfl, hi, hW, rfl, rfl⟩
    conv => whnf
    refine ⟨fun h => ?_, fun h => ?_⟩
    · have hi' : i < 3 := by have := of_decide_eq_true h; omega
      obtain ⟨q, hq⟩ : ∃ q, wits[i]? = some q := ⟨wits[i]'(by simpa [wits] using hi'), by simp⟩
      have hqm : q ∈ wits := List.mem_of_getElem? hq
      have hqb : 0 < q ∧ q < 62 := wits_bd q hqm
      have hdrop : wits.drop i = q :: wits.drop (i + 1) := by
        rw [List.drop_eq_getElem_cons (by simpa [wits] using hi')]
        congr 1
        exact (List.getElem?_eq_some_iff.1 hq).2
      conv => whnf
      refine ⟨_, [], [], op_indexAgg rfl (ev_ok rfl) (l := wits.map fun (q : Nat) => .int .u32 q) rfl (ev_ok rfl) tok88 rfl tok27 rfl rfl (by omega) (by omega) (v := .int .u32 q) (by simp [hq]) rfl, nil_fk, nil_new, ?_⟩
      conv => whnf
      refine ⟨by omega, ?_⟩
      conv => whnf
      have e2 : IntKind.u64.wrap ((n - 1 : Nat) : Int) = ((n - 1 : Nat) : Int) := wrap_u64 (by omega) (by omega)
      have e3 : ishr .u64 ((n - 1 : Nat) : Int) (T : Int) = (((n - 1) / 2 ^ T : Nat) : Int) := ishr_nat .u64 (by show T ≤ 64; omega)
      have e4 : (n - 1) / 2 ^ T ≤ n - 1 := Nat.div_le_self _ _
      rw [e1, e2, e3]
      refine ⟨[], _, [], [], c_Pow q n ((n - 1) / 2 ^ T) (by omega) (by omega) (by omega) (by omega) (by omega), nil_fk, nil_new, nil_upd, ?_⟩
      have e5 : md ((q : Int) ^ ((n - 1) / 2 ^ T)) n = ((powM 64 (1 % n) q ((n - 1) / 2 ^ T) n : Nat) : Int) := by
        rw [powM_spec 64 _ _ _ _ (by omega) (Nat.mod_lt _ (by omega))]
        simp only [md]
        rw [if_neg (by omega), Nat.mul_mod, Nat.mod_mod, ← Nat.mul_mod, Nat.one_mul]
        simp
      have e6 : powM 64 (1 % n) q ((n - 1) / 2 ^ T) n < n := by
        rw [powM_spec 64 _ _ _ _ (by omega) (Nat.mod_lt _ (by omega))]; exact Nat.mod_lt _ (by omega)
      have eW : witF n T q = (powM 64 (1 % n) q ((n - 1) / 2 ^ T) n == 1 || (powM 64 (1 % n) q ((n - 1) / 2 ^ T) n == n - 1 || iterF (T - 1) (powM 64 (1 % n) q ((n - 1) / 2 ^ T) n) n)) := rfl
      rw [e5]
      generalize powM 64 (1 % n) q ((n - 1) / 2 ^ T) n = x at *
      conv => whnf
      refine ⟨by kernel_rfl, ?_⟩
      conv => whnf
      have eX : ((x : Int) == (n : Int) - 1) = (x == n - 1) := by rw [Bool.eq_iff_iff]; simp; omega
      have eY : ((x : Int) == 1) = (x == 1) := by rw [Bool.eq_iff_iff]; simp; omega
      have next : witF n T q = true → wits.all (witF n T) = (wits.drop (i + 1)).all (witF n T) := fun hw => by rw [← hW, hdrop, List.all_cons, hw, Bool.true_and]
      have stop : witF n T q = false → primeF n = false := fun hw => by rw [eP, ← hW, hdrop, List.all_cons, hw, Bool.false_and]
      have eI : IntKind.i64.wrap ((i : Int) + 1) = ((i + 1 : Nat) : Int) := by rw [wrap_i64 (by omega) (by omega)]; omega
      refine ⟨fun hx => ?_, fun hx => ?_⟩
      · conv => whnf
        refine ⟨fun _ => ?_, fun h' => by rw [hx] at h'; simp at h'⟩
        conv => whnf
        refine ⟨fun _ => ?_, fun h' => by rw [hx] at h'; simp at h'⟩
        conv => whnf
        refine ⟨_, _, [], [], c_minus x n 1 true (by omega) (by omega), one_fk rfl, nil_new, nil_upd, ?_⟩
        conv => whnf
        refine ⟨.val (.bool ((x : Int) == (n : Int) - 1)), [], [], [], op_pick rfl (ev_ok rfl) (fun hb => by rw [hx] at hb; cases hb) (fun _ => ev_ok rfl) (by rw [hx]; rfl) (c1 := .any), nil_fk, nil_new, nil_upd, ?_⟩
        conv => whnf
        have hx1 : (x == 1) = false := by rw [← eY]; exact hx
        rw [hx1, Bool.false_or] at eW
        rw [eX]
        refine ⟨fun h1 => ?_, fun h1 => ?_⟩
        · rw [h1, Bool.true_or] at eW
          conv => whnf
          rw [eI]
          exact ⟨3 - (i + 1), fun k => k, [1, 6, 7, 30, 31], [1], by omega, by kernel_rfl, i + 1, rfl, by omega, (next eW).symm, rfl, rfl⟩
        rw [h1, Bool.false_or] at eW
        conv => whnf
        have eT : IntKind.i64.wrap ((T : Int) - 1) = (T : Int) - 1 := wrap_i64 (by omega) (by omega)
        rw [eT]
        refine SW_loopN hE (fun k => k) [1, 6, 7, 10, 30, 31, 50, 51] [1] (fun m fr hp => ∃ y r, m = T - 1 - r ∧ y < n ∧ iterF (T - 1 - r) y n = iterF (T - 1) x n ∧ fr = [(1, .ptr 1 0 0 0), (6, .val (.int .i64 T)), (7, .clo 43 [] [.ptr 1 0 0 0]), (10, .val (.int .u32 (y : Nat))), (30, .agg (wits.map fun (q : Nat) => .val (.int .u32 q))), (31, .val (.int .i64 i)), (50, .val (.int .i64 ((T : Int) - 1))), (51, .val (.int .i64 (r : Nat)))] ∧ hp = [(1, ⟨27, true, .one [.val (.int .u32 n)]⟩)]) (T - 1) ?_ ?_ ?_
        · kernel_rfl
        · exact ⟨x, 0, rfl, e6, rfl, rfl, rfl⟩
        rintro m _ _ ⟨y, r, rfl, hy, hit, rfl, rfl⟩
        conv => whnf
        refine ⟨fun hr => ?_, fun hr => ?_⟩
        · have hr' : r + 1 < T := by have := of_decide_eq_true hr; omega
          conv => whnf
          refine ⟨[], _, [], [], c_Mul y y n (by omega) (by omega) (by omega) (by omega) (by omega) (by omega), nil_fk, nil_new, nil_upd, ?_⟩
          have eM : md ((y : Int) * y) n = ((y * y % n : Nat) : Int) := by
            simp only [md]
            rw [if_neg (by omega)]
            simp
          rw [eM]
          have hy2 : y * y % n < n := Nat.mod_lt _ (by omega)
          rw [show T - 1 - r = (T - 1 - (r + 1)) + 1 from by omega] at hit
          simp only [iterF] at hit
          generalize y * y % n = z at *
          have eZ : ((z : Int) == (n : Int) - 1) = (z == n - 1) := by rw [Bool.eq_iff_iff]; simp; omega
          conv => whnf
          refine ⟨_, _, [], [], c_minus z n 1 true (by omega) (by omega), one_fk rfl, nil_new, nil_upd, ?_⟩
          conv => whnf
          rw [eZ]
          refine ⟨fun h1 => ?_, fun h1 => ?_⟩
          · rw [h1, Bool.true_or] at hit
            rw [← hit] at eW
            conv => whnf
            rw [eI]
            exact ⟨3 - (i + 1), fun k => k, [1, 6, 7, 30, 31], [1], by omega, by kernel_rfl, i + 1, rfl, by omega, (next eW).symm, rfl, rfl⟩
          · rw [h1, Bool.false_or] at hit
            conv => whnf
            rw [show IntKind.i64.wrap ((r : Int) + 1) = ((r + 1 : Nat) : Int) from by rw [wrap_i64 (by omega) (by omega)]; omega]
            exact ⟨T - 1 - (r + 1), fun k => k, [1, 6, 7, 10, 30, 31, 50, 51], [1], by omega, by kernel_rfl, z, r + 1, rfl, hy2, hit, rfl, rfl⟩
        · have hr' : T - 1 - r = 0 := by have := of_decide_eq_false hr; omega
          rw [hr'] at hit
          have hit : false = iterF (T - 1) x n := hit
          rw [← hit] at eW
          conv => whnf
          rw [stop eW]
          exact Recast.refl _
      · conv => whnf
        refine ⟨fun h' => by rw [hx] at h'; simp at h', fun _ => ?_⟩
        conv => whnf
        refine ⟨fun h' => by rw [hx] at h'; simp at h', fun _ => ?_⟩
        conv => whnf
        refine ⟨.val (.bool true), [], [], [], op_pick rfl (ev_ok rfl) (fun _ => ev_ok rfl) (fun hb => by rw [hx] at hb; cases hb) (by rw [hx]; rfl) (c2 := .any), nil_fk, nil_new, nil_upd, ?_⟩
        conv => whnf
        refine ⟨fun _ => ?_, fun h' => by cases h'⟩
        have hx1 : (x == 1) = true := by rw [← eY]; exact hx
        rw [hx1, Bool.true_or] at eW
        conv => whnf
        rw [eI]
        exact ⟨3 - (i + 1), fun k => k, [1, 6, 7, 30, 31], [1], by omega, by kernel_rfl, i + 1, rfl, by omega, (next eW).symm, rfl, rfl⟩
    · have hi' : i = 3 := by have := of_decide_eq_false h; omega
      subst hi'
      have hW : wits.all (witF n T) = true := hW.symm
      rw [hW] at eP
      conv => whnf
      rw [eP]
      exact Recast.refl _
end Go.Proofs.YtcaofdhffiifpaaGreatDoor

namespace Go.Proofs.YtcaofdhffiifpaaGreatDoor
open Go.Sx
set_option linter.unusedSimpArgs false
set_option linter.unusedVariables false
set_option maxRecDepth 100000

/-- The first q below 2^31 that the test takes, from q on; f counts what is left. -/
def nextF : Nat → Nat → Int × Int
  | 0, _ => (0, 3)
  | f + 1, q => if primeF q then (q, 0) else nextF f (q + 1)

theorem c_Next (n : Nat) (hn : n < 4294967296) :
    CallOK Tryz.prog 13 [.val (.int .u32 n)] [] (.tup [.val (.int .u32 (nextF (2147483648 - (n + 1)) (n + 1)).1), .val (.int .i64 (nextF (2147483648 - (n + 1)) (n + 1)).2)]) [] [] := by
  refine callV (Z := []) tabOK mixedOK Tryz.func13 rfl (by kernel_rfl) rfl rfl (by kernel_rfl) rfl ?_
  intro W0 w0 ρ0 hE
  conv => whnf
  have e1 : IntKind.u64.wrap (IntKind.u64.wrap (n : Int) + 1) = ((n + 1 : Nat) : Int) := by rw [wrap_u64 (n := (n : Int)) (by omega) (by omega), wrap_u64 (by omega) (by omega)]; omega
  rw [e1]
  refine SW_loopN hE (fun k => k) [4] [] (fun m fr hp => ∃ q, m = 2147483648 - q ∧ q ≤ 4294967296 ∧ nextF (2147483648 - q) q = nextF (2147483648 - (n + 1)) (n + 1) ∧ fr = [(4, .val (.int .u64 (q : Nat)))] ∧ hp = []) (2147483648 - (n + 1)) ?_ ?_ ?_
  · kernel_rfl
  · exact ⟨n + 1, rfl, by omega, rfl, rfl, rfl⟩
  rintro m _ _ ⟨q, rfl, hq0, hT, rfl, rfl⟩
  conv => whnf
  refine ⟨fun h => ?_, fun h => ?_⟩
  · have hq : q < 2147483648 := by have := of_decide_eq_true h; omega
    rw [show 2147483648 - q = (2147483648 - (q + 1)) + 1 from by omega] at hT
    simp only [nextF] at hT
    conv => whnf
    have e2 : IntKind.u32.wrap (q : Int) = q := wrap_u32 (by omega) (by omega)
    rw [e2]
    refine ⟨[], _, [], [], c_Prime q (by omega), nil_fk, nil_new, nil_upd, ?_⟩
    conv => whnf
    refine ⟨fun h => ?_, fun h => ?_⟩
    · rw [if_pos h] at hT
      conv => whnf
      rw [e2, ← hT]
      exact Recast.refl _
    · rw [if_neg (by simp [h])] at hT
      conv => whnf
      rw [show IntKind.u64.wrap ((q : Int) + 1) = ((q + 1 : Nat) : Int) from by rw [wrap_u64 (by omega) (by omega)]; omega]
      exact ⟨2147483648 - (q + 1), fun k => k, [4], [], by omega, by kernel_rfl, q + 1, rfl, by omega, hT, rfl, rfl⟩
  · have hq : 2147483648 - q = 0 := by have := of_decide_eq_false h; omega
    rw [hq] at hT
    simp only [nextF] at hT
    conv => whnf
    rw [← hT]
    exact Recast.refl _
end Go.Proofs.YtcaofdhffiifpaaGreatDoor

namespace Go.Proofs.YtcaofdhffiifpaaGreatDoor
open Go.Sx
set_option linter.unusedSimpArgs false
set_option linter.unusedVariables false
set_option maxRecDepth 100000
set_option maxHeartbeats 2000000
variable {M : Nat}

theorem c_lawOf (ok : NatOK M) (n d : Int) (hM : fsz (n : Rat) + fsz (d : Rat) ≤ M) (h0 : -9223372036854775808 ≤ n) (h1 : n < 9223372036854775808) (h2 : -9223372036854775808 ≤ d) (h3 : d < 9223372036854775808) (hd : d ≠ 0) :
    CallOK Tryz.prog 20 [.val (.int .i64 n), .val (.int .i64 d)] [] (.frac ((n : Rat) / (d : Rat))) [] [] := by
  have k1 := c_fOf ok n d hM h0 h1 h2 h3 hd
  refine callV (Z := []) tabOK mixedOK Tryz.func20 rfl (by kernel_rfl) rfl rfl (by kernel_rfl) rfl ?_
  intro W0 w0 ρ0 hE
  conv => whnf
  (repeat (first | (refine g_c (by assumption) ?_; conv => whnf))); exact Recast.refl _

theorem c_OfInt (ok : NatOK M) (z p : Int) (hz : sz z.natAbs < M) (h3 : 0 ≤ p) (h4 : p < 4294967296) :
    CallOK Tryz.prog 9 [.int z, .val (.int .u32 p)] [] (.val (.int .u32 (md z p))) [] [] := by
  have hb := ok.big
  have e1 : IntKind.u64.wrap p = ((p.toNat : Nat) : Int) := by rw [wrap_u64 h3 (by omega)]; omega
  have k1 := c_nOf p.toNat (by omega)
  have k2 := c_From false p.toNat
  rw [show signed false p.toNat = p from by simp [signed]; omega] at k2
  refine callV (Z := []) tabOK mixedOK Tryz.func9 rfl (by kernel_rfl) rfl rfl (by kernel_rfl) rfl ?_
  intro W0 w0 ρ0 hE
  conv => whnf
  rw [e1]
  by_cases hp : p = 0
  · subst hp
    have k3 := c_iDivZ ok z
    have k4 := c_Abs 0
    have k5 := c_U64 (Int.natAbs 0)
    (repeat (first | (refine step_w1 rfl rfl ?_; conv => whnf) | (refine step_i (by kernel_rfl) ?_; conv => whnf) | (refine g_c (by assumption) ?_; conv => whnf))); exact Recast.refl _
  · have hps : sz p.natAbs < M := Nat.lt_of_le_of_lt (sz_le.2 (show p.natAbs < 2 ^ 32 by omega)) (by omega)
    have k3 := c_iDiv ok z p hz hps hp
    have k4 := c_Abs (z % p)
    have k5 := c_U64 (z % p).natAbs
    (repeat (first | (refine step_w2 rfl rfl ?_; conv => whnf) | (refine step_i (by kernel_rfl) ?_; conv => whnf) | (refine g_c (by assumption) ?_; conv => whnf)))
    have h5 := Int.emod_nonneg z hp
    have h6 := Int.emod_lt_of_pos z (show 0 < p by omega)
    rw [low_small (by omega), wrap_u32 (by omega) (by omega)]
    rw [show (((z % p).natAbs : Nat) : Int) = md z p from by simp only [md, hp, if_false]; omega]
    exact Recast.refl _

/-- The residue of a natural number. -/
def mdN (n p : Nat) : Nat := if p = 0 then 0 else n % p
theorem md_nat (n p : Nat) : md n p = (mdN n p : Nat) := by
  unfold md mdN
  by_cases h : p = 0 <;> simp [h]
theorem mdN_le {n p : Nat} (hp : p < 4294967296) : mdN n p < 4294967296 := by
  unfold mdN
  split
  · omega
  · have := Nat.mod_lt n (show 0 < p by omega); omega

theorem invF_bd {a p : Nat} (h : p < 4294967296) : 0 ≤ (invF a p).1 ∧ (invF a p).1 < 4294967296 := by
  unfold invF
  split
  · exact ⟨by decide, by decide⟩
  · simp only []
    split
    · have h1 := Int.emod_nonneg (eu p (a % p) 0 1).2 (show (p : Int) ≠ 0 by omega)
      have h2 := Int.emod_lt_of_pos (eu p (a % p) 0 1).2 (show (0 : Int) < p by omega)
      exact ⟨h1, by omega⟩
    · exact ⟨by decide, by decide⟩

/-- What mods.OfFrac gives. -/
def ofFracF (q : Rat) (p : Nat) : Int × Bool :=
  if (invF (mdN q.den p) p).2 then (md (md q.num p * (invF (mdN q.den p) p).1) p, true) else (0, false)

theorem c_OfFrac (ok : NatOK M) (q : Rat) (p : Nat) (hq : fsz q < M) (hp : p < 4294967296) :
    CallOK Tryz.prog 5 [.frac q, .val (.int .u32 p)] [] (.tup [.val (.int .u32 (ofFracF q p).1), .val (.bool (ofFracF q p).2)]) [] [] := by
  have h1 := fsz_num q
  have h2 := fsz_den q
  have k1 := c_Den ok q (by omega)
  have k2 := c_From false q.den
  rw [show signed false q.den = (q.den : Int) from rfl] at k2
  have k3 := c_OfInt ok q.den p (by rw [Int.natAbs_natCast]; omega) (by omega) (by omega)
  rw [md_nat] at k3
  have k4 := c_Inv (mdN q.den p) p (mdN_le hp) hp
  have k5 := c_Num q
  have k6 := c_OfInt ok q.num p (by omega) (by omega) (by omega)
  obtain ⟨b1, b2⟩ := invF_bd (a := mdN q.den p) hp
  have h5 := md_bd (n := q.num) (p := p) (by omega)
  have k7 := c_Mul (md q.num p) (invF (mdN q.den p) p).1 p h5.1 (by omega) b1 b2 (by omega) (by omega)
  have hr : ofFracF q p = if (invF (mdN q.den p) p).2 then (md (md q.num p * (invF (mdN q.den p) p).1) p, true) else (0, false) := rfl
  rw [hr]
  generalize invF (mdN q.den p) p = iv at *
  obtain ⟨v, b⟩ := iv
  refine callV (Z := []) tabOK mixedOK Tryz.func5 rfl (by kernel_rfl) rfl rfl (by kernel_rfl) rfl ?_
  intro W0 w0 ρ0 hE
  conv => whnf
  cases b
  · (repeat (first | (refine step_w1 rfl rfl ?_; conv => whnf) | (refine g_c (by assumption) ?_; conv => whnf))); exact Recast.refl _
  · (repeat (first | (refine step_w2 rfl rfl ?_; conv => whnf) | (refine g_c (by assumption) ?_; conv => whnf))); exact Recast.refl _
end Go.Proofs.YtcaofdhffiifpaaGreatDoor

namespace Go.Proofs.YtcaofdhffiifpaaGreatDoor
open Go.Sx
set_option linter.unusedSimpArgs false
set_option linter.unusedVariables false
set_option maxRecDepth 100000
set_option maxHeartbeats 4000000

theorem sz64 {n : Nat} (h : sz n ≤ 64) : n < 18446744073709551616 := sz_le.1 h

theorem nat64 : NatOK 64 where
  big := Nat.le_refl _
  cmp a b ha hb := s_Cmp a b (sz64 ha) (sz64 hb)
  add a b h := s_Add a b (sz64 h)
  sub a b ha h := s_Sub a b (sz64 ha) h
  subF a b hb h := s_SubF a b (Nat.lt_trans h (sz64 hb)) (sz64 hb) h
  mul a b h := c_Mul_s a b (sz64 (by omega)) (sz64 (by omega))
  div a b ha hb h0 := s_Div a b (sz64 ha) (sz64 hb) h0
  divZ a := c_DivZ a
  gcd a b ha hb := s_Gcd a b (sz64 ha) (sz64 hb)

theorem k_prime (n : Nat) (b : Bool) (hn : n < 4294967296) (e : primeF n = b) : CallOK Tryz.prog 14 [.val (.int .u32 n)] [] (.val (.bool b)) [] [] := e ▸ c_Prime n hn
theorem k_next (n : Nat) (q e : Int) (hn : n < 4294967296) (h : nextF (2147483648 - (n + 1)) (n + 1) = (q, e)) : CallOK Tryz.prog 13 [.val (.int .u32 n)] [] (.tup [.val (.int .u32 q), .val (.int .i64 e)]) [] [] := by
  have := c_Next n hn; rwa [h] at this
theorem k_inv (a p : Nat) (q : Int) (b : Bool) (ha : a < 4294967296) (hp : p < 4294967296) (h : invF a p = (q, b)) : CallOK Tryz.prog 15 [.val (.int .u32 a), .val (.int .u32 p)] [] (.tup [.val (.int .u32 q), .val (.bool b)]) [] [] := by
  have := c_Inv a p ha hp; rwa [h] at this
theorem k_frac (a : Rat) (p : Nat) (q : Int) (b : Bool) (ha : fsz a < 64) (hp : p < 4294967296) (h : ofFracF a p = (q, b)) : CallOK Tryz.prog 5 [.frac a, .val (.int .u32 p)] [] (.tup [.val (.int .u32 q), .val (.bool b)]) [] [] := by
  have := c_OfFrac nat64 a p ha hp; rwa [h] at this

theorem c_works : CallOK Tryz.prog 4 [] [] (.val (.bool true)) [] [] := by
  have n1 := k_next 0 2 0 (by decide) (by kernel_rfl)
  have n2 := k_next 2 3 0 (by decide) (by kernel_rfl)
  have n3 := k_next 2147483646 2147483647 0 (by decide) (by kernel_rfl)
  have n4 := k_next 2147483647 0 3 (by decide) (by kernel_rfl)
  have p1 := k_prime 2 true (by decide) (by kernel_rfl)
  have p2 := k_prime 1 false (by decide) (by kernel_rfl)
  have p3 := k_prime 561 false (by decide) (by kernel_rfl)
  have p4 := k_prime 2147483647 true (by decide) (by kernel_rfl)
  have p5 := k_prime 4294967291 true (by decide) (by kernel_rfl)
  have i1 := k_inv 3 7 5 true (by decide) (by decide) (by kernel_rfl)
  have i2 := k_inv 2 4 0 false (by decide) (by decide) (by kernel_rfl)
  have i3 := k_inv 0 1 0 true (by decide) (by decide) (by kernel_rfl)
  have i4 := k_inv 5 0 0 false (by decide) (by decide) (by kernel_rfl)
  have a1 := (c_Sub 3 5 7 (by decide) (by decide) (by decide) (by decide) (by decide) (by decide)).res (d := .val (.int .u32 5)) (by kernel_rfl)
  have a2 := (c_Mul 4294967295 4294967295 4294967291 (by decide) (by decide) (by decide) (by decide) (by decide) (by decide)).res (d := .val (.int .u32 16)) (by kernel_rfl)
  have a3 := (c_Pow 2 1000 10 (by decide) (by decide) (by decide) (by decide) (by decide)).res (d := .val (.int .u32 24)) (by kernel_rfl)
  have a4 := (c_Pow 0 5 0 (by decide) (by decide) (by decide) (by decide) (by decide)).res (d := .val (.int .u32 1)) (by kernel_rfl)
  have a5 := (c_Add 3 4 0 (by decide) (by decide) (by decide) (by decide) (by decide) (by decide)).res (d := .val (.int .u32 0)) (by kernel_rfl)
  have f1 := c_lawOf nat64 1 2 (of_decide_eq_true (by kernel_rfl)) (by decide) (by decide) (by decide) (by decide) (by decide)
  have f2 := c_lawOf nat64 1 7 (of_decide_eq_true (by kernel_rfl)) (by decide) (by decide) (by decide) (by decide) (by decide)
  have f3 := c_lawOf nat64 7 2 (of_decide_eq_true (by kernel_rfl)) (by decide) (by decide) (by decide) (by decide) (by decide)
  have g1 := k_frac (((1 : Int) : Rat) / ((2 : Int) : Rat)) 7 4 true (of_decide_eq_true (by kernel_rfl)) (by decide) (by kernel_rfl)
  have g2 := k_frac (((1 : Int) : Rat) / ((7 : Int) : Rat)) 7 0 false (of_decide_eq_true (by kernel_rfl)) (by decide) (by kernel_rfl)
  have g3 := k_frac (((7 : Int) : Rat) / ((2 : Int) : Rat)) 7 0 true (of_decide_eq_true (by kernel_rfl)) (by decide) (by kernel_rfl)
  have z1 := c_iOf (-1) (by decide) (by decide)
  have z2 := (c_OfInt nat64 (-1) 7 (of_decide_eq_true (by kernel_rfl)) (by decide) (by decide)).res (d := .val (.int .u32 6)) (by kernel_rfl)
  refine callV (Z := []) tabOK mixedOK Tryz.func4 rfl (by kernel_rfl) rfl rfl (by kernel_rfl) rfl ?_
  intro W0 w0 ρ0 hE
  conv => whnf
  (repeat ((first | refine step_w1 rfl rfl ?_ | refine step_w2 rfl rfl ?_ | refine g_c (by assumption) ?_ | refine g_o (op_pickT rfl (ev_ok rfl) (ev_ok rfl)) ?_ | refine g_o (op_pickF rfl (ev_ok rfl) (ev_ok rfl)) ?_); conv => whnf)); exact Recast.refl _
end Go.Proofs.YtcaofdhffiifpaaGreatDoor

namespace Go.Proofs.YtcaofdhffiifpaaGreatDoor
open Go.Sx
set_option linter.unusedSimpArgs false
set_option linter.unusedVariables false
set_option maxRecDepth 100000
set_option maxHeartbeats 4000000

end Go.Proofs.YtcaofdhffiifpaaGreatDoor

namespace Go.Proofs.YtcaofdhffiifpaaGreatDoor
open Go.Sx
set_option linter.unusedSimpArgs false
set_option linter.unusedVariables false
set_option maxRecDepth 100000
set_option maxHeartbeats 4000000

end Go.Proofs.YtcaofdhffiifpaaGreatDoor

namespace Go.Proofs.YtcaofdhffiifpaaGreatDoor
open Go.Sx
set_option linter.unusedSimpArgs false
set_option linter.unusedVariables false
set_option maxRecDepth 100000
set_option maxHeartbeats 4000000

theorem eu_spec (a p : Int) (x y : Nat) (u v : Int) (h1 : p ∣ a * u - x) (h2 : p ∣ a * v - y) : (eu x y u v).1 = Nat.gcd x y ∧ p ∣ a * (eu x y u v).2 - (eu x y u v).1 := by
  induction y using Nat.strongRecOn generalizing x u v with
  | _ y ih =>
    rw [eu]
    split
    · rename_i h; subst h; exact ⟨by rw [Nat.gcd_zero_right], h1⟩
    · rename_i h
      have := ih (x % y) (Nat.mod_lt _ (Nat.pos_of_ne_zero h)) y v (u - (x / y : Nat) * v) h2 (by
        have e : a * (u - ((x / y : Nat) : Int) * v) - ((x % y : Nat) : Int) = (a * u - x) - ((x / y : Nat) : Int) * (a * v - y) := by
          have hd : (x : Int) = (y : Int) * ((x / y : Nat) : Int) + ((x % y : Nat) : Int) := by rw [← Int.natCast_mul, ← Int.natCast_add, Nat.div_add_mod]
          rw [Int.mul_sub, Int.mul_sub, Int.mul_left_comm a, Int.mul_comm ((x / y : Nat) : Int) y]
          omega
        rw [e]
        exact Int.dvd_sub h1 (Int.dvd_mul_of_dvd_right h2))
      refine ⟨?_, this.2⟩
      rw [this.1, Nat.gcd_comm y, ← Nat.gcd_rec, Nat.gcd_comm]

/-- What Inv gives. -/
theorem invF_spec {a p : Nat} (hp : p ≠ 0) : (Nat.gcd p (a % p) = 1 → (invF a p).2 = true ∧ 0 ≤ (invF a p).1 ∧ (invF a p).1 < p ∧ (a * (invF a p).1) % (p : Int) = 1 % (p : Int)) ∧ (Nat.gcd p (a % p) ≠ 1 → invF a p = (0, false)) := by
  obtain ⟨h1, h2⟩ := eu_spec a p p (a % p) 0 1 (by rw [Int.mul_zero, Int.zero_sub]; exact Int.dvd_neg.2 (Int.dvd_refl _)) (by
    rw [Int.mul_one]
    have := Nat.div_add_mod a p
    exact ⟨((a / p : Nat) : Int), by rw [← Int.natCast_mul]; omega⟩)
  unfold invF
  rw [if_neg hp]
  simp only []
  rw [h1] at h2 ⊢
  constructor
  · intro hg
    rw [hg] at h2 ⊢
    rw [if_pos rfl]
    have hpp : (0 : Int) < p := by omega
    refine ⟨rfl, Int.emod_nonneg _ (by omega), Int.emod_lt_of_pos _ hpp, ?_⟩
    rw [Int.mul_emod, Int.emod_emod_of_dvd _ (Int.dvd_refl _), ← Int.mul_emod]
    obtain ⟨c, hc⟩ := h2
    rw [show (a : Int) * (eu p (a % p) 0 1).2 = 1 + p * c from by omega, Int.add_mul_emod_self_left]
  · intro hg
    rw [if_neg hg]

theorem md_nat' {n p : Int} (hp : p ≠ 0) : md n p = n % p := by simp [md, hp]

end Go.Proofs.YtcaofdhffiifpaaGreatDoor

namespace Go.Proofs.YtcaofdhffiifpaaGreatDoor
open Go.Sx
set_option linter.unusedSimpArgs false
set_option linter.unusedVariables false
set_option maxRecDepth 100000
set_option maxHeartbeats 4000000
variable {M : Nat}

theorem c_fFrom (ok : NatOK M) (n : Int) (d : Nat) (h1 : sz n.natAbs ≤ M) (h2 : sz d ≤ M) (hd : d ≠ 0) : CallOK Tryz.prog 25 [.int n, .nat d] [] (.tup [.frac (mkRat n d), .val (.int .i64 0)]) [] [] := by
  have k1 := c_lowest ok n d h1 h2 hd
  refine callV (Z := []) tabOK mixedOK Tryz.func25 rfl (by kernel_rfl) rfl rfl (by kernel_rfl) rfl ?_
  intro W0 w0 ρ0 hE
  conv => whnf
  skip
  refine ⟨_, op_eqAgg tabOK goodOK rfl (ev_ok rfl) (ev_ok rfl) rfl rfl rfl rfl (eqTy_nat d 0) guard_nat, ?_⟩
  rw [decide_eq_false hd]
  conv => whnf
  (repeat (first | (refine step_w2 rfl rfl ?_; conv => whnf) | (refine g_c (by assumption) ?_; conv => whnf))); exact Recast.refl _
theorem c_Made (ok : NatOK M) (xs : List Int) (hl : xs.length < 1099511627776) (hx : W32 xs) (hM : 32 * xs.length + 33 ≤ M) :
    CallOK Tryz.prog 39 [ivec .u32 xs] [] (.nat (valI xs xs.length).toNat) [] [] := by
  refine callV (Z := []) tabOK mixedOK Tryz.func39 rfl (by kernel_rfl) rfl rfl (by kernel_rfl) rfl ?_
  intro W0 w0 ρ0 hE
  conv => whnf
  have e0 : Hid (IntKind.i64.wrap ((xs.length : Int) - 1) = (xs.length : Int) - 1) := show IntKind.i64.wrap ((xs.length : Int) - 1) = (xs.length : Int) - 1 from wrap_i64 (by omega) (by omega)
  (repeat (first | (refine g_o (op_lenM rfl rfl rfl (ev_ok rfl) (tgt rfl) rfl) ?_; conv => whnf) | (rw [e0.out]; conv => whnf)))
  refine SW_loopN hE (fun k => k) [0, 2, 3, 4] [2, 3] (fun j fr hp => ∃ (o : Nat), j ≤ xs.length ∧ (o : Int) * 4294967296 ^ j + valI xs j = valI xs xs.length ∧ sz o ≤ 32 * (xs.length - j) ∧
    fr = [(0, ivec .u32 xs), (2, .ptr 2 0 0 0), (3, .ptr 3 0 0 0), (4, .val (.int .i64 ((j : Int) - 1)))] ∧ hp = [(2, ⟨33, true, .one [.nat 0]⟩), (3, ⟨33, true, .one [.nat o]⟩)]) xs.length ?_ ?_ ?_
  · kernel_rfl
  · exact ⟨0, Nat.le_refl _, by simp, by rw [sz_zero]; omega, rfl, rfl⟩
  rintro j _ _ ⟨o, hj, hval, ho, rfl, rfl⟩
  by_cases h0 : j = 0
  · subst h0
    have t1 : Hid (decide (((0 : Nat) : Int) - 1 ≥ 0) = false) := show decide (((0 : Nat) : Int) - 1 ≥ 0) = false from rfl
    have e : (valI xs xs.length).toNat = o := by rw [← hval, Int.pow_zero, valI]; omega
    rw [e]
    conv => whnf
    (repeat (first | (refine step_w2 rfl rfl ?_; conv => whnf)))
    exact Recast.refl _
  · obtain ⟨k, rfl⟩ : ∃ k, j = k + 1 := ⟨j - 1, by omega⟩
    obtain ⟨w, hw⟩ := Int.eq_ofNat_of_zero_le (hx k).1
    have hw2 := (hx k).2
    have t1 : Hid (decide (((k + 1 : Nat) : Int) - 1 ≥ 0) = true) := show decide (((k + 1 : Nat) : Int) - 1 ≥ 0) = true from decide_eq_true (by omega)
    have i1 : Hid (((k + 1 : Nat) : Int) - 1 = (k : Int)) := show ((k + 1 : Nat) : Int) - 1 = (k : Int) from by omega
    have i3 : Hid (xs.getD k 0 = (w : Int)) := show xs.getD k 0 = (w : Int) from hw
    have i4 : Hid (IntKind.u64.wrap (w : Int) = (w : Int)) := show IntKind.u64.wrap (w : Int) = (w : Int) from wu64 (by omega)
    have i5 : Hid (IntKind.i64.wrap ((k : Int) - 1) = (k : Int) - 1) := show IntKind.i64.wrap ((k : Int) - 1) = (k : Int) - 1 from wrap_i64 (by omega) (by omega)
    have s33 : sz 4294967296 = 33 := by kernel_rfl
    have k1 := c_nOf 4294967296 (by decide)
    have k2 := ok.mul o 4294967296 (by omega)
    have k3 := c_nOf w (by omega)
    have hs : sz (o * 4294967296 + w) ≤ 32 * (xs.length - k) := by
      refine sz_le.2 ?_
      have h1 := sz_le.1 ho
      have h2 : 2 ^ (32 * (xs.length - k)) = 2 ^ (32 * (xs.length - (k + 1))) * 4294967296 := by rw [show 32 * (xs.length - k) = 32 * (xs.length - (k + 1)) + 32 from by omega, Nat.pow_add]
      omega
    have k4 := ok.add (o * 4294967296) w (by omega)
    conv => whnf
    (repeat ((first | refine step_w1 rfl rfl ?_ | refine step_i (by kernel_rfl) ?_ | refine g_c (by assumption) ?_ | refine g_o (op_loadA rfl (ev_ok rfl) (tgt rfl) rfl (Nat.succ_ne_zero _) rfl) ?_ | refine g_o (op_indexM (α := Int) (d := 0) rfl (ev_ok rfl) (ev_ok rfl) (tgt rfl) rfl (tgt rfl) rfl (by omega)) ?_ | rw [t1.out] | rw [i1.out] | rw [i3.out] | rw [i4.out] | rw [Int.toNat_natCast]); conv => whnf))
    rw [i5.out]
    refine ⟨k, fun k => k, [0, 2, 3, 4], [2, 3], by omega, by kernel_rfl, o * 4294967296 + w, by omega, ?_, hs, rfl, rfl⟩
    rw [valI, hw, Int.pow_succ] at hval
    rw [← hval, Int.natCast_add, Int.natCast_mul]
    generalize (4294967296 : Int) ^ k = P
    generalize valI xs k = v
    grind
/-- The words of a great integer; its number. -/
abbrev zV : Bool × List Int → SV := ag2 bel (ivec .u32)
def zI (z : Bool × List Int) : Int := signed z.1 (valI z.2 z.2.length).toNat
abbrev gV : (Bool × List Int) × List Int → SV := ag2 zV (ivec .u32)
def gQ (g : (Bool × List Int) × List Int) : Rat := mkRat (zI g.1) ((valI g.2 g.2.length).toNat + 1)

/-- Few words. -/
structure Words (M : Nat) (xs : List Int) : Prop where
  w32 : W32 xs
  len : xs.length < 1099511627776
  fit : 32 * xs.length + 33 ≤ M

theorem c_ZOf (ok : NatOK M) (z : Bool × List Int) (h : Words M z.2) : CallOK Tryz.prog 10 [zV z] [] (.int (zI z)) [] [] := by
  have k1 := c_Made ok z.2 h.len h.w32 h.fit
  have k2 := c_From z.1 (valI z.2 z.2.length).toNat
  refine callV (Z := []) tabOK mixedOK Tryz.func10 rfl (by kernel_rfl) rfl rfl (by kernel_rfl) rfl ?_
  intro W0 w0 ρ0 hE
  conv => whnf
  (repeat (first | (refine step_i (by kernel_rfl) ?_; conv => whnf) | (refine g_c (by assumption) ?_; conv => whnf)))
  exact Recast.refl _
theorem sz_val {xs : List Int} (hx : W32 xs) (n : Nat) : sz (valI xs n).toNat ≤ 32 * n := by
  refine sz_le.2 ?_
  have h1 := valI_lt hx n
  have h2 := valI_nonneg hx n
  rw [← natPowW] at h1
  rw [Nat.pow_mul]
  have : (2 : Nat) ^ 32 = 4294967296 := rfl
  rw [this]
  omega
theorem sz_zI {z : Bool × List Int} (h : W32 z.2) : sz (zI z).natAbs ≤ 32 * z.2.length := by rw [zI, signed_abs]; exact sz_val h _

theorem c_gden (g : (Bool × List Int) × List Int) : CallOK Tryz.prog 28 [gV g] [] (zV (false, g.2)) [] [] := by
  refine callF (Z := []) tabOK mixedOK Tryz.func28 rfl (by kernel_rfl) (by first | rfl | (simp [keylessL, keyless, keylessL_map, *]; done)) (by first | rfl | (simp [keylessL, keyless, keylessL_map, *]; done)) (by kernel_rfl) rfl ?_
  intro w0 ρ0 hE
  conv => whnf
  skip; (first | exact Recast.refl _ | exact Frz.recast (Recast.refl _) rfl | (refine Frz.one rfl rfl ?_; skip) | (refine Frz.tup ?_; skip))

theorem c_GreatOf (ok : NatOK M) (g : (Bool × List Int) × List Int) (h1 : Words M g.1.2) (h2 : Words M g.2) : CallOK Tryz.prog 6 [gV g] [] (.frac (gQ g)) [] [] := by
  have s1 := sz_zI h1.w32
  have s2 := sz_val h2.w32 g.2.length
  have f1 := h1.fit
  have f2 := h2.fit
  have k1 := c_ZOf ok g.1 h1
  have k2 := c_gden g
  have k3 := c_ZOf ok (false, g.2) h2
  have k4 := c_Abs (zI (false, g.2))
  rw [show (zI (false, g.2)).natAbs = (valI g.2 g.2.length).toNat from signed_abs _ _] at k4
  have k5 := c_nOf 1 (by decide)
  have hs1 : sz ((valI g.2 g.2.length).toNat + 1) ≤ M := Nat.le_trans (sz_add (k := 32 * g.2.length + 1) (by omega) (by rw [sz_one]; omega)) (by omega)
  have k6 := ok.add (valI g.2 g.2.length).toNat 1 hs1
  have k7 := c_fFrom ok (zI g.1) ((valI g.2 g.2.length).toNat + 1) (by omega) hs1 (Nat.succ_ne_zero _)
  refine callV (Z := []) tabOK mixedOK Tryz.func6 rfl (by kernel_rfl) rfl rfl (by kernel_rfl) rfl ?_
  intro W0 w0 ρ0 hE
  conv => whnf
  (repeat (first | (refine step_i (by kernel_rfl) ?_; conv => whnf) | (refine g_c (by assumption) ?_; conv => whnf)))
  exact Recast.refl _
end Go.Proofs.YtcaofdhffiifpaaGreatDoor

namespace Go.Proofs.YtcaofdhffiifpaaGreatDoor
open Go.Sx
set_option linter.unusedSimpArgs false
set_option linter.unusedVariables false
set_option maxRecDepth 100000
set_option maxHeartbeats 4000000

end Go.Proofs.YtcaofdhffiifpaaGreatDoor

namespace Go.Proofs.YtcaofdhffiifpaaGreatDoor
open Go.Sx
set_option linter.unusedSimpArgs false
set_option linter.unusedVariables false
set_option maxRecDepth 100000
set_option maxHeartbeats 4000000

theorem r6_Of (n p : Int) (h1 : 0 ≤ n) (h3 : 0 ≤ p) (h4 : p < 4294967296) :
    CallOK Tryz.prog 33 [.val (.int .u64 n), .val (.int .u32 p)] [] (.val (.int .u32 (md n p))) [] [] := by
  refine callV (Z := []) tabOK mixedOK Tryz.func33 rfl (by kernel_rfl) rfl rfl (by kernel_rfl) rfl ?_
  intro W0 w0 ρ0 hE
  conv => whnf
  refine ⟨fun h => ?_, fun h => ?_⟩
  · conv => whnf
    have h : p = 0 := by simpa using h
    simp only [md, h, if_true]
    exact Recast.refl _
  · conv => whnf
    have h : p ≠ 0 := by simpa using h
    have e1 : IntKind.u64.wrap p = p := wrap_u64 h3 (by omega)
    refine ⟨by rw [e1]; exact h, ?_⟩
    conv => whnf
    rw [e1, Int.tmod_eq_emod_of_nonneg h1, wrap_u32 (Int.emod_nonneg _ h) (by have := Int.emod_lt_of_pos n (show 0 < p by omega); omega)]
    simp only [md, h, if_false]
    exact Recast.refl _

theorem invF_unique {a p : Nat} (hp : p ≠ 0) {v : Int} (hg : Nat.gcd p (a % p) = 1) (h0 : 0 ≤ v) (h1 : v < p) (hv : (p : Int) ∣ a * v - 1) : invF a p = (v, true) := by
  obtain ⟨w2, w0, w1, w3⟩ := (invF_spec (a := a) hp).1 hg
  have hw : (p : Int) ∣ a * (invF a p).1 - 1 := by
    refine Int.dvd_of_emod_eq_zero ?_
    rw [Int.sub_emod, w3, Int.sub_self]; rfl
  generalize invF a p = iv at *
  obtain ⟨w, b⟩ := iv
  simp only [] at w0 w1 w2 w3 hw
  have hd : (p : Int) ∣ v - w := by
    have e : v - w = w * (a * v - 1) - v * (a * w - 1) := by grind
    rw [e]
    exact Int.dvd_sub (Int.dvd_mul_of_dvd_right hv) (Int.dvd_mul_of_dvd_right hw)
  have : v - w = 0 := Int.eq_zero_of_dvd_of_natAbs_lt_natAbs hd (by omega)
  rw [show w = v from by omega, w2]
theorem r6_OfInt (z p : Int) (hz : (td z.natAbs).length < 134217728) (h3 : 0 ≤ p) (h4 : p < 4294967296) :
    CallOK Tryz.prog 11 [zZ z, .val (.int .u32 p)] [] (.val (.int .u32 (md z p))) [] [] := by
  by_cases h0 : p = 0
  · subst h0
    have t1 : ((0 : Int) == 0) = true := rfl
    rw [show md z 0 = 0 from rfl]
    refine callV (Z := []) tabOK mixedOK Tryz.func11 rfl (by kernel_rfl) rfl rfl (by kernel_rfl) rfl ?_
    intro W0 w0 ρ0 hE
    conv => whnf
    (repeat (first | (refine step_w1 rfl rfl ?_; conv => whnf))); (first | exact Recast.refl _ | exact Frz.recast (Recast.refl _) rfl | (refine Frz.one rfl rfl ?_; skip) | (refine Frz.tup ?_; skip))
  have t1 : (p == 0) = false := beq_false_of_ne h0
  have e1 : IntKind.i64.wrap p = p := wrap_i64 (by omega) (by omega)
  have k1 := r2_Of p (by omega) (by omega)
  have hpl : (td p.natAbs).length < 134217728 := Nat.lt_of_le_of_lt (tlen_le (k := 3) (by omega)) (by decide)
  have k2 := r2_Div z p h0 hz hpl
  have b0 := Int.emod_nonneg z h0
  have b1 := Int.emod_lt_of_pos z (show 0 < p by omega)
  rw [md_nat' h0]
  generalize z % p = R at *
  obtain ⟨r, rfl⟩ := Int.eq_ofNat_of_zero_le b0
  have hrl : (td r).length ≤ 3 := tlen_le (by omega)
  have er : (Int.natAbs (r : Int)) = r := Int.natAbs_natCast r
  refine callV (Z := [2]) tabOK mixedOK Tryz.func11 rfl (by kernel_rfl) rfl rfl (by kernel_rfl) rfl ?_
  intro W0 w0 ρ0 hE
  conv => whnf
  have e2 : IntKind.i64.wrap (((td r).length : Int) - 1) = ((td r).length : Int) - 1 := wrap_i64 (by omega) (by omega)
  (repeat ((first | refine step_w2 rfl rfl ?_ | refine step_i (by kernel_rfl) ?_ | refine g_c (by assumption) ?_ | refine g_o (op_lenM rfl rfl rfl (ev_ok rfl) (tgt rfl) rfl) ?_ | refine g_o (op_loadA rfl (ev_ok rfl) (tgt rfl) rfl (Nat.succ_ne_zero _) rfl) ?_ | rw [t1] | rw [e1] | rw [e2] | rw [er] | rw [Nat.zero_add]); conv => whnf))
  refine SW_loopN hE (fun k => k) [1, 6, 7, 8] [5, 6] (fun m fr hp => m ≤ (td r).length ∧ fr = [(1, .val (.int .u32 p)), (6, .ptr 6 0 0 0), (7, .val (.int .u64 ((r / 10000 ^ m : Nat) : Int))), (8, .val (.int .i64 ((m : Int) - 1)))] ∧ hp = [(5, ⟨45, true, .one [.val (.bool (decide (z / p < 0))), nN (z / p).natAbs]⟩), (6, ⟨45, true, .one [.val (.bool (decide ((r : Int) < 0))), nN r]⟩)]) (td r).length ?_ ?_ ?_
  · kernel_rfl
  · refine ⟨Nat.le_refl _, ?_, rfl⟩
    rw [Nat.div_eq_of_lt (tlt_len r)]; rfl
  rintro m _ _ ⟨hm, rfl, rfl⟩
  conv => whnf
  by_cases hz0 : m = 0
  · subst hz0
    have t2 : decide (((0 : Nat) : Int) - 1 ≥ 0) = false := rfl
    have e3 : IntKind.u32.wrap ((r / 10000 ^ 0 : Nat) : Int) = (r : Int) := by rw [Nat.pow_zero, Nat.div_one]; exact wrap_u32 (by omega) (by omega)
    (repeat (first | (refine step_w2 rfl rfl ?_; conv => whnf) | (rw [e3]; conv => whnf))); (first | exact Recast.refl _ | exact Frz.recast (Recast.refl _) rfl | (refine Frz.one rfl rfl ?_; skip) | (refine Frz.tup ?_; skip))
  · obtain ⟨i, rfl⟩ : ∃ i, m = i + 1 := ⟨m - 1, by omega⟩
    have ei : (((i + 1 : Nat) : Int) - 1) = (i : Int) := by omega
    rw [ei]
    have hst := div_pow_step r i
    have hdig : (td r).getD i 0 = ((r / 10000 ^ i % 10000 : Nat) : Int) := td_get r i
    have hdlt : r / 10000 ^ i % 10000 < 10000 := Nat.mod_lt _ (by decide)
    have hle : r / 10000 ^ (i + 1) ≤ r := Nat.div_le_self _ _
    have t2 : decide ((i : Int) ≥ 0) = true := decide_eq_true (by omega)
    generalize r / 10000 ^ i % 10000 = d at *
    generalize r / 10000 ^ (i + 1) = q at *
    have e3 : IntKind.u64.wrap ((q : Int) * 10000) = (q : Int) * 10000 := wrap_u64 (by omega) (by omega)
    have e4 : IntKind.u64.wrap (d : Int) = (d : Int) := wrap_u64 (by omega) (by omega)
    have e5 : IntKind.u64.wrap ((q : Int) * 10000 + d) = ((10000 * q + d : Nat) : Int) := by rw [wrap_u64 (by omega) (by omega)]; omega
    have e6 : IntKind.i64.wrap ((i : Int) - 1) = (i : Int) - 1 := wrap_i64 (by omega) (by omega)
    (repeat ((first | refine step_w1 rfl rfl ?_ | refine g_o (op_loadA rfl (ev_ok rfl) (tgt rfl) rfl (Nat.succ_ne_zero _) rfl) ?_ | refine g_o (op_indexN (α := Int) (d := 0) rfl (ev_ok rfl) (ev_ok rfl) (tgt rfl) rfl (tgt rfl) rfl (by omega)) ?_ | rw [t2] | rw [hdig] | rw [e3] | rw [e4] | rw [e5] | rw [e6] | rw [Nat.zero_add]); conv => whnf))
    exact ⟨i, fun k => k, [1, 6, 7, 8], [5, 6], by omega, by kernel_rfl, by omega, by rw [hst]; rfl, rfl⟩
theorem r6_Inv (a p : Nat) (ha : a < 4294967296) (hp : p < 4294967296) :
    CallOK Tryz.prog 30 [.val (.int .u32 a), .val (.int .u32 p)] [] (.tup [.val (.int .u32 (invF a p).1), .val (.bool (invF a p).2)]) [] [] := by
  by_cases h0 : p = 0
  · subst h0
    have t1 : (((0 : Nat) : Int) == 0) = true := rfl
    have e : invF a 0 = (0, false) := by simp [invF]
    rw [e]
    refine callV (Z := []) tabOK mixedOK Tryz.func30 rfl (by kernel_rfl) rfl rfl (by kernel_rfl) rfl ?_
    intro W0 w0 ρ0 hE
    conv => whnf
    (repeat (first | (refine step_w1 rfl rfl ?_; conv => whnf))); (first | exact Recast.refl _ | exact Frz.recast (Recast.refl _) rfl | (refine Frz.one rfl rfl ?_; skip) | (refine Frz.tup ?_; skip))
  have t1 : ((p : Int) == 0) = false := beq_false_of_ne (by omega)
  by_cases h1 : p = 1
  · subst h1
    have t2 : (((1 : Nat) : Int) == 1) = true := rfl
    have e : invF a 1 = (0, true) := invF_unique (by decide) (Nat.gcd_one_left _) (by decide) (by decide) ⟨(a : Int) * 0 - 1, by simp⟩
    rw [e]
    refine callV (Z := []) tabOK mixedOK Tryz.func30 rfl (by kernel_rfl) rfl rfl (by kernel_rfl) rfl ?_
    intro W0 w0 ρ0 hE
    conv => whnf
    (repeat (first | (refine step_w1 rfl rfl ?_; conv => whnf) | (refine step_w2 rfl rfl ?_; conv => whnf))); (first | exact Recast.refl _ | exact Frz.recast (Recast.refl _) rfl | (refine Frz.one rfl rfl ?_; skip) | (refine Frz.tup ?_; skip))
  have t2 : ((p : Int) == 1) = false := beq_false_of_ne (by omega)
  have hm : md (a : Int) p = ((a % p : Nat) : Int) := by rw [md_nat' (by omega)]; rfl
  have k1 := r6_Of (a : Int) p (by omega) (by omega) (by omega)
  rw [hm] at k1
  have hlt : a % p < p := Nat.mod_lt _ (by omega)
  have hd := Nat.div_add_mod a p
  obtain ⟨g1, g2, g3, g4⟩ := gqF_spec (p + 1) ((a % p : Nat) : Int) p (by omega) (by omega) (by omega)
  have hgg : Int.gcd ((a % p : Nat) : Int) (p : Int) = Nat.gcd p (a % p) := Nat.gcd_comm (a % p) p
  rw [hgg] at g1
  have k4 := r2_Gcd (p + 1) ((a % p : Nat) : Int) p (by omega) (by omega) (by omega) (by omega) (by omega)
  have hI : Nat.gcd p (a % p) = 1 → ∀ v : Int, v = (gqF (p + 1) ((a % p : Nat) : Int) p).2.1 → invF a p = (md v p, true) := by
    intro hg v hv
    rw [hg] at g1
    rw [g1, ← hv] at g2
    rw [md_nat' (by omega)]
    refine invF_unique h0 hg (Int.emod_nonneg _ (by omega)) (Int.emod_lt_of_pos _ (by omega)) ?_
    have hx := Int.mul_ediv_add_emod v p
    refine ⟨((a / p : Nat) : Int) * v - (gqF (p + 1) ((a % p : Nat) : Int) p).2.2 - a * (v / p), ?_⟩
    generalize (gqF (p + 1) ((a % p : Nat) : Int) p).2.2 = y at *
    have hd' : (p : Int) * ((a / p : Nat) : Int) + ((a % p : Nat) : Int) = a := by rw [← Int.natCast_mul, ← Int.natCast_add, hd]
    generalize v / (p : Int) = vq at *
    generalize v % (p : Int) = vr at *
    generalize ((a / p : Nat) : Int) = aq at *
    generalize ((a % p : Nat) : Int) = ar at *
    generalize (a : Int) = A at *
    generalize (p : Int) = P at *
    clear k1 k4 g3 g4 hm hv
    grind
  have hgl : Nat.gcd p (a % p) ≤ p := Nat.le_of_dvd (by omega) (Nat.gcd_dvd_left _ _)
  have hN := (invF_spec (a := a) h0).2
  generalize hgn : Nat.gcd p (a % p) = gn at *
  generalize gqF (p + 1) ((a % p : Nat) : Int) p = gg at *
  obtain ⟨g, x, y⟩ := gg
  simp only [] at g1 g2 g3 g4 hI
  subst g1
  have e1 : IntKind.u64.wrap (a : Int) = a := wrap_u64 (by omega) (by omega)
  have e2 : IntKind.i64.wrap ((a % p : Nat) : Int) = ((a % p : Nat) : Int) := wrap_i64 (by omega) (by omega)
  have e3 : IntKind.i64.wrap (p : Int) = p := wrap_i64 (by omega) (by omega)
  have k2 := r2_Of ((a % p : Nat) : Int) (by omega) (by omega)
  have k3 := r2_Of (p : Int) (by omega) (by omega)
  have k5 := r2_Of 1 (by decide) (by decide)
  have hl : (td gn).length < 536870912 := Nat.lt_of_le_of_lt (tlen_le (k := 3) (by omega)) (by decide)
  have k6 := r2_Cmp (gn : Int) 1 hl (by decide)
  have hxl : (td x.natAbs).length < 134217728 := Nat.lt_of_le_of_lt (tlen_le (k := 3) (by omega)) (by decide)
  have k7 := r6_OfInt x p hxl (by omega) (by omega)
  by_cases hg : gn = 1
  · have t3 : (((gn : Int) - 1).sign != 0) = false := by subst hg; rfl
    rw [hI hg x rfl]
    generalize a % p = ar at *
    clear hI hN
    refine callV (Z := []) tabOK mixedOK Tryz.func30 rfl (by kernel_rfl) rfl rfl (by kernel_rfl) rfl ?_
    intro W0 w0 ρ0 hE
    conv => whnf
    (repeat ((first | refine step_w2 rfl rfl ?_ | refine step_i (by kernel_rfl) ?_ | refine g_c (by assumption) ?_ | rw [t1] | rw [t2] | rw [e1] | rw [e2] | rw [e3] | rw [t3]); conv => whnf)); (first | exact Recast.refl _ | exact Frz.recast (Recast.refl _) rfl | (refine Frz.one rfl rfl ?_; skip) | (refine Frz.tup ?_; skip))
  · have t3 : (((gn : Int) - 1).sign != 0) = true := bne_iff_ne.2 (fun h => hg (by have := Int.sign_eq_zero_iff_zero.1 h; omega))
    rw [hN hg]
    generalize a % p = ar at *
    clear hI hN
    refine callV (Z := []) tabOK mixedOK Tryz.func30 rfl (by kernel_rfl) rfl rfl (by kernel_rfl) rfl ?_
    intro W0 w0 ρ0 hE
    conv => whnf
    (repeat ((first | refine step_w1 rfl rfl ?_ | refine step_w2 rfl rfl ?_ | refine step_i (by kernel_rfl) ?_ | refine g_c (by assumption) ?_ | rw [t1] | rw [t2] | rw [e1] | rw [e2] | rw [e3] | rw [t3]); conv => whnf)); (first | exact Recast.refl _ | exact Frz.recast (Recast.refl _) rfl | (refine Frz.one rfl rfl ?_; skip) | (refine Frz.tup ?_; skip))

theorem r6_OfFrac (q : Rat) (p : Nat) (hq : fs q < 100000000) (hp : p < 4294967296) :
    CallOK Tryz.prog 7 [fF q, .val (.int .u32 p)] [] (.tup [.val (.int .u32 (ofFracF q p).1), .val (.bool (ofFracF q p).2)]) [] [] := by
  obtain ⟨a1, a2⟩ := tl_fs (q := q) (Nat.le_refl _)
  have k1 := r3_Den q (by omega)
  have k2 := r2_From' (neg := false) (n := q.den) (z := (q.den : Int)) rfl (by omega)
  have k3 := r6_OfInt q.den p (by rw [Int.natAbs_natCast]; omega) (by omega) (by omega)
  rw [md_nat] at k3
  have k4 := r6_Inv (mdN q.den p) p (mdN_le hp) hp
  have k5 := r6_OfInt q.num p (by omega) (by omega) (by omega)
  obtain ⟨b1, b2⟩ := invF_bd (a := mdN q.den p) hp
  have h5 := md_bd (n := q.num) (p := p) (by omega)
  have hr : ofFracF q p = if (invF (mdN q.den p) p).2 then (md (md q.num p * (invF (mdN q.den p) p).1) p, true) else (0, false) := rfl
  rw [hr]
  generalize invF (mdN q.den p) p = iv at *
  obtain ⟨v, b⟩ := iv
  simp only [] at b1 b2
  generalize md q.num p = x at *
  have h6 : 0 ≤ x * v := Int.mul_nonneg h5.1 b1
  have h7 : x * v ≤ 4294967295 * 4294967295 := Int.mul_le_mul (by omega) (by omega) b1 (by omega)
  have k6 := r6_Of (x * v) p h6 (by omega) (by omega)
  have e1 : IntKind.u64.wrap x = x := wrap_u64 h5.1 (by omega)
  have e2 : IntKind.u64.wrap v = v := wrap_u64 b1 (by omega)
  have e3 : IntKind.u64.wrap (x * v) = x * v := wrap_u64 h6 (by omega)
  clear h6 h7
  refine callV (Z := [2]) tabOK mixedOK Tryz.func7 rfl (by kernel_rfl) rfl rfl (by kernel_rfl) rfl ?_
  intro W0 w0 ρ0 hE
  conv => whnf
  cases b
  · (repeat (first | (refine step_w1 rfl rfl ?_; conv => whnf) | (refine g_c (by assumption) ?_; conv => whnf) | (refine g_o (op_loadA rfl (ev_ok rfl) (tgt rfl) rfl (Nat.succ_ne_zero _) rfl) ?_; conv => whnf))); (first | exact Recast.refl _ | exact Frz.recast (Recast.refl _) rfl | (refine Frz.one rfl rfl ?_; skip) | (refine Frz.tup ?_; skip))
  · (repeat ((first | refine step_w2 rfl rfl ?_ | refine g_c (by assumption) ?_ | refine g_o (op_loadA rfl (ev_ok rfl) (tgt rfl) rfl (Nat.succ_ne_zero _) rfl) ?_ | refine g_o (op_fieldA rfl (ev_ok rfl) (tgt rfl) rfl rfl (Nat.succ_ne_zero _) rfl) ?_ | rw [e1] | rw [e2] | rw [e3]); conv => whnf)); (first | exact Recast.refl _ | exact Frz.recast (Recast.refl _) rfl | (refine Frz.one rfl rfl ?_; skip) | (refine Frz.tup ?_; skip))
end Go.Proofs.YtcaofdhffiifpaaGreatDoor

namespace Go.Proofs.YtcaofdhffiifpaaGreatDoor
open Go.Sx
set_option linter.unusedSimpArgs false
set_option linter.unusedVariables false
set_option maxRecDepth 100000
set_option maxHeartbeats 4000000

theorem r_OfWords (xs : List Int) (hl : xs.length ≤ 1000) (hx : W32 xs) :
    CallOK Tryz.prog 41 [ivec .u32 xs] [] (nN (valI xs xs.length).toNat) [] [] := by
  refine callF (Z := []) tabOK mixedOK Tryz.func41 rfl (by kernel_rfl) (by first | rfl | (simp [keylessL, keyless, keylessL_map, *]; done)) (by first | rfl | (simp [keylessL, keyless, keylessL_map, *]; done)) (by kernel_rfl) rfl ?_
  intro w0 ρ0 hE
  conv => whnf
  have e0 : Hid (IntKind.i64.wrap ((xs.length : Int) - 1) = (xs.length : Int) - 1) := show IntKind.i64.wrap ((xs.length : Int) - 1) = (xs.length : Int) - 1 from wrap_i64 (by omega) (by omega)
  (repeat (first | (refine g_o (op_lenM rfl rfl rfl (ev_ok rfl) (tgt rfl) rfl) ?_; conv => whnf) | (rw [e0.out]; conv => whnf)))
  refine SWx_adopt (t := 3) (k := 2001) (s := 1) (blk := zblk []) rfl rfl rfl ?_
  refine SWx_frzI 3 2001 (fun _ h => h) rfl rfl rfl ?_
  refine SW_loopN hE (fun k => k) [0, 3, 4] [] (fun j fr hp => ∃ (o : Nat), j ≤ xs.length ∧ (o : Int) * 4294967296 ^ j + valI xs j = valI xs xs.length ∧ sz o ≤ 32 * (xs.length - j) ∧
    fr = [(0, ivec .u32 xs), (3, nN o), (4, .val (.int .i64 ((j : Int) - 1)))] ∧ hp = []) xs.length ?_ ?_ ?_
  · kernel_rfl
  · exact ⟨0, Nat.le_refl _, by simp, by rw [sz_zero]; omega, rfl, rfl⟩
  rintro j _ _ ⟨o, hj, hval, ho, rfl, rfl⟩
  by_cases h0 : j = 0
  · subst h0
    have t1 : Hid (decide (((0 : Nat) : Int) - 1 ≥ 0) = false) := show decide (((0 : Nat) : Int) - 1 ≥ 0) = false from rfl
    have e : (valI xs xs.length).toNat = o := by rw [← hval, Int.pow_zero, valI]; omega
    rw [e]
    conv => whnf
    (repeat (first | (refine step_w2 rfl rfl ?_; conv => whnf))); (first | exact Recast.refl _ | exact Frz.recast (Recast.refl _) rfl | (refine Frz.one rfl rfl ?_; skip) | (refine Frz.tup ?_; skip))
  · obtain ⟨k, rfl⟩ : ∃ k, j = k + 1 := ⟨j - 1, by omega⟩
    obtain ⟨w, hw⟩ := Int.eq_ofNat_of_zero_le (hx k).1
    have hw2 := (hx k).2
    have t1 : Hid (decide (((k + 1 : Nat) : Int) - 1 ≥ 0) = true) := show decide (((k + 1 : Nat) : Int) - 1 ≥ 0) = true from decide_eq_true (by omega)
    have i1 : Hid (((k + 1 : Nat) : Int) - 1 = (k : Int)) := show ((k + 1 : Nat) : Int) - 1 = (k : Int) from by omega
    have i3 : Hid (xs.getD k 0 = (w : Int)) := show xs.getD k 0 = (w : Int) from hw
    have i4 : Hid (IntKind.u64.wrap (w : Int) = (w : Int)) := show IntKind.u64.wrap (w : Int) = (w : Int) from wu64 (by omega)
    have i5 : Hid (IntKind.i64.wrap ((k : Int) - 1) = (k : Int) - 1) := show IntKind.i64.wrap ((k : Int) - 1) = (k : Int) - 1 from wrap_i64 (by omega) (by omega)
    have ol : (td o).length ≤ 32000 := tl_sz (Nat.le_trans ho (by omega))
    have wl : (td w).length ≤ 3 := tlen_le (by omega)
    have fl : (td 4294967296).length ≤ 3 := tlen_le (by decide)
    have ml : (td (o * 4294967296)).length ≤ 32003 := Nat.le_trans tl_mul (by omega)
    have k1 := r_Of 4294967296 (by decide)
    have k2 := r_Mul o 4294967296 (by omega) (by omega)
    have k3 := r_Of w (by omega)
    have hs : sz (o * 4294967296 + w) ≤ 32 * (xs.length - k) := by
      refine sz_le.2 ?_
      have h1 := sz_le.1 ho
      have h2 : 2 ^ (32 * (xs.length - k)) = 2 ^ (32 * (xs.length - (k + 1))) * 4294967296 := by rw [show 32 * (xs.length - k) = 32 * (xs.length - (k + 1)) + 32 from by omega, Nat.pow_add]
      omega
    have k4 := r_Add (o * 4294967296) w (by omega) (by omega)
    conv => whnf
    (repeat ((first | refine step_w1 rfl rfl ?_ | refine step_i (by kernel_rfl) ?_ | refine g_c (by assumption) ?_ | refine g_o (op_loadA rfl (ev_ok rfl) (tgt rfl) rfl (Nat.succ_ne_zero _) rfl) ?_ | refine g_o (op_indexM (α := Int) (d := 0) rfl (ev_ok rfl) (ev_ok rfl) (tgt rfl) rfl (tgt rfl) rfl (by omega)) ?_ | rw [t1.out] | rw [i1.out] | rw [i3.out] | rw [i4.out] | rw [Int.toNat_natCast]); conv => whnf))
    rw [i5.out]
    refine ⟨k, fun k => k, [0, 3, 4], [], by omega, by kernel_rfl, o * 4294967296 + w, by omega, ?_, hs, rfl, rfl⟩
    rw [valI, hw, Int.pow_succ] at hval
    rw [← hval, Int.natCast_add, Int.natCast_mul]
    generalize (4294967296 : Int) ^ k = P
    generalize valI xs k = v
    grind

/-- A field of a struct that is a value. -/
theorem op_fieldV {P : Program} {o : Oper} {ft : List (Nat × SV)} {fk : List (Nat × Blk)} {cs : List SV} {c : SV} {S : TypeId} {x : Operand} {j off e : Nat} {ti te : TI} {fs : List (Nat × TypeId × Nat)} {l : List SV} (ho : o.op = .field S x j) (hx : EvOK ft x (.agg cs)) (ht : TOK P S ti)
    (hk : ti.kind = .agg fs) (hj : fs[j]? = some (off, e, 1)) (hs : sub 64 cs off 1 = some l) (he : TOK P e te) (hna : te.kind.isAgg = false) (hsh : shapeAs te l = some c) : OpOK P o ft fk c [] [] :=
  ok_pure fun ρ a w hp => by
    have hv := hx ρ a hp.hft
    simp only [Has, HasC] at hv
    obtain ⟨x', ⟨z, h2, rfl⟩, hv⟩ := hv
    obtain ⟨y, g1, g2, g3⟩ := sub_has 64 cs off 1 l z hs h2
    have g3 := g3.resolve_left (by decide)
    have hkd := ht.kind
    rw [hk] at hkd
    obtain ⟨k1, k2, k3⟩ := hkd
    have hf : ∃ fd, (P.fieldsOf S)[j]? = some fd ∧ fd.offset = off ∧ fd.type = e := by
      rw [← k2, List.getElem?_map] at hj
      cases hq : (P.fieldsOf S).toList[j]? with
      | none => rw [hq] at hj; simp at hj
      | some fd =>
        rw [hq] at hj
        simp only [Option.map_some, Option.some.injEq, Prod.mk.injEq] at hj
        exact ⟨fd, by simpa using hq, hj.1, hj.2.1⟩
    obtain ⟨fd, f1, f2, f3⟩ := hf
    have hlt : off < z.flatten.length := by omega
    have hz1 : z.flatten[off]? = some (y.flatten.headD undef) := by
      rw [g2, List.getElem?_eq_getElem hlt, List.drop_eq_getElem_cons hlt]; rfl
    refine ⟨y.flatten.headD undef, ?_, shapeAs_has hsh g1 (by rw [hna]; rfl)⟩
    have hp' : (part e z.flatten.toArray off).run P w = .ok (y.flatten.headD undef) w := by
      unfold part
      rw [Sem.run_bind, he.isAgg]
      simp [hna, hz1]
    have hv' : a.eval x = .agg z.flatten.toArray := by rw [hv]; rfl
    simp only [execOp, ho, Instr.field, hv', asAgg, Sem.run_bind, Sem.run_pure, Result.andThen_ok, run_underlying k1, f1, f2, f3, hp']

theorem r2_ZRef (z : Bool × List Int) (hl : z.2.length ≤ 1000) (hx : W32 z.2) : CallOK Tryz.prog 12 [zV z] [] (zZ (zI z)) [] [] := by
  have k1 := r_OfWords z.2 hl hx
  have hs := sz_val hx z.2.length
  have k2 := r2_From' (neg := z.1) (n := (valI z.2 z.2.length).toNat) (z := zI z) rfl (Nat.lt_of_le_of_lt (tl_sz (M := 32000) (by omega)) (by decide))
  refine callV (Z := [1]) tabOK mixedOK Tryz.func12 rfl (by kernel_rfl) rfl rfl (by kernel_rfl) rfl ?_
  intro W0 w0 ρ0 hE
  conv => whnf
  (repeat ((first | refine step_i (by kernel_rfl) ?_ | refine g_c (by assumption) ?_ | refine g_o (op_loadA rfl (ev_ok rfl) (tgt rfl) rfl (Nat.succ_ne_zero _) rfl) ?_ | refine g_o (op_fieldA rfl (ev_ok rfl) (tgt rfl) rfl rfl (Nat.succ_ne_zero _) rfl) ?_); conv => whnf))
  exact Recast.refl _

theorem r3_GreatRef (g : (Bool × List Int) × List Int) (l1 : g.1.2.length ≤ 1000) (h1 : W32 g.1.2) (l2 : g.2.length ≤ 1000) (h2 : W32 g.2) : CallOK Tryz.prog 8 [gV g] [] (fF (gQ g)) [] [] := by
  have s1 := sz_zI h1
  have s2 := sz_val h2 g.2.length
  have k1 := r2_ZRef g.1 l1 h1
  have k2 := c_gden g
  have k3 := r2_ZRef (false, g.2) l2 h2
  have k4 := r2_Of 1 (by decide) (by decide)
  have e : zI (false, g.2) = ((valI g.2 g.2.length).toNat : Int) := rfl
  rw [e] at k3
  unfold gQ
  generalize (valI g.2 g.2.length).toNat = d at *
  generalize zI g.1 = n at *
  have hs1 : sz (d + 1) ≤ 32001 := sz_add (k := 32000) (by omega) (by rw [sz_one]; omega)
  have hd : (td d).length ≤ 32000 := tl_sz (by omega)
  have hd1 : (td (d + 1)).length ≤ 32001 := tl_sz hs1
  have hn : (td n.natAbs).length ≤ 32000 := tl_sz (by omega)
  have k5 := r2_Add (d : Int) 1 (by rw [Int.natAbs_natCast]; omega) (by decide)
  have e2 : (d : Int) + 1 = ((d + 1 : Nat) : Int) := rfl
  rw [e2] at k5
  have k6 := r3_From n (d + 1) (Nat.succ_ne_zero _) (by omega) (by omega)
  have e3 : Int.natAbs ((d + 1 : Nat) : Int) = d + 1 := Int.natAbs_natCast _
  refine callV (Z := [1]) tabOK mixedOK Tryz.func8 rfl (by kernel_rfl) rfl rfl (by kernel_rfl) rfl ?_
  intro W0 w0 ρ0 hE
  conv => whnf
  (repeat ((first | refine step_i (by kernel_rfl) ?_ | refine g_c (by assumption) ?_ | refine g_o (op_loadA rfl (ev_ok rfl) (tgt rfl) rfl (Nat.succ_ne_zero _) rfl) ?_ | refine g_o (op_fieldA rfl (ev_ok rfl) (tgt rfl) rfl rfl (Nat.succ_ne_zero _) rfl) ?_ | refine g_o (op_fieldV rfl (ev_ok rfl) (tgt rfl) rfl rfl rfl (tgt rfl) rfl rfl) ?_); conv => whnf))
  exact Recast.refl _
end Go.Proofs.YtcaofdhffiifpaaGreatDoor

namespace Go.Proofs.YtcaofdhffiifpaaGreatDoor
open Go.Sx
set_option linter.unusedSimpArgs false
set_option linter.unusedVariables false
set_option maxRecDepth 100000
set_option maxHeartbeats 8000000

theorem c_ModsOf (x : (Bool × List Int) × List Int) (p : Nat) (hx1 : W32 x.1.2) (hx2 : W32 x.2) (hp : p < 4294967296) :
    CallOK Tryz.prog 3 [gV x, iel .u32 p] [] (.val (.bool true)) [] [] := by
  have kw := c_works
  refine callV (Z := []) tabOK mixedOK Tryz.func3 rfl (by kernel_rfl) rfl rfl (by kernel_rfl) rfl ?_
  intro W0 w0 ρ0 hE
  conv => whnf
  by_cases h1 : x.1.2.length > 8
  · have t1 : Hid (decide ((x.1.2.length : Int) > 8) = true) := show decide ((x.1.2.length : Int) > 8) = true from decide_eq_true (by omega)
    (repeat ((first | refine step_w1 rfl rfl ?_ | refine step_w2 rfl rfl ?_ | refine g_c (by assumption) ?_ | refine g_o (op_pickT rfl (ev_ok rfl) (ev_ok rfl)) ?_ | refine g_o (op_lenM rfl rfl rfl (ev_ok rfl) (tgt rfl) rfl) ?_ | rw [t1.out]); conv => whnf)); (first | exact Recast.refl _ | exact Frz.recast (Recast.refl _) rfl | (refine Frz.one rfl rfl ?_; skip) | (refine Frz.tup ?_; skip))
  have t1 : Hid (decide ((x.1.2.length : Int) > 8) = false) := show decide ((x.1.2.length : Int) > 8) = false from decide_eq_false (by omega)
  by_cases h2 : x.2.length > 8
  · have t2 : Hid (decide ((x.2.length : Int) > 8) = true) := show decide ((x.2.length : Int) > 8) = true from decide_eq_true (by omega)
    (repeat ((first | refine step_w1 rfl rfl ?_ | refine g_c (by assumption) ?_ | refine g_o (op_pickF rfl (ev_ok rfl) (ev_ok rfl)) ?_ | refine g_o (op_lenM rfl rfl rfl (ev_ok rfl) (tgt rfl) rfl) ?_ | rw [t1.out] | rw [t2.out]); conv => whnf)); (first | exact Recast.refl _ | exact Frz.recast (Recast.refl _) rfl | (refine Frz.one rfl rfl ?_; skip) | (refine Frz.tup ?_; skip))
  have t2 : Hid (decide ((x.2.length : Int) > 8) = false) := show decide ((x.2.length : Int) > 8) = false from decide_eq_false (by omega)
  have ok := natBig
  have wx1 : Words 1073741824 x.1.2 := ⟨hx1, by omega, by omega⟩
  have wx2 : Words 1073741824 x.2 := ⟨hx2, by omega, by omega⟩
  have sm : sz (zI x.1).natAbs ≤ 256 := Nat.le_trans (sz_zI hx1) (by omega)
  have sxv := sz_val hx2 x.2.length
  have sd1 : sz ((valI x.2 x.2.length).toNat + 1) ≤ 258 := Nat.le_trans (sz_add (k := 257) (by omega) (by rw [sz_one]; omega)) (by omega)
  have fa : fsz (gQ x) ≤ 258 := fsz_mkRat (Nat.succ_ne_zero _) (by omega) sd1
  have tz : (td (zI x.1).natAbs).length ≤ 256 := tl_sz sm
  have k1 := c_ZOf ok x.1 wx1
  have k2 := c_GreatOf ok x wx1 wx2
  have k3 := r2_ZRef x.1 (by omega) hx1
  have k4 := r3_GreatRef x (by omega) hx1 (by omega) hx2
  generalize zI x.1 = m at *
  generalize gQ x = a at *
  have k5 := c_OfFrac ok a p (by omega) hp
  have k6 := r6_OfFrac a p (by unfold fs; omega) hp
  have k7 := c_OfInt ok m p (by omega) (by omega) (by omega)
  have k8 := r6_OfInt m p (by omega) (by omega) (by omega)
  generalize ofFracF a p = iv at *
  obtain ⟨v, o⟩ := iv
  generalize md m p = s at *
  have t3 : (s == s) = true := beq_self_eq_true _
  have t4 : (v == v) = true := beq_self_eq_true _
  have t5 : (o == o) = true := beq_self_eq_true _
  (repeat ((first | refine step_w1 rfl rfl ?_ | refine step_w2 rfl rfl ?_ | refine step_i (by kernel_rfl) ?_ | refine g_c (by assumption) ?_ | refine g_o (op_pickT rfl (ev_ok rfl) (ev_ok rfl)) ?_ | refine g_o (op_pickF rfl (ev_ok rfl) (ev_ok rfl)) ?_ | rw [beq_self_eq_true] | refine g_o (op_lenM rfl rfl rfl (ev_ok rfl) (tgt rfl) rfl) ?_ | rw [t1.out] | rw [t2.out]); conv => whnf)); (first | exact Recast.refl _ | exact Frz.recast (Recast.refl _) rfl | (refine Frz.one rfl rfl ?_; skip) | (refine Frz.tup ?_; skip))

theorem law_ModsOf (x : (Bool × List Int) × List Int) (p : Int) (w0 : (True ∧ (x.1.2.length ≤ maxLen ∧ ∀ z ∈ x.1.2, (Lit.int .u32 z).wf = true)) ∧ (x.2.length ≤ maxLen ∧ ∀ z ∈ x.2, (Lit.int .u32 z).wf = true))
    (w1 : (Lit.int .u32 p).wf = true) :
    CallOK Tryz.prog 3 [gV x, iel .u32 p] [] (.val (.bool true)) [] [] := by
  obtain ⟨h1, h2⟩ := wf_u32 w1
  obtain ⟨q, rfl⟩ := Int.eq_ofNat_of_zero_le h1
  exact c_ModsOf x q (wf_w32 w0.1.2.2) (wf_w32 w0.2.2) (by omega)
end Go.Proofs.YtcaofdhffiifpaaGreatDoor

namespace Go.Proofs.YtcaofdhffiifpaaGreatDoor.modsOf
open Go.ChangeShapes Go.WideShapes Go.ChangeAt Go.RowKit Go.Sx
set_option maxRecDepth 100000
set_option linter.unusedSimpArgs false

theorem own : ownKnob Tryz.prog.godebug = none := by kernel_rfl
theorem laidOut : laidOutB Tryz.prog = true := by kernel_rfl
theorem params : Tryz.f3.params.toList.all (fun t => Tryz.prog.readableRec t && decide (t < Tryz.prog.types.size)) = true := by kernel_rfl
theorem gTab0 : Tryz.prog.globalNamed "math/bits.deBruijn32tab" = some 0 := by kernel_rfl
theorem gTabType0 : (Tryz.prog.globals[0]?).map (·.type) = some 112 := by kernel_rfl
theorem cellsA0 : Tryz.prog.cellsOf 112 = 32 := by kernel_rfl
theorem cellsE0 : Tryz.prog.cellsOf 5 = 1 := by kernel_rfl
/-- What the row's list gives: the tables' cells hold their numbers. -/
theorem table {W : World} (h : laidMetH Tryz.prog Rows.modsOfRow.laid W) : TabsW W := by
  intro g kd l hm
  have h0 : laidMet Tryz.prog Rows.modsOfRow.laid W := h
  have ht0 : Lib.TabIs Tryz.prog W "math/bits.deBruijn32tab" .u8 [0, 1, 28, 2, 29, 14, 24, 3, 30, 22, 20, 15, 25, 17, 4, 8, 31, 27, 13, 23, 21, 19, 16, 7, 26, 12, 18, 6, 11, 5, 10, 9] := Lib.tabIs_of_head gTab0 gTabType0 Tryz.underlying112 Tryz.underlying5 cellsE0 cellsA0 h0
  simp only [globTabs, List.mem_cons, List.not_mem_nil, or_false, Prod.mk.injEq] at hm
  rcases hm with ⟨rfl, rfl, rfl⟩
  · refine ⟨by simp, fun j x hx => by rw [ht0.cell gTab0 j (List.getElem?_eq_some_iff.1 hx).1, List.getD_eq_getElem?_getD, hx]; rfl, ?_⟩
    exact tab_heap gTab0 ht0

/-- The contract, over values. -/
theorem called (a0 : ((Bool) × (List (Int))) × (List (Int))) (a1 : Int) (w0 : ((True) ∧ ((a0.1.2).length ≤ maxLen ∧ ∀ x ∈ a0.1.2, (Lit.int .u32 x).wf = true)) ∧ ((a0.2).length ≤ maxLen ∧ ∀ x ∈ a0.2, (Lit.int .u32 x).wf = true)) (w1 : (Lit.int .u32 a1).wf = true) : CallOK Tryz.prog 3 [(ag2 (ag2 (bel) (mvec 1 (iel .u32))) (mvec 1 (iel .u32))) a0, (iel .u32) a1] [] (.val (.bool true)) [] [] := law_ModsOf a0 a1 w0 w1

theorem contract (H : Type) (enc : TypeId × Value → H) (W : World) (base : Nat) (args : Array Value) (ds gs : List (DataW H)) (before : List MemPlace)
    (hval : ∀ (j : Nat) t v, Tryz.f3.params[j]? = some t → args[j]? = some v → Value.okWide Tryz.prog W .any base t v)
    (hW : DataW.Whole enc Tryz.prog Tryz.f3.params.toList Rows.modsOfSpec.vars false W args.toList ds gs before) (hL : laidMetH Tryz.prog Rows.modsOfRow.laid W) :
    Calls Tryz.prog 3 args W fun e W' => ∃ v, e = .returned v ∧ Rows.modsOfSpec.post enc Tryz.prog Tryz.f3 false true false false W args v W' := by
  have hW' := hW
  obtain ⟨p, q, hA0, hV, rfl, hfz, hnd⟩ := hW
  have hA : DataW.TrodAll enc Tryz.prog W 0 (fun _ => true) true Tryz.f3.params.toList args.toList ds p := hA0
  rw [Tryz.params3] at hA hval
  obtain ⟨v0, vs0, d0, ds0, p0, q0, hargs, rfl, rfl, h0, r0⟩ := trodAll_cons hA
  obtain ⟨v1, vs1, d1, ds1, p1, q1, rfl, rfl, rfl, h1, r1⟩ := trodAll_cons r0
  obtain ⟨rfl, rfl, rfl⟩ := trodAll_nil r1
  obtain rfl : args = #[v0, v1] := by cases args; simp_all
  obtain ⟨rfl, rfl⟩ := trodVars_none hV
  have hg := table hL
  obtain ⟨n0, t0⟩ := h0
  obtain ⟨a0, w0, c0⟩ := (show Opens enc Tryz.prog hg 26 (ag2 (ag2 (bel) (mvec 1 (iel .u32))) (mvec 1 (iel .u32))) (fun a => ((True) ∧ ((a.1.2).length ≤ maxLen ∧ ∀ x ∈ a.1.2, (Lit.int .u32 x).wf = true)) ∧ ((a.2).length ≤ maxLen ∧ ∀ x ∈ a.2, (Lit.int .u32 x).wf = true)) from Opens.struct2 Tryz.underlying26 rfl (by kernel_rfl) (by kernel_rfl) (Opens.struct2 Tryz.underlying24 rfl (by kernel_rfl) (by kernel_rfl) (Opens.bool Tryz.underlying4) (Opens.slice (w := 1) Tryz.underlying22 (by kernel_rfl) (by decide) (fun _ => rfl) (Opens.int Tryz.underlying27))) (Opens.slice (w := 1) Tryz.underlying22 (by kernel_rfl) (by decide) (fun _ => rfl) (Opens.int Tryz.underlying27))) _ _ _ t0
  have e0 : mkV ((ag2 (ag2 (bel) (mvec 1 (iel .u32))) (mvec 1 (iel .u32))) a0) v0.cells.toList = v0 := by obtain ⟨cs, hc, _⟩ := okWide_struct Tryz.underlying26 (hval 0 26 v0 rfl rfl); exact mkV_agg rfl hc
  obtain ⟨n1, t1⟩ := h1
  obtain ⟨a1, w1, c1⟩ := (show Opens enc Tryz.prog hg 27 (iel .u32) (fun a => (Lit.int .u32 a).wf = true) from Opens.int Tryz.underlying27) _ _ _ t1
  have e1 : mkV ((iel .u32) a1) v1.cells.toList = v1 := by obtain ⟨_, rfl⟩ := okWide_int Tryz.underlying27 (hval 1 27 v1 rfl rfl); exact mkV_one rfl (by simp [Value.cells])
  have hz : HasZ (allRho hg) [(ag2 (ag2 (bel) (mvec 1 (iel .u32))) (mvec 1 (iel .u32))) a0, (iel .u32) a1] [v0.cells.toList, v1.cells.toList] := by simp only [HasZ]; exact ⟨_, _, rfl, c0, _, _, rfl, c1, rfl⟩
  have hr := law_runA ⟨Tryz.f3, Tryz.func3, rfl, by kernel_rfl⟩ (called a0 a1 w0 w1) hg hz
  simp only [List.zipWith_cons_cons, List.zipWith_nil_left, List.zipWith_nil_right, e0, e1] at hr
  refine hr.mono fun e W' ⟨he, hb⟩ => ?_
  subst he
  exact ⟨_, rfl, law_post laidOut params rfl rfl Tryz.underlying4 hW' ⟨rfl, rfl, rfl⟩ hb⟩

/-- A world for the witness: the settled one, the tables holding what their texts lay. -/
noncomputable def laidWorld (os : Os) : World :=
  { World.holding Tryz.prog os ⟨#[], #[], []⟩ with heap := ((World.holding Tryz.prog os ⟨#[], #[], []⟩).heap |>.modify 0 (fun | .cells _ t frozen => .cells #[.int .u8 0, .int .u8 1, .int .u8 28, .int .u8 2, .int .u8 29, .int .u8 14, .int .u8 24, .int .u8 3, .int .u8 30, .int .u8 22, .int .u8 20, .int .u8 15, .int .u8 25, .int .u8 17, .int .u8 4, .int .u8 8, .int .u8 31, .int .u8 27, .int .u8 13, .int .u8 23, .int .u8 21, .int .u8 19, .int .u8 16, .int .u8 7, .int .u8 26, .int .u8 12, .int .u8 18, .int .u8 6, .int .u8 11, .int .u8 5, .int .u8 10, .int .u8 9] t frozen | o => o)) }
theorem laid_met (os : Os) : laidMet Tryz.prog Rows.modsOfRow.laid ((laidWorld os).forCall (fun _ _ => 0) ⟨#[], #[.agg #[.bool false, .slice none 0 0, .slice none 0 0], .int .u32 0], []⟩).memory :=
  laidMet_of_run' 8 (by kernel_rfl) (by kernel_rfl)
theorem reads (os : Os) {H : Type} (enc : TypeId × Value → H) : ∃ places, DataW.whole enc Tryz.prog ((laidWorld os).forCall (fun _ _ => 0) ⟨#[], #[.agg #[.bool false, .slice none 0 0, .slice none 0 0], .int .u32 0], []⟩).memory Tryz.f3.params.toList Rows.modsOfSpec.vars false #[.agg #[.bool false, .slice none 0 0, .slice none 0 0], .int .u32 0].toList 8 = some ([.agg [.agg [.lit (.bool false), .nil], .nil], .lit (.int .u32 0)], [], places) :=
  ⟨[], by kernel_rfl⟩

theorem lifted (os : Os) (started : os.Started) (H : Type) (enc : TypeId × Value → H) (F : Stop.Interp) :
    ReturnsInHanded {} Tryz.checked os 3 .any ((OpenSpec.ofChange Rows.modsOfSpec).preRow enc Tryz.prog Tryz.f3 Rows.modsOfRow.domain false Rows.modsOfRow.laid) (((OpenSpec.ofChange Rows.modsOfSpec).at F).post enc Tryz.prog Tryz.f3 false true false false) := by
  obtain ⟨places, hx⟩ := reads os enc
  refine returnsInHanded_of_row (C := Tryz.checked) (s := OpenSpec.ofChange Rows.modsOfSpec) own started (by kernel_rfl) Tryz.func3
    (witness_row_at (enc := enc) (C := Tryz.checked) false (laidWorld os) #[.agg #[.bool false, .slice none 0 0, .slice none 0 0], .int .u32 0] rfl (by kernel_rfl) (by kernel_rfl) (by kernel_rfl)
      (OpenSpec.preRow_of_cond 8 hx (by kernel_rfl) (fun k hk => by cases hk) (by kernel_rfl) (laid_met os))) ?_
  intro W base args ds gs before hval hW _ _ _ hL _ _
  exact contract H enc W base args ds gs before hval hW hL

theorem said : Rows.ModsOfSaid :=
  OpenClaim.holds_of_cond 3 Tryz.f3 rfl rfl rfl rfl rfl rfl rfl ⟨rfl, rfl, rfl, rfl, rfl⟩ rfl rfl rfl rfl rfl (by kernel_rfl) Tryz.func3 (by kernel_rfl)
    (of_decide_eq_true (by kernel_rfl)) (by unfold Func.isWrapper; first | (rw [if_pos (by decide +kernel)]; kernel_rfl) | (rw [if_neg (by decide +kernel)]; exact ⟨rfl, rfl⟩))
    (fun os started H enc _ F => by rw [OpenClaim.pre_eq_preRow]; exact lifted os started H enc F)

/-- No parameter wants a stand-in; the program's own looks are off. -/
theorem plain (f : FuncId) (fn : Func) (hf : Tryz.pinned.checked.prog.funcNamed "gusset/gussetlaw06.ModsOf" = some f) (hfn : Tryz.pinned.checked.prog.funcs[f]? = some fn) :
    false = Tryz.pinned.checked.prog.looks [] ∧ ∀ (j : Nat) t, fn.params[j]? = some t → Tryz.pinned.checked.prog.wantsStandIn t = false := by
  obtain rfl : f = 3 := Option.some.inj ((show Tryz.prog.funcNamed "gusset/gussetlaw06.ModsOf" = some 3 by kernel_rfl).symm.trans hf) |>.symm
  obtain rfl : fn = Tryz.f3 := (Option.some.inj (Tryz.func3.symm.trans hfn)).symm
  refine ⟨by kernel_rfl, fun j t ht => ?_⟩
  have hall : (Tryz.f3.params.toList.all fun t => !Tryz.prog.wantsStandIn t) = true := by kernel_rfl
  have := List.all_eq_true.1 hall t (by simpa using Array.mem_of_getElem? ht)
  exact (show Tryz.prog.wantsStandIn t = false by simpa using this)

/-- The card. -/
theorem card : Rows.ModsOfCardSaid :=
  Claim7.holds_tied_plain_at .later [] _ _ _ _ said (fun _ h => by cases h) (by kernel_rfl) (fun _ h => by cases h) modsOf_row_tie rfl ⟨rfl, rfl⟩ (by kernel_rfl) rfl plain (by kernel_rfl)
#print axioms card
end Go.Proofs.YtcaofdhffiifpaaGreatDoor.modsOf
