/- Contract: mods.Prime. -/
import Derived.Test.YtghdcjhlhcoijaaDoorCd
namespace Go.Proofs.YtghdcjhlhcoijaaDoor
open Go.Sx
set_option maxRecDepth 100000

def firsts : List Nat := [2, 3, 5, 7, 11, 13, 17, 19, 23, 29, 31, 37, 41, 43, 47, 53, 59, 61]

def trial (n : Nat) : List Nat → Option Bool
  | [] => none
  | q :: l => if n % q = 0 then some (n == q) else trial n l

def tzF : Nat → Nat → Nat
  | 0, _ => 0
  | f + 1, x => if x % 2 = 1 then 0 else tzF f (x / 2) + 1

def iterF : Nat → Nat → Nat → Bool
  | 0, _, _ => false
  | k + 1, x, n => x * x % n == n - 1 || iterF k (x * x % n) n

/-- out times a to the n modulo p. -/
def powM : Nat → Nat → Nat → Nat → Nat → Nat
  | 0, out, _, _, _ => out
  | f + 1, out, a, n, p => powM f (if n % 2 = 1 then out * a % p else out) (a * a % p) (n / 2) p

def witF (n t w : Nat) : Bool :=
  let x := powM 64 (1 % n) w ((n - 1) / 2 ^ t) n
  x == 1 || (x == n - 1 || iterF (t - 1) x n)

def primeF (n : Nat) : Bool := match trial n firsts with
  | some b => b
  | none => if n < 2 then false else witF n (tzF 32 (n - 1)) 2 && (witF n (tzF 32 (n - 1)) 7 && witF n (tzF 32 (n - 1)) 61)

theorem tzF_spec : ∀ (f x : Nat), 0 < x → x < 2 ^ f → ∃ m, x = 2 ^ tzF f x * (2 * m + 1)
  | 0, x, h0, h => by simp at h; omega
  | f + 1, x, h0, h => by
    simp only [tzF]
    split
    · exact ⟨x / 2, by omega⟩
    · rw [Nat.pow_succ] at h
      obtain ⟨m, hm⟩ := tzF_spec f (x / 2) (by omega) (by omega)
      refine ⟨m, ?_⟩
      rw [Nat.pow_succ, Nat.mul_comm (2 ^ _) 2, Nat.mul_assoc, ← hm]
      omega

theorem powM_spec : ∀ (f out a n p : Nat), n < 2 ^ f → out < p → powM f out a n p = out * a ^ n % p
  | 0, out, a, n, p, h, ho => by
    have : n = 0 := by simpa using h
    simp [powM, this, Nat.mod_eq_of_lt ho]
  | f + 1, out, a, n, p, h, ho => by
    rw [Nat.pow_succ] at h
    have hn : n = n % 2 + 2 * (n / 2) := by omega
    have hpow : a ^ n = a ^ (n % 2) * (a * a) ^ (n / 2) := by
      conv => lhs; rw [hn, Nat.pow_add, Nat.pow_mul]
      rw [show a ^ 2 = a * a from Nat.pow_two a]
    simp only [powM]
    rw [hpow]
    by_cases h1 : n % 2 = 1
    · rw [if_pos h1, powM_spec f _ _ _ p (by omega) (Nat.mod_lt _ (by omega)), h1, Nat.pow_one, Nat.mul_mod, Nat.mod_mod, ← Nat.pow_mod, ← Nat.mul_mod, Nat.mul_assoc]
    · rw [if_neg h1, powM_spec f _ _ _ p (by omega) ho, show n % 2 = 0 from by omega, Nat.pow_zero, Nat.one_mul, Nat.mul_mod, ← Nat.pow_mod, ← Nat.mul_mod]

theorem firsts_bd : ∀ q ∈ firsts, 0 < q ∧ q < 62 := by decide

def wits : List Nat := [2, 7, 61]
theorem wits_bd : ∀ q ∈ wits, 0 < q ∧ q < 62 := by decide

theorem c_Prime (n : Nat) (hn : n < 4294967296) :
    CallOK Tryd.prog 10 [.val (.int .u32 n)] [] (.val (.bool (primeF n))) [] [] := by
  refine callV tabOK mixedOK Tryd.func10 rfl (by kernel_rfl) rfl rfl (by kernel_rfl) rfl ?_
  intro W0 w0 ρ0 hE
  conv => whnf
  refine SW_loopN hE (fun k => k) [1, 12, 13] [1] (fun m fr hp => ∃ i, m = 18 - i ∧ i ≤ 18 ∧ trial n (firsts.drop i) = trial n firsts ∧ fr = [(1, .ptr 1 0 0 0), (12, .agg (firsts.map fun (q : Nat) => .val (.int .u32 q))), (13, .val (.int .i64 i))] ∧ hp = [(1, ⟨22, true, .one [.val (.int .u32 n)]⟩)]) 18 ?_ ?_ ?_
  · kernel_rfl
  · exact ⟨0, rfl, by omega, rfl, rfl, rfl⟩
  rintro m _ _ ⟨i, rfl, hi, hT, rfl, rfl⟩
  conv => whnf
  refine ⟨fun h => ?_, fun h => ?_⟩
  · have hi' : i < 18 := by have := of_decide_eq_true h; omega
    obtain ⟨q, hq⟩ : ∃ q, firsts[i]? = some q := ⟨firsts[i]'(by simpa [firsts] using hi'), by simp⟩
    have hqm : q ∈ firsts := List.mem_of_getElem? hq
    have hqb : 0 < q ∧ q < 62 := firsts_bd q hqm
    conv => whnf
    refine ⟨_, [], [], op_indexAgg rfl (ev_ok rfl) (l := firsts.map fun (q : Nat) => .int .u32 q) rfl (ev_ok rfl) tok60 rfl tok22 rfl rfl (by omega) (by omega) (v := .int .u32 q) (by simp [hq]) rfl, nil_fk, nil_new, ?_⟩
    conv => whnf
    refine ⟨by omega, ?_⟩
    conv => whnf
    have hdrop : firsts.drop i = q :: firsts.drop (i + 1) := by
      rw [List.drop_eq_getElem_cons (by simpa [firsts] using hi')]
      congr 1
      exact (List.getElem?_eq_some_iff.1 hq).2
    have e1 : (n : Int).tmod (q : Int) = ((n % q : Nat) : Int) := by rw [Int.tmod_eq_emod_of_nonneg (by omega)]; rfl
    rw [e1]
    refine ⟨fun h => ?_, fun h => ?_⟩
    · have hz : n % q = 0 := by have := of_decide_eq_true h; omega
      conv => whnf
      have e2 : primeF n = ((n : Int) == (q : Int)) := by
        rw [hdrop] at hT
        simp only [primeF, ← hT, trial, hz, if_true]
        rw [Bool.eq_iff_iff]; simp; omega
      rw [e2]
      exact Recast.refl _
    · have hz : ¬ n % q = 0 := by have := of_decide_eq_false h; omega
      conv => whnf
      have e3 : IntKind.i64.wrap ((i : Int) + 1) = ((i + 1 : Nat) : Int) := by rw [wrap_i64 (by omega) (by omega)]; omega
      rw [e3]
      refine ⟨18 - (i + 1), fun k => k, [1, 12, 13], [1], by omega, by kernel_rfl, i + 1, rfl, by omega, ?_, rfl, rfl⟩
      rw [← hT, hdrop]
      simp only [trial, hz, if_false]
  · have hi' : i = 18 := by have := of_decide_eq_false h; omega
    subst hi'
    have hT : trial n firsts = none := hT.symm
    conv => whnf
    refine ⟨fun h => ?_, fun h => ?_⟩
    · have h2 : n < 2 := by have := of_decide_eq_true h; omega
      conv => whnf
      have e2 : primeF n = false := by simp only [primeF, hT, h2, if_true]
      rw [e2]
      exact Recast.refl _
    have h2 : ¬ n < 2 := by have := of_decide_eq_false h; omega
    obtain ⟨m0, hm0⟩ := tzF_spec 32 (n - 1) (by omega) (by omega)
    have cTZ := c_TZ (tzF 32 (n - 1)) m0 (by rw [← hm0]; omega)
    rw [← hm0] at cTZ
    have eP : primeF n = wits.all (witF n (tzF 32 (n - 1))) := by simp only [wits, primeF, hT, h2, if_false, List.all_cons, List.all_nil, Bool.and_true]
    have hTb : tzF 32 (n - 1) < 32 := by
      have h1 : 2 ^ (tzF 32 (n - 1)) * 1 ≤ 2 ^ (tzF 32 (n - 1)) * (2 * m0 + 1) := Nat.mul_le_mul_left _ (by omega)
      rw [← hm0] at h1
      exact (Nat.pow_lt_pow_iff_right (a := 2) (by decide)).1 (by omega)
    generalize tzF 32 (n - 1) = T at *
    have e1 : IntKind.u32.wrap ((n : Int) - 1) = ((n - 1 : Nat) : Int) := by rw [wrap_u32 (by omega) (by omega)]; omega
    conv => whnf
    rw [e1]
    refine ⟨[], _, [], [], cTZ, nil_fk, nil_new, nil_upd, ?_⟩
    conv => whnf
    refine ⟨_, [], [], [], op_makeFunc rfl rfl rfl, nil_fk, nil_new, nil_upd, ?_⟩
    conv => whnf
    refine SW_loopN hE (fun k => k) [1, 6, 7, 30, 31] [1] (fun m fr hp => ∃ i, m = 3 - i ∧ i ≤ 3 ∧ (wits.drop i).all (witF n T) = wits.all (witF n T) ∧ fr = [(1, .ptr 1 0 0 0), (6, .val (.int .i64 T)), (7, .clo 33 [] [.ptr 1 0 0 0]), (30, .agg (wits.map fun (q : Nat) => .val (.int .u32 q))), (31, .val (.int .i64 i))] ∧ hp = [(1, ⟨22, true, .one [.val (.int .u32 n)]⟩)]) 3 ?_ ?_ ?_
    · kernel_rfl
    · exact ⟨0, rfl, by omega, rfl, rfl, rfl⟩
    rintro m _ _ ⟨i, rfl, hi, hW, rfl, rfl⟩
    conv => whnf
    refine ⟨fun h => ?_, fun h => ?_⟩
    · have hi' : i < 3 := by have := of_decide_eq_true h; omega
      obtain ⟨q, hq⟩ : ∃ q, wits[i]? = some q := ⟨wits[i]'(by simpa [wits] using hi'), by simp⟩
      have hqm : q ∈ wits := List.mem_of_getElem? hq
      have hqb : 0 < q ∧ q < 62 := wits_bd q hqm
      have hdrop : wits.drop i = q :: wits.drop (i + 1) := by
        rw [List.drop_eq_getElem_cons (by simpa [wits] using hi')]
        congr 1
        exact (List.getElem?_eq_some_iff.1 hq).2
      conv => whnf
      refine ⟨_, [], [], op_indexAgg rfl (ev_ok rfl) (l := wits.map fun (q : Nat) => .int .u32 q) rfl (ev_ok rfl) tok62 rfl tok22 rfl rfl (by omega) (by omega) (v := .int .u32 q) (by simp [hq]) rfl, nil_fk, nil_new, ?_⟩
      conv => whnf
      refine ⟨by omega, ?_⟩
      conv => whnf
      have e2 : IntKind.u64.wrap ((n - 1 : Nat) : Int) = ((n - 1 : Nat) : Int) := wrap_u64 (by omega) (by omega)
      have e3 : ishr .u64 ((n - 1 : Nat) : Int) (T : Int) = (((n - 1) / 2 ^ T : Nat) : Int) := ishr_nat .u64 (by show T ≤ 64; omega)
      have e4 : (n - 1) / 2 ^ T ≤ n - 1 := Nat.div_le_self _ _
      rw [e1, e2, e3]
      refine ⟨[], _, [], [], c_Pow q n ((n - 1) / 2 ^ T) (by omega) (by omega) (by omega) (by omega) (by omega), nil_fk, nil_new, nil_upd, ?_⟩
      have e5 : md ((q : Int) ^ ((n - 1) / 2 ^ T)) n = ((powM 64 (1 % n) q ((n - 1) / 2 ^ T) n : Nat) : Int) := by
        rw [powM_spec 64 _ _ _ _ (by omega) (Nat.mod_lt _ (by omega))]
        simp only [md]
        rw [if_neg (by omega), Nat.mul_mod, Nat.mod_mod, ← Nat.mul_mod, Nat.one_mul]
        simp
      have e6 : powM 64 (1 % n) q ((n - 1) / 2 ^ T) n < n := by
        rw [powM_spec 64 _ _ _ _ (by omega) (Nat.mod_lt _ (by omega))]; exact Nat.mod_lt _ (by omega)
      have eW : witF n T q = (powM 64 (1 % n) q ((n - 1) / 2 ^ T) n == 1 || (powM 64 (1 % n) q ((n - 1) / 2 ^ T) n == n - 1 || iterF (T - 1) (powM 64 (1 % n) q ((n - 1) / 2 ^ T) n) n)) := rfl
      rw [e5]
      generalize powM 64 (1 % n) q ((n - 1) / 2 ^ T) n = x at *
      conv => whnf
      refine ⟨by kernel_rfl, ?_⟩
      conv => whnf
      have eX : ((x : Int) == (n : Int) - 1) = (x == n - 1) := by rw [Bool.eq_iff_iff]; simp; omega
      have eY : ((x : Int) == 1) = (x == 1) := by rw [Bool.eq_iff_iff]; simp; omega
      have next : witF n T q = true → wits.all (witF n T) = (wits.drop (i + 1)).all (witF n T) := fun hw => by rw [← hW, hdrop, List.all_cons, hw, Bool.true_and]
      have stop : witF n T q = false → primeF n = false := fun hw => by rw [eP, ← hW, hdrop, List.all_cons, hw, Bool.false_and]
      have eI : IntKind.i64.wrap ((i : Int) + 1) = ((i + 1 : Nat) : Int) := by rw [wrap_i64 (by omega) (by omega)]; omega
      refine ⟨fun hx => ?_, fun hx => ?_⟩
      · conv => whnf
        refine ⟨fun _ => ?_, fun h' => by rw [hx] at h'; simp at h'⟩
        conv => whnf
        refine ⟨fun _ => ?_, fun h' => by rw [hx] at h'; simp at h'⟩
        conv => whnf
        refine ⟨_, _, [], [], c_minus x n 1 true (by omega) (by omega), one_fk rfl, nil_new, nil_upd, ?_⟩
        conv => whnf
        refine ⟨.val (.bool ((x : Int) == (n : Int) - 1)), [], [], [], op_pick rfl (ev_ok rfl) (fun hb => by rw [hx] at hb; cases hb) (fun _ => ev_ok rfl) (by rw [hx]; rfl) (c1 := .any), nil_fk, nil_new, nil_upd, ?_⟩
        conv => whnf
        have hx1 : (x == 1) = false := by rw [← eY]; exact hx
        rw [hx1, Bool.false_or] at eW
        rw [eX]
        refine ⟨fun h1 => ?_, fun h1 => ?_⟩
        · rw [h1, Bool.true_or] at eW
          conv => whnf
          rw [eI]
          exact ⟨3 - (i + 1), fun k => k, [1, 6, 7, 30, 31], [1], by omega, by kernel_rfl, i + 1, rfl, by omega, (next eW).symm, rfl, rfl⟩
        rw [h1, Bool.false_or] at eW
        conv => whnf
        have eT : IntKind.i64.wrap ((T : Int) - 1) = (T : Int) - 1 := wrap_i64 (by omega) (by omega)
        rw [eT]
        refine SW_loopN hE (fun k => k) [1, 6, 7, 10, 30, 31, 50, 51] [1] (fun m fr hp => ∃ y r, m = T - 1 - r ∧ y < n ∧ iterF (T - 1 - r) y n = iterF (T - 1) x n ∧ fr = [(1, .ptr 1 0 0 0), (6, .val (.int .i64 T)), (7, .clo 33 [] [.ptr 1 0 0 0]), (10, .val (.int .u32 (y : Nat))), (30, .agg (wits.map fun (q : Nat) => .val (.int .u32 q))), (31, .val (.int .i64 i)), (50, .val (.int .i64 ((T : Int) - 1))), (51, .val (.int .i64 (r : Nat)))] ∧ hp = [(1, ⟨22, true, .one [.val (.int .u32 n)]⟩)]) (T - 1) ?_ ?_ ?_
        · kernel_rfl
        · exact ⟨x, 0, rfl, e6, rfl, rfl, rfl⟩
        rintro m _ _ ⟨y, r, rfl, hy, hit, rfl, rfl⟩
        conv => whnf
        refine ⟨fun hr => ?_, fun hr => ?_⟩
        · have hr' : r + 1 < T := by have := of_decide_eq_true hr; omega
          conv => whnf
          refine ⟨[], _, [], [], c_Mul y y n (by omega) (by omega) (by omega) (by omega) (by omega) (by omega), nil_fk, nil_new, nil_upd, ?_⟩
          have eM : md ((y : Int) * y) n = ((y * y % n : Nat) : Int) := by
            simp only [md]
            rw [if_neg (by omega)]
            simp
          rw [eM]
          have hy2 : y * y % n < n := Nat.mod_lt _ (by omega)
          rw [show T - 1 - r = (T - 1 - (r + 1)) + 1 from by omega] at hit
          simp only [iterF] at hit
          generalize y * y % n = z at *
          have eZ : ((z : Int) == (n : Int) - 1) = (z == n - 1) := by rw [Bool.eq_iff_iff]; simp; omega
          conv => whnf
          refine ⟨_, _, [], [], c_minus z n 1 true (by omega) (by omega), one_fk rfl, nil_new, nil_upd, ?_⟩
          conv => whnf
          rw [eZ]
          refine ⟨fun h1 => ?_, fun h1 => ?_⟩
          · rw [h1, Bool.true_or] at hit
            rw [← hit] at eW
            conv => whnf
            rw [eI]
            exact ⟨3 - (i + 1), fun k => k, [1, 6, 7, 30, 31], [1], by omega, by kernel_rfl, i + 1, rfl, by omega, (next eW).symm, rfl, rfl⟩
          · rw [h1, Bool.false_or] at hit
            conv => whnf
            rw [show IntKind.i64.wrap ((r : Int) + 1) = ((r + 1 : Nat) : Int) from by rw [wrap_i64 (by omega) (by omega)]; omega]
            exact ⟨T - 1 - (r + 1), fun k => k, [1, 6, 7, 10, 30, 31, 50, 51], [1], by omega, by kernel_rfl, z, r + 1, rfl, hy2, hit, rfl, rfl⟩
        · have hr' : T - 1 - r = 0 := by have := of_decide_eq_false hr; omega
          rw [hr'] at hit
          have hit : false = iterF (T - 1) x n := hit
          rw [← hit] at eW
          conv => whnf
          rw [stop eW]
          exact Recast.refl _
      · conv => whnf
        refine ⟨fun h' => by rw [hx] at h'; simp at h', fun _ => ?_⟩
        conv => whnf
        refine ⟨fun h' => by rw [hx] at h'; simp at h', fun _ => ?_⟩
        conv => whnf
        refine ⟨.val (.bool true), [], [], [], op_pick rfl (ev_ok rfl) (fun _ => ev_ok rfl) (fun hb => by rw [hx] at hb; cases hb) (by rw [hx]; rfl) (c2 := .any), nil_fk, nil_new, nil_upd, ?_⟩
        conv => whnf
        refine ⟨fun _ => ?_, fun h' => by cases h'⟩
        have hx1 : (x == 1) = true := by rw [← eY]; exact hx
        rw [hx1, Bool.true_or] at eW
        conv => whnf
        rw [eI]
        exact ⟨3 - (i + 1), fun k => k, [1, 6, 7, 30, 31], [1], by omega, by kernel_rfl, i + 1, rfl, by omega, (next eW).symm, rfl, rfl⟩
    · have hi' : i = 3 := by have := of_decide_eq_false h; omega
      subst hi'
      have hW : wits.all (witF n T) = true := hW.symm
      rw [hW] at eP
      conv => whnf
      rw [eP]
      exact Recast.refl _
end Go.Proofs.YtghdcjhlhcoijaaDoor
