/- The texts Ok, Ol, Om, On, Oo, Ou, Ov, Op, Ow. -/
import Derived.Test.YtkpfineikahgfaaGreatDoorQLBareissStages5
namespace Go.Sx
set_option linter.unusedSimpArgs false
set_option linter.unusedVariables false
section
variable {P : Program} {o : Oper} {ft : List (Nat × SV)} {fk : List (Nat × Blk)}
/-- clear of a slice of one integer. -/
theorem op_clear1 {t e : TypeId} {x : Operand} {xs' : Array Operand} {ts : Array TypeId} {ti te : TI} {k i : Nat} {ty : TypeId} {kd : IntKind} {xs : List Int} (ho : o.op = .call ⟨.builtin .clear, xs', ts⟩) (hxs : xs' = #[x]) (hts : ts = #[t])
    (hx : EvOK ft x (.slc k 1 i 1)) (ht : TOK P t ti) (hk : ti.kind = .slc e) (he : TOK P e te) (hz : te.zero = [.val (.int kd 0)]) (hf : (k, ⟨ty, true, .ints kd xs⟩) ∈ fk) (hi : i < xs.length) :
    OpOK P o ft fk .any [] [(k, ⟨ty, true, .ints kd (xs.set i 0)⟩)] :=
  ok_value fun ρ a w hpre => by
    obtain ⟨z, hz1, hz2⟩ := he.zeroValue
    have hz3 : z.cells = #[.int kd 0] := by
      apply Array.ext'
      rw [hz2, hz]; rfl
    have hzc : (Builtin.zeroCells #[Value.int kd 0] 1).toList = [.int kd 0] := by simp [Builtin.zeroCells]
    have hu := ht.kind; rw [hk] at hu
    rcases has_slc (hx ρ a hpre.hft) with ⟨b, t', cap, h1, h2, h3, h4⟩ | ⟨h0, _⟩
    · rcases hpre.hfk k _ hf with g0 | ⟨b', n', vs, ex, g1, g2, g3, g4, g5⟩ | ⟨g1, _⟩
      · cases g0
      · rw [h1] at g1
        cases g1
        simp only [DataC] at g3
        rw [Data.obj_cells rfl] at g2
        have g2 : w.heap[b]? = some (.cells (vs ++ ex).toArray ty (0, 0)) := g2
        have hvl : vs.length = xs.length := by rw [g3, List.length_map]
        have hsc := run_storeCells_at (P := P) b i ty [.int kd 0] 0 (vs ++ ex).toArray w g2 (by simp; omega) (fun v hv => by simp at hv; subst hv; rfl)
        have hrow : ((vs ++ ex).toArray.toList.take (i + 0) ++ [Value.int kd 0] ++ (vs ++ ex).toArray.toList.drop (i + 0 + [Value.int kd 0].length)) = (xs.set i 0).map (.int kd) ++ ex := by
          rw [g3, List.map_set, List.set_eq_take_append_cons_drop, if_pos (by rw [List.length_map]; exact hi)]
          simp only [Nat.add_zero, List.length_singleton]
          rw [List.take_append_of_le_length (by rw [List.length_map]; omega), List.drop_append_of_le_length (by rw [List.length_map]; omega)]
          simp
        rw [hrow] at hsc
        rw [Nat.mul_one] at h4
        refine ⟨.tuple #[], w.setRow b ((xs.set i 0).map (Value.int kd) ++ ex).toArray, ρ, ?_, ?_⟩
        · simp [execOp, ho, hxs, hts, resolve, invoke, builtin, Builtin.clear_, run_underlying hu, h4, hz1, hz3, hzc, hsc]
        · refine ⟨.refl ρ, trivial, fun _ _ => rfl, ⟨rfl, rfl, rfl, by simp [World.setRow], fun i hi hn => ?_⟩, fun j bj hj => ?_, (fun j c c' h1 h2 h3 h4 => ?_), (fun _ _ _ h => by cases h), (fun _ _ _ _ _ _ h => by cases h), fun b o h => .inl h⟩
          · refine heap_setRow_other fun hib => hn ⟨k, _, t', List.mem_cons_self .., ?_⟩
            rw [hib]; exact h1
          · rcases hj with hj | hj
            · simp only [List.mem_singleton, Prod.mk.injEq] at hj
              obtain ⟨rfl, rfl⟩ := hj
              refine .inr (.inl ⟨b, t', _, ex, h1, by rw [Data.obj_cells rfl]; exact heap_setRow_same g2, rfl, ?_, g5⟩)
              rw [← g4]; simp [hvl]
            · cases hj
          · simp only [List.mem_singleton, Prod.mk.injEq] at h1 h2
            obtain ⟨_, rfl⟩ := h1
            obtain ⟨_, rfl⟩ := h2
            rw [h3] at h4; cases h4
      · rw [h1] at g1; cases g1
    · omega
end
end Go.Sx
namespace Go.Proofs.YtkpfineikahgfaaGreatDoor
open Go.Sx
set_option linter.unusedSimpArgs false
set_option linter.unusedVariables false
set_option maxRecDepth 100000
set_option maxHeartbeats 40000000

theorem upN_at {n i : Nat} (hi : i < n) : (upN n).getD i 0 = i := by simp [upN, List.getD_eq_getElem?_getD, hi]
/-- The numbers below n, m of them moved up. -/
def dlS (n j m : Nat) : List Int := (List.range n).map fun p : Nat => if j ≤ p ∧ p < m then (p : Int) + 1 else p
theorem dlS_len (n j m : Nat) : (dlS n j m).length = n := by simp [dlS]
theorem dlS_at {n j m p : Nat} (hp : p < n) : (dlS n j m).getD p 0 = if j ≤ p ∧ p < m then (p : Int) + 1 else p := by
  simp [dlS, List.getD_eq_getElem?_getD, hp]
theorem dlS_start (n j : Nat) : dlS n j j = upN n := by
  refine zec_ext (dlS_len ..) (upN_len _) fun p hp => ?_
  rw [dlS_at hp, upN_at hp, if_neg (by omega)]
theorem dlS_set {n j m : Nat} (hm : m < n) (hj : j ≤ m) : (dlS n j m).set m ((m : Int) + 1) = dlS n j (m + 1) := by
  refine zec_ext (by rw [List.length_set, dlS_len]) (dlS_len ..) fun p hp => ?_
  rw [dlS_at hp, List.getD_eq_getElem?_getD, List.getElem?_set]
  by_cases e : m = p
  · subst e; rw [if_pos rfl, if_pos (by rw [dlS_len]; exact hm), if_pos (by omega)]; rfl
  · rw [if_neg e, ← List.getD_eq_getElem?_getD, dlS_at hp]
    by_cases g : j ≤ p ∧ p < m
    · rw [if_pos g, if_pos (by omega)]
    · rw [if_neg g, if_neg (by omega)]
/-- The numbers below n but j. -/
abbrev butN (n j : Nat) : List Int := (List.range (n - 1)).map fun p : Nat => ((sk j p : Nat) : Int)
theorem butN_len (n j : Nat) : (butN n j).length = n - 1 := by simp
theorem butN_at {n j p : Nat} (hp : p < n - 1) : (butN n j).getD p 0 = (sk j p : Nat) := by
  simp [butN, List.getD_eq_getElem?_getD, hp]
theorem dlS_but (n j : Nat) (hj : j < n) : ((dlS n j (n - 1)).set (n - 1) 0).take (n - 1) = butN n j := by
  refine zec_ext (by rw [List.length_take, List.length_set, dlS_len]; omega) (butN_len ..) fun p hp => ?_
  rw [butN_at hp, List.getD_eq_getElem?_getD, List.getElem?_take, if_pos hp, List.getElem?_set_ne (by omega), ← List.getD_eq_getElem?_getD, dlS_at (by omega)]
  unfold sk
  by_cases g : p < j
  · rw [if_neg (by omega), if_pos g]
  · rw [if_pos (by omega), if_neg g]; omega

theorem b_isN (x j : Nat) (h : x < 100000) (h2 : j < 100000) : CallOK Tryz.prog 104 ([] ++ ([iv (x : Nat)] ++ [ptrA [iv j]])) [] (.val (.bool (decide (x = j)))) [] [] := by
  have e : ((x : Int) == (j : Int)) = decide (x = j) := by
    by_cases h : x = j
    · rw [h, decide_eq_true rfl]; exact beq_self_eq_true _
    · rw [decide_eq_false h]; exact beq_eq_false_iff_ne.2 (by omega)
  rw [← e]
  refine callV (Z := []) tabOK mixedOK Tryz.func104 rfl (by kernel_rfl) rfl rfl (by kernel_rfl) rfl ?_
  intro W0 w0 ρ0 hE
  conv => whnf
  (repeat (first | (refine g_o (op_loadA rfl (ev_ok rfl) (tgt rfl) rfl (Nat.succ_ne_zero _) rfl) ?_; conv => whnf))); (first | exact Recast.refl _ | exact Frz.recast (Recast.refl _) rfl | (refine Frz.one rfl rfl ?_; skip) | (refine Frz.tup ?_; skip))
theorem b_Index {n j : Nat} (hj : j < n) (hn : n ≤ 2048) (K : Nat) : CallOK Tryz.prog 193 [.slc K 1 0 n, .clo 104 [] [ptrA [iv j]]] [(K, iblkM (upN n))] (iv (j : Nat)) [] [] := by
  refine CallOK.anyWr ?_
  refine callK (Z := []) tabOK mixedOK Tryz.func193 rfl (by kernel_rfl) (args := [.slc 1001 1 0 n, .clo 104 [] [ptrA [iv j]]]) (fk := [(1001, ⟨3, false, .ints .i64 (upN n)⟩)]) (c := iv (j : Nat)) (new := []) (upd := []) (ShapeOK.of rfl rfl rfl rfl rfl rfl rfl rfl rfl rfl rfl) rfl (fun _ => K) (NamesOK.ro rfl) ?_
  intro W0 w0 ρ0 hE
  conv => whnf
  skip
  refine SW_loopN hE (fun k => k) [0, 1, 7, 8] [1001] (fun m fr hp => ∃ i : Nat, m = n - i ∧ i ≤ j ∧ fr = [(0, .slc 1001 1 0 n), (1, .clo 104 [] [ptrA [iv j]]), (7, iv n), (8, iv (i : Nat))] ∧ hp = [(1001, ⟨3, false, .ints .i64 (upN n)⟩)]) n ?_ ?_ ?_
  · kernel_rfl
  · exact ⟨0, rfl, Nat.zero_le _, rfl, rfl⟩
  rintro m _ _ ⟨i, rfl, hi, rfl, rfl⟩
  conv => whnf
  have t1 := dlt (show i < n by omega)
  have t2 := winc (i := i) (by omega)
  have g1 := upN_at (show i < n by omega)
  have lq := upN_len n
  have k1 := b_isN i j (by omega) (by omega)
  by_cases e : i = j
  · subst e
    rw [decide_eq_true rfl] at k1
    (repeat ((first | refine step_w1 rfl rfl ?_ | refine step_oL (by first | omega | decide | (simp only [tl0, dlen, List.length_replicate, List.length_set, List.length_map, List.length_zipWith, List.length_take, List.length_append, List.length_cons, List.length_nil]; omega)) ?_ | refine step_oA (by first | omega | decide | (simp only [tl0, dlen, List.length_replicate, List.length_set, List.length_map, List.length_zipWith, List.length_take, List.length_append, List.length_cons, List.length_nil]; omega)) ?_ | refine g_c (by assumption) ?_ | refine tst_tt t1 ?_ | rw [t1] | rw [g1] | rw [Int.toNat_natCast] | rw [Nat.zero_add]); conv => whnf))
    exact ⟨Recast.refl _, (fun _ _ h => by cases h), (fun _ _ h => by cases h)⟩
  · rw [decide_eq_false e] at k1
    (repeat ((first | refine step_w2 rfl rfl ?_ | refine step_oL (by first | omega | decide | (simp only [tl0, dlen, List.length_replicate, List.length_set, List.length_map, List.length_zipWith, List.length_take, List.length_append, List.length_cons, List.length_nil]; omega)) ?_ | refine step_oA (by first | omega | decide | (simp only [tl0, dlen, List.length_replicate, List.length_set, List.length_map, List.length_zipWith, List.length_take, List.length_append, List.length_cons, List.length_nil]; omega)) ?_ | refine g_c (by assumption) ?_ | refine tst_tt t1 ?_ | rw [t1] | rw [g1] | rw [t2] | rw [Int.toNat_natCast] | rw [Nat.zero_add]); conv => whnf))
    exact ⟨n - (i + 1), fun k => k, [0, 1, 7, 8], [1001], by omega, by kernel_rfl, i + 1, rfl, by omega, rfl, rfl⟩
theorem b_Delete {n j : Nat} (hj : j < n) (hn : n ≤ 2048) (K : Nat) : CallOK Tryz.prog 103 [.slc K 1 0 n, .clo 104 [] [ptrA [iv j]]] [(K, iblkM (upN n))] (.slc K 1 0 (n - 1)) [] [(K, iblkM ((dlS n j (n - 1)).set (n - 1) 0))] := by
  refine callK (Z := []) tabOK mixedOK Tryz.func103 rfl (by kernel_rfl) (args := [.slc 1001 1 0 n, .clo 104 [] [ptrA [iv j]]]) (fk := [(1001, iblkM (upN n))]) (c := .slc 1001 1 0 (n - 1)) (new := []) (upd := [(1001, iblkM ((dlS n j (n - 1)).set (n - 1) 0))]) (ShapeOK.of rfl rfl rfl rfl rfl rfl rfl rfl rfl rfl rfl) rfl (fun _ => K) NamesOK.upd ?_
  have k0 := b_Index hj hn 1001
  have t0 : ((j : Int) == -1) = false := beq_eq_false_iff_ne.2 (by omega)
  have t9 := winc (i := j) (by omega)
  intro W0 w0 ρ0 hE
  conv => whnf
  (repeat (first | (refine step_w2 rfl rfl ?_; conv => whnf) | (refine g_c1 (by assumption) rfl ?_; conv => whnf) | (rw [t0]; conv => whnf)))
  refine SW_loopN hE (fun k => k) [0, 1, 5, 6] [1001] (fun m fr hp => ∃ i : Nat, m = n - (i + 1) ∧ j ≤ i ∧ i < n ∧ fr = [(0, .slc 1001 1 0 n), (1, .clo 104 [] [ptrA [iv j]]), (5, iv (i : Nat)), (6, iv (i + 1 : Nat))] ∧ hp = [(1001, iblkM (dlS n j i))]) (n - (j + 1)) ?_ ?_ ?_
  · kernel_rfl
  · exact ⟨j, rfl, Nat.le_refl _, hj, by rw [← t9]; rfl, by rw [dlS_start]; rfl⟩
  clear k0
  rintro m _ _ ⟨i, rfl, hji, hi, rfl, rfl⟩
  conv => whnf
  have lq := dlS_len n j i
  by_cases hlt : i + 1 < n
  · have t1 : decide (((i + 1 : Nat) : Int) < (n : Int)) = true := decide_eq_true (by omega)
    have t2 := winc (i := i) (by omega)
    have t3 := winc (i := i + 1) (by omega)
    have g1 : (dlS n j i).getD (i + 1) 0 = ((i + 1 : Nat) : Int) := by rw [dlS_at hlt, if_neg (by omega)]
    have k1 := b_isN (i + 1) j (by omega) (by omega)
    rw [decide_eq_false (by omega)] at k1
    (repeat ((first | refine step_w1 rfl rfl ?_ | refine step_oL (by first | omega | decide | (simp only [tl0, dlen, List.length_replicate, List.length_set, List.length_map, List.length_zipWith, List.length_take, List.length_append, List.length_cons, List.length_nil]; omega)) ?_ | refine step_oA (by first | omega | decide | (simp only [tl0, dlen, List.length_replicate, List.length_set, List.length_map, List.length_zipWith, List.length_take, List.length_append, List.length_cons, List.length_nil]; omega)) ?_ | refine g_c (by assumption) ?_ | refine tst_tt t1 ?_ | rw [t1] | rw [g1] | rw [t2] | rw [t3] | rw [Int.toNat_natCast] | rw [Nat.zero_add]); conv => whnf))
    refine ⟨n - (i + 1 + 1), fun k => k, [0, 1, 5, 6], [1001], by omega, by kernel_rfl, i + 1, rfl, by omega, hlt, rfl, ?_⟩
    rw [← dlS_set hi hji]
    rfl
  · have t1 : decide (((i + 1 : Nat) : Int) < (n : Int)) = false := decide_eq_false (by omega)
    obtain rfl : i = n - 1 := by omega
    have e1 : ((n : Int) - ((n - 1 : Nat) : Int)).toNat = 1 := by omega
    have e2 : (((n - 1 : Nat) : Int)).toNat = n - 1 := by omega
    have lq2 : ((dlS n j (n - 1)).set (n - 1) 0).length = n := by rw [List.length_set, dlS_len]
    (repeat ((first | refine step_oA (by first | omega | decide | (simp only [tl0, dlen, List.length_replicate, List.length_set, List.length_map, List.length_zipWith, List.length_take, List.length_append, List.length_cons, List.length_nil]; omega)) ?_ | refine tst_ff t1 ?_ | refine ⟨.any, [(1001, iblkM (dlS n j (n - 1)))], [], [(1001, iblkM ((dlS n j (n - 1)).set (n - 1) 0))], op_clear1 rfl rfl rfl (ev_ok rfl) (tabOK.get (t := 62) rfl) rfl (tabOK.get (t := 3) rfl) rfl (List.mem_cons_self ..) (by omega), one_fk rfl, nil_new, one_upd (List.mem_cons_self ..) rfl rfl rfl, ?_⟩ | rw [t1] | rw [e1] | rw [e2] | rw [Nat.zero_add]); conv => whnf))
    exact ⟨by rw [show ((n - 1 : Nat) : Int) - 0 = ((n - 1 : Nat) : Int) from Int.sub_zero _, e2]; exact Recast.refl _, (fun _ _ h => by cases h), (fun k b h => by simp only [List.mem_singleton, Prod.mk.injEq] at h; obtain ⟨rfl, rfl⟩ := h; rfl)⟩
theorem b_but {r c : Nat} (a : List Int) {j : Nat} (hj : j < r) (hr : r ≤ 2048) : CallOK Tryz.prog 102 ([] ++ ([iv (j : Nat)] ++ [ptrA (wC r c a)])) [] (ivec .i64 (butN r j)) [] [] := by
  have k1 := (b_upToM r [] hr (by simp)).wk (args := [iv r, .val (.slice none 0 0)]) (by repeat (first | exact WkL.nil | refine WkL.cons ?_ ?_ | exact Wk.nil | exact Wk.refl | refine Wk.agg ?_))
  rw [show upL r [] = upN r from List.append_nil _] at k1
  have k2 := b_Delete hj hr 2001
  refine callF (Z := [2]) tabOK mixedOK Tryz.func102 rfl (by kernel_rfl) (by first | rfl | (simp [keylessL, keyless, keylessL_map, *]; done)) (by first | rfl | (simp [keylessL, keyless, keylessL_map, *]; done)) (by kernel_rfl) rfl ?_
  intro w0 ρ0 hE
  conv => whnf
  (repeat ((first | refine g_cn (by assumption) rfl ?_ | refine g_c1u (by assumption) rfl rfl ?_ | refine g_o (op_loadA rfl (ev_ok rfl) (tgt rfl) rfl (Nat.succ_ne_zero _) rfl) ?_ | refine g_o (op_fieldA rfl (ev_ok rfl) (tgt rfl) rfl rfl (Nat.succ_ne_zero _) rfl) ?_ | refine g_o (op_makeFunc rfl rfl rfl) ?_); conv => whnf))
  rw [← dlS_but r j hj]
  refine Frz.one rfl rfl ?_
  have := FrzC.slc (k := 2001) (w := 1) (i := 0) (n := r - 1) (ty := 3) (d := .ints .i64 ((dlS r j (r - 1)).set (r - 1) 0)) (xs := ((dlS r j (r - 1)).set (r - 1) 0).map fun x => .val (.int .i64 x)) (hp := [(2001, iblkM ((dlS r j (r - 1)).set (r - 1) 0))]) rfl rfl rfl (keylessL_map (fun _ => rfl) _) (by simp [dlS_len])
  rw [cutL, List.drop_zero, Nat.zero_add, Nat.sub_zero, ← List.map_take] at this
  exact this
/-- The adjugate of integers. -/
def adjZ (n : Nat) (A : Mz) : Mz := fun i k => sgZ (i + k) * detZ (n - 1) fun a b => A (sk k a) (sk i b)
theorem adjZ_cast (n : Nat) (A : Mz) (i k : Nat) : ((adjZ n A i k : Int) : Rat) = adj n (toR A) i k := by
  rw [adjZ, adj, Rat.intCast_mul, sgZ_cast, detZ_cast]; rfl
theorem butN_in {n j : Nat} : ∀ x, x < (butN n j).length → 0 ≤ (butN n j).getD x 0 ∧ (butN n j).getD x 0 < n := by
  intro x hx
  rw [butN_len] at hx
  rw [butN_at hx]
  have := sk_lt (k := j) hx
  omega
theorem b_Adj1 {n B : Nat} {a : List Int} (ha : OKZ n n a) (za : Zm B a) (hB : 2 ≤ B) (hn : n ≤ 40) (hb : 2 * (B * 4 ^ n) ≤ 1073741824) {i k : Nat} (hi : i < n) (hk : k < n) :
    CallOK Tryz.prog 101 ([] ++ ([iv (i : Nat), iv (k : Nat)] ++ [ptrA (wC n n a)])) [] (.int (adjZ n (elz a n) i k)) [] [] := by
  have k1 := b_but (c := n) a hk (by omega)
  have k2 := b_but (c := n) a hi (by omega)
  have k3 := b_part ha (p := butN n k) (q := butN n i) butN_in butN_in (by rw [butN_len]; omega) (by rw [butN_len]; omega)
  rw [butN_len, butN_len] at k3
  have hpow : B * 4 ^ (n - 1) ≤ B * 4 ^ n := Nat.mul_le_mul_left B (Nat.pow_le_pow_right (by decide) (by omega))
  have k4 := b_det (n := n - 1) (B := B) (a := mkz (n - 1) (n - 1) fun x y => elz a n ((butN n k).getD x 0).toNat ((butN n i).getD y 0).toNat) (OKZ.mk' (by omega) (by omega) _) hB
    (Zm_el za ha.n (fun x hx => by rw [butN_at hx]; have := sk_lt (k := k) hx; omega) (fun x hx => by rw [butN_at hx]; have := sk_lt (k := i) hx; omega)) (by omega) (by omega)
  have ed : detZ (n - 1) (elz (mkz (n - 1) (n - 1) fun x y => elz a n ((butN n k).getD x 0).toNat ((butN n i).getD y 0).toNat) (n - 1)) = detZ (n - 1) fun x y => elz a n (sk k x) (sk i y) :=
    detZ_congr fun x y hx hy => by rw [mkz_el hx hy, butN_at hx, butN_at hy]; rfl
  rw [ed] at k4
  have w1 : IntKind.i64.wrap ((i : Int) + (k : Int)) = ((i + k : Nat) : Int) := by rw [wrap_i64 (by omega) (by omega)]; omega
  have e3 : ((i + k : Nat) : Int).tmod 2 = ((i + k : Nat) : Int) % 2 := Int.tmod_eq_emod_of_nonneg (Int.natCast_nonneg _)
  rw [adjZ, sgZ_mod]
  generalize (detZ (n - 1) fun x y => elz a n (sk k x) (sk i y)) = D at *
  by_cases hodd : (i + k) % 2 = 1
  · have t2 : (((i + k : Nat) : Int).tmod 2 == 1) = true := by rw [e3]; exact beq_iff_eq.2 (by omega)
    have k5 := c_Neg D
    rw [if_pos hodd, Int.neg_one_mul]
    refine callV (Z := []) tabOK mixedOK Tryz.func101 rfl (by kernel_rfl) rfl rfl (by kernel_rfl) rfl ?_
    intro W0 w0 ρ0 hE
    conv => whnf
    (repeat ((first | refine step_i (by kernel_rfl) ?_ | refine step_oN (by first | omega | decide | (simp only [tl0, dlen, List.length_replicate, List.length_set, List.length_map, List.length_zipWith, List.length_take, List.length_append, List.length_cons, List.length_nil]; omega)) ?_ | refine g_c (by assumption) ?_ | refine tst_tt t2 ?_ | refine g_o (op_loadA rfl (ev_ok rfl) (tgt rfl) rfl (Nat.succ_ne_zero _) rfl) ?_ | refine g_o (op_makeFunc rfl rfl rfl) ?_ | rw [w1]); conv => whnf)); (first | exact Recast.refl _ | exact Frz.recast (Recast.refl _) rfl | (refine Frz.one rfl rfl ?_; skip) | (refine Frz.tup ?_; skip))
  · have t2 : (((i + k : Nat) : Int).tmod 2 == 1) = false := by rw [e3]; exact beq_eq_false_iff_ne.2 (by omega)
    rw [if_neg hodd, Int.one_mul]
    refine callV (Z := []) tabOK mixedOK Tryz.func101 rfl (by kernel_rfl) rfl rfl (by kernel_rfl) rfl ?_
    intro W0 w0 ρ0 hE
    conv => whnf
    (repeat ((first | refine step_i (by kernel_rfl) ?_ | refine step_oN (by first | omega | decide | (simp only [tl0, dlen, List.length_replicate, List.length_set, List.length_map, List.length_zipWith, List.length_take, List.length_append, List.length_cons, List.length_nil]; omega)) ?_ | refine g_c (by assumption) ?_ | refine tst_ff t2 ?_ | refine g_o (op_loadA rfl (ev_ok rfl) (tgt rfl) rfl (Nat.succ_ne_zero _) rfl) ?_ | refine g_o (op_makeFunc rfl rfl rfl) ?_ | rw [w1]); conv => whnf)); (first | exact Recast.refl _ | exact Frz.recast (Recast.refl _) rfl | (refine Frz.one rfl rfl ?_; skip) | (refine Frz.tup ?_; skip))
theorem b_Adjugate {n B : Nat} {a : List Int} (ha : OKZ n n a) (za : Zm B a) (hB : 2 ≤ B) (hB2 : B ≤ 536870912) (hn : n ≤ 40) (hb : 2 * (B * 4 ^ n) ≤ 1073741824) :
    CallOK Tryz.prog 26 [wA n n a] [] (.tup [wA n n (mkz n n (adjZ n (elz a n))), iv 0]) [] [] := by
  have k0 := b_square n n a (by have := ha.n; have : n * n ≤ 40 * 40 := Nat.mul_le_mul hn hn; omega) (fun i hi => Nat.le_trans (za i hi) hB2)
  rw [check_ok ha.r ha.c ha.n, if_pos rfl, if_pos rfl] at k0
  have k1 := b_made1 (r := n) (c := n) (by omega) (by omega) (adjZ n (elz a n)) 101 (ptrP (wC n n a)) (fun i k hi hk => b_Adj1 ha za hB hn hb hi hk)
  refine callV (Z := [1]) tabOK mixedOK Tryz.func26 rfl (by kernel_rfl) rfl rfl (by kernel_rfl) rfl ?_
  intro W0 w0 ρ0 hE
  conv => whnf
  (repeat ((first | refine step_w2 rfl rfl ?_ | refine g_c (by assumption) ?_ | rw [bne_self_eq_false] | refine g_o (op_loadA rfl (ev_ok rfl) (tgt rfl) rfl (Nat.succ_ne_zero _) rfl) ?_ | refine g_o (op_fieldA rfl (ev_ok rfl) (tgt rfl) rfl rfl (Nat.succ_ne_zero _) rfl) ?_ | refine g_o (op_makeFunc rfl rfl rfl) ?_); conv => whnf)); (first | exact Recast.refl _ | exact Frz.recast (Recast.refl _) rfl | (refine Frz.one rfl rfl ?_; skip) | (refine Frz.tup ?_; skip))
end Go.Proofs.YtkpfineikahgfaaGreatDoor

namespace Go.Proofs.YtkpfineikahgfaaGreatDoor
open Go.Sx
set_option linter.unusedSimpArgs false
set_option linter.unusedVariables false
set_option maxRecDepth 100000
set_option maxHeartbeats 40000000

/-- The least common multiple of the denominators. -/
def mlS (all : Nat) (x : Rat) : Nat := all * (x.den / Nat.gcd all x.den)
def mlF (l : List Rat) : Nat := l.foldl mlS 1
theorem mlF_take {l : List Rat} {i : Nat} (hi : i < l.length) : mlF (l.take (i + 1)) = mlS (mlF (l.take i)) (l.getD i 0) := by
  rw [mlF, List.take_add_one, List.getElem?_eq_getElem hi, List.foldl_append, List.getD_eq_getElem?_getD, List.getElem?_eq_getElem hi]; rfl
theorem mlS_pos {a : Nat} {x : Rat} (ha : 0 < a) : 0 < mlS a x := by
  unfold mlS
  exact Nat.mul_pos ha (Nat.div_pos (Nat.le_of_dvd x.den_pos (Nat.gcd_dvd_right _ _)) (Nat.gcd_pos_of_pos_left _ ha))
theorem mlF_pos : ∀ (l : List Rat) (a : Nat), 0 < a → 0 < l.foldl mlS a
  | [], _, h => h
  | x :: l, a, h => mlF_pos l _ (mlS_pos h)
theorem den_fs (x : Rat) : sz x.den + 1 ≤ fs x := by have := fsz_den x; unfold fs; omega
theorem mlF_sz {l : List Rat} {B : Nat} (h : Sm B l) : ∀ i, i ≤ l.length → sz (mlF (l.take i)) ≤ 1 + i * B
  | 0, _ => by rw [List.take_zero, mlF, List.foldl_nil, sz_one]; omega
  | i + 1, hi => by
    have h1 := mlF_sz h i (by omega)
    have h2 := h i (by omega)
    have h3 := den_fs (l.getD i 0)
    have h4 := sz_mul (mlF (l.take i)) ((l.getD i 0).den / Nat.gcd (mlF (l.take i)) (l.getD i 0).den)
    have h5 := sz_div (l.getD i 0).den (Nat.gcd (mlF (l.take i)) (l.getD i 0).den)
    rw [mlF_take (by omega), mlS, Nat.succ_mul]; omega
theorem b_multiple {l : List Rat} {B : Nat} (hz : Sm B l) (hl : l.length < 1099511627776) (hb : 1 + (l.length + 1) * B ≤ 1073741824) : CallOK Tryz.prog 125 [fvec l] [] (.nat (mlF l)) [] [] := by
  have k0 := c_nOf 1 (by decide)
  refine callV (Z := []) tabOK mixedOK Tryz.func125 rfl (by kernel_rfl) rfl rfl (by kernel_rfl) rfl ?_
  intro W0 w0 ρ0 hE
  conv => whnf
  (repeat (first | (refine g_c (by assumption) ?_; conv => whnf) | (refine g_o (op_lenM rfl rfl rfl (ev_ok rfl) (tgt rfl) rfl) ?_; conv => whnf)))
  refine SW_loopN hE (fun k => k) [2, 3, 11, 12, 13] [2, 3] (fun m fr hp => ∃ i, m = l.length - i ∧ i ≤ l.length ∧ fr = [(2, .ptr 2 0 0 0), (3, .ptr 3 0 0 0), (11, fvec l), (12, iv (l.length : Nat)), (13, iv (i : Nat))] ∧
    hp = [(2, ⟨32, true, .one [.nat 0]⟩), (3, ⟨32, true, .one [.nat (mlF (l.take i))]⟩)]) l.length ?_ ?_ ?_
  · kernel_rfl
  · exact ⟨0, rfl, Nat.zero_le _, rfl, rfl⟩
  clear k0
  rintro m _ _ ⟨i, rfl, hi, rfl, rfl⟩
  conv => whnf
  by_cases hlt : i < l.length
  · have t1 := dlt hlt
    have t2 := winc (i := i) (by omega)
    have h1 := mlF_sz hz i hi
    have h2 := hz i hlt
    have h3 : i * B ≤ l.length * B := Nat.mul_le_mul_right B hi
    rw [Nat.succ_mul] at hb
    have h4 := den_fs (l.getD i 0)
    have h0 : 0 < mlF (l.take i) := mlF_pos _ _ (by decide)
    have hg : Nat.gcd (mlF (l.take i)) (l.getD i 0).den ≠ 0 := Nat.pos_iff_ne_zero.1 (Nat.gcd_pos_of_pos_left _ h0)
    have h5 := sz_gcd_l (b := (l.getD i 0).den) (Nat.pos_iff_ne_zero.1 h0)
    have h6 := sz_div (l.getD i 0).den (Nat.gcd (mlF (l.take i)) (l.getD i 0).den)
    have k1 := c_Den natBig (l.getD i 0) (by omega)
    have k2 := natBig.gcd (mlF (l.take i)) (l.getD i 0).den (by omega) (by omega)
    have k3 := natBig.div (l.getD i 0).den (Nat.gcd (mlF (l.take i)) (l.getD i 0).den) (by omega) (by omega) hg
    have k4 := natBig.mul (mlF (l.take i)) ((l.getD i 0).den / Nat.gcd (mlF (l.take i)) (l.getD i 0).den) (by omega)
    clear h1 h2 h3 h4 h5 h6
    (repeat ((first | refine step_w1 rfl rfl ?_ | refine step_i (by kernel_rfl) ?_ | refine g_c (by assumption) ?_ | refine g_o (op_indexN (α := Rat) (d := 0) rfl (ev_ok rfl) (ev_ok rfl) (tgt rfl) rfl (tgt rfl) rfl (by omega)) ?_ | refine g_o (op_loadA rfl (ev_ok rfl) (tgt rfl) rfl (Nat.succ_ne_zero _) rfl) ?_ | rw [t1] | rw [t2]); conv => whnf))
    exact ⟨l.length - (i + 1), fun k => k, [2, 3, 11, 12, 13], [2, 3], by omega, by kernel_rfl, i + 1, rfl, hlt, rfl, by rw [mlF_take hlt]; rfl⟩
  · have t1 := dge hlt
    rw [List.take_of_length_le (by omega)]
    (repeat (first | (refine step_w2 rfl rfl ?_; conv => whnf) | (rw [t1]; conv => whnf))); (first | exact Recast.refl _ | exact Frz.recast (Recast.refl _) rfl | (refine Frz.one rfl rfl ?_; skip) | (refine Frz.tup ?_; skip))

/-- The matrix with its rows multiplied. -/
abbrev byL (r c : Nat) (a : List Rat) : List Nat := (List.range r).map fun i => mlF (rowL a c i)
abbrev clZ (r c : Nat) (a : List Rat) : List Int := mkz r c fun i k => (el a c i k * (mlF (rowL a c i) : Rat)).num
theorem byL_len (r c : Nat) (a : List Rat) : (byL r c a).length = r := by simp
theorem byL_at {r c i : Nat} (a : List Rat) (hi : i < r) : (byL r c a).getD i 0 = mlF (rowL a c i) := by simp [List.getD_eq_getElem?_getD, hi]
abbrev nvec (l : List Nat) : SV := mvec 2 .nat l
abbrev nfil (l : List Nat) (n i : Nat) : Blk := ⟨32, true, .seq 2 ((l.map SV.nat).take i ++ List.replicate (n - i) (SV.nat 0))⟩
theorem b_Clear {r c B : Nat} {a : List Rat} (ha : OKM r c a) (sa : Sm B a) (hB : 2 ≤ B) (hb : 4 + (c + 3) * B ≤ 536870912) :
    CallOK Tryz.prog 46 [mA r c a] [] (.tup [wA r c (clZ r c a), nvec (byL r c a), iv 0]) [] [] := by
  have hr := ha.r
  have hc := ha.c
  have hn := ha.n
  have hrc : r * c ≤ 2048 * 2048 := Nat.mul_le_mul hr hc
  have k0 := m_Check0 ha
  refine callF (Z := [1]) tabOK mixedOK Tryz.func46 rfl (by kernel_rfl) (by first | rfl | (simp [keylessL, keyless, keylessL_map, *]; done)) (by first | rfl | (simp [keylessL, keyless, keylessL_map, *]; done)) (by kernel_rfl) rfl ?_
  intro w0 ρ0 hE
  conv => whnf
  (repeat ((first | refine step_w2 rfl rfl ?_ | refine step_i (by kernel_rfl) ?_ | refine step_oA (by first | omega | decide | (simp only [tl0, dlen, List.length_replicate, List.length_set, List.length_map, List.length_zipWith, List.length_take, List.length_append, List.length_cons, List.length_nil]; omega)) ?_ | refine g_c (by assumption) ?_ | rw [bne_self_eq_false] | refine g_o (op_lenM rfl rfl rfl (ev_ok rfl) (tgt rfl) rfl) ?_ | refine g_o (op_loadA rfl (ev_ok rfl) (tgt rfl) rfl (Nat.succ_ne_zero _) rfl) ?_ | refine g_o (op_fieldA rfl (ev_ok rfl) (tgt rfl) rfl rfl (Nat.succ_ne_zero _) rfl) ?_ | rw [Int.toNat_natCast]); conv => whnf))
  have lz : (clZ r c a).length = a.length := by rw [mkz_len, hn]
  have ly := byL_len r c a
  have lz2 : ((clZ r c a).map SV.int).length = a.length := by rw [List.length_map, lz]
  have ly2 : ((byL r c a).map SV.nat).length = r := by rw [List.length_map, ly]
  refine SW_loopN hE (fun k => k) [1, 2, 3, 4, 6, 7, 31, 32] [2, 6, 25, 29] (fun m fr hp => ∃ i : Nat, m = r - i ∧ i ≤ r ∧ fr = [(1, ptrA (mC r c a)), (2, .ptr 2 0 0 0), (3, .val (.slice none 0 0)), (4, iv 0), (6, .ptr 6 0 0 0), (7, .slc 29 2 0 r), (31, iv r), (32, iv (i : Nat))] ∧
    hp = [(2, zW), (6, ⟨55, true, .one [iv r, iv c, .slc 25 3 0 a.length]⟩), (25, zfil (clZ r c a) a.length (i * c)), (29, nfil (byL r c a) r i)]) r ?_ ?_ ?_
  · kernel_rfl
  · exact ⟨0, rfl, Nat.zero_le _, rfl, by rw [Nat.zero_mul, zfil, nfil, List.take_zero, List.take_zero]; rfl⟩
  clear k0
  rintro m _ _ ⟨i, rfl, hi, rfl, rfl⟩
  conv => whnf
  by_cases hlt : i < r
  · have t2 := dlt hlt
    have t3 := winc (i := i) (by omega)
    have hic : (i + 1) * c ≤ r * c := Nat.mul_le_mul_right c hlt
    obtain ⟨w1, w2, w3⟩ := row_w (i := i) (c := c) (by omega) hc
    have hle : i * c ≤ (i + 1) * c := Nat.mul_le_mul_right c (by omega)
    have lrow := rowL_len hlt hn
    have srow : Sm B (rowL a c i) := fun p hp => by
      rw [lrow] at hp
      rw [rowL_get hp]; exact el_sm sa hn hlt hp
    have k1 := b_multiple srow (by omega) (by rw [lrow]; have := Nat.mul_le_mul_right B (show c + 1 ≤ c + 3 by omega); omega)
    have g1 : (((byL r c a).map SV.nat).take i ++ List.replicate (r - i) (SV.nat 0)).getD i SV.any = .nat 0 := fill_get hlt ly2
    have lny := fill_len (d := SV.nat 0) hi ly2
    have e1 : (i + 1) * c - i * c = c := by rw [Nat.succ_mul]; omega
    have e2 : ((byL r c a).map SV.nat).getD i (SV.nat 0) = .nat (mlF (rowL a c i)) := by rw [map_getD (d := 0) (by omega), byL_at a hlt]
    have hsy := fill_set (d := SV.nat 0) (e := SV.nat 0) hlt ly2
    rw [e2] at hsy
    (repeat ((first | refine step_w1 rfl rfl ?_ | refine step_oL (by first | omega | decide | (simp only [tl0, dlen, List.length_replicate, List.length_set, List.length_map, List.length_zipWith, List.length_take, List.length_append, List.length_cons, List.length_nil]; omega)) ?_ | refine step_oA (by first | omega | decide | (simp only [tl0, dlen, List.length_replicate, List.length_set, List.length_map, List.length_zipWith, List.length_take, List.length_append, List.length_cons, List.length_nil]; omega)) ?_ | refine g_c (by assumption) ?_ | refine g_o (op_lenM rfl rfl rfl (ev_ok rfl) (tgt rfl) rfl) ?_ | refine g_o (op_loadA rfl (ev_ok rfl) (tgt rfl) rfl (Nat.succ_ne_zero _) rfl) ?_ | refine g_o (op_fieldA rfl (ev_ok rfl) (tgt rfl) rfl rfl (Nat.succ_ne_zero _) rfl) ?_ | refine g_o (op_sliceM rfl (ev_ok rfl) (bound_spec rfl) (bound_spec rfl) (.inl rfl) (tgt rfl) rfl (tgt rfl) rfl (by omega)) ?_ | rw [t2] | rw [w1] | rw [w3] | rw [w2] | rw [e1] | rw [g1] | rw [hsy] | rw [Int.toNat_natCast] | rw [Nat.zero_add]); conv => whnf))
    refine SW_loopN hE (fun k => k) [1, 2, 3, 4, 6, 7, 8, 9, 31, 32, 52, 53, 54] [2, 6, 25, 29] (fun m fr hp => ∃ k : Nat, m = c - k ∧ k ≤ c ∧ fr = [(1, ptrA (mC r c a)), (2, .ptr 2 0 0 0), (3, .val (.slice none 0 0)), (4, iv 0), (6, .ptr 6 0 0 0), (7, .slc 29 2 0 r), (8, iv (i : Nat)), (9, fvec (rowL a c i)), (31, iv r), (32, iv (i : Nat)), (52, fvec (rowL a c i)), (53, iv ((rowL a c i).length : Nat)), (54, iv (k : Nat))] ∧
      hp = [(2, zW), (6, ⟨55, true, .one [iv r, iv c, .slc 25 3 0 a.length]⟩), (25, zfil (clZ r c a) a.length (i * c + k)), (29, nfil (byL r c a) r (i + 1))]) c ?_ ?_ ?_
    · kernel_rfl
    · exact ⟨0, rfl, Nat.zero_le _, rfl, rfl⟩
    clear k1
    rintro m _ _ ⟨k, rfl, hk, rfl, rfl⟩
    conv => whnf
    by_cases hlk : k < c
    · have t4 := dlt (show k < (rowL a c i).length by omega)
      have t5 := winc (i := k) (by omega)
      obtain ⟨w4, w5⟩ := idx_w (i := i) (k := k) (c := c) (by omega) hc (by omega)
      rw [Nat.succ_mul] at hic
      have hx : i * c + k < a.length := by omega
      have hkr : k < (rowL a c i).length := by omega
      have hlen := zfil_len (l := clZ r c a) (show i * c + k ≤ a.length by omega) lz
      have t6 := zfil_get (l := clZ r c a) (show i * c + k < a.length by omega) lz
      have lny2 := fill_len (d := SV.nat 0) (show i + 1 ≤ r by omega) ly2
      have g2 : (((byL r c a).map SV.nat).take (i + 1) ++ List.replicate (r - (i + 1)) (SV.nat 0)).getD i SV.any = .nat (mlF (rowL a c i)) := by
        rw [List.getD_eq_getElem?_getD, List.getElem?_append_left (by rw [List.length_take, ly2]; omega), List.getElem?_take, if_pos (by omega), ← List.getD_eq_getElem?_getD, map_getD (d := 0) (by omega), byL_at a hlt]
      have hgr : (rowL a c i).getD k 0 = el a c i k := rowL_get hlk
      have hfs : fs (el a c i k) ≤ B := el_sm sa hn hlt hlk
      have hml : sz (mlF (rowL a c i)) ≤ 1 + c * B := by
        have := mlF_sz srow c (by omega)
        rwa [List.take_of_length_le (by omega)] at this
      have hcb : (c + 3) * B = c * B + 3 * B := Nat.add_mul c 3 B
      have k2 := c_From false (mlF (rowL a c i))
      rw [show signed false (mlF (rowL a c i)) = ((mlF (rowL a c i) : Nat) : Int) from rfl] at k2
      have hzs : zs ((mlF (rowL a c i) : Nat) : Int) ≤ 2 + c * B := by unfold zs; rw [Int.natAbs_natCast]; omega
      have hfz := fs_zs ((mlF (rowL a c i) : Nat) : Int)
      have k3 := b_frac ((mlF (rowL a c i) : Nat) : Int) (by omega)
      have k4 := f_Mul (el a c i k) (((mlF (rowL a c i) : Nat) : Int) : Rat) (by omega)
      have k5 := c_Num (el a c i k * (((mlF (rowL a c i) : Nat) : Int) : Rat))
      have hel : elz (clZ r c a) c i k = (el a c i k * (((mlF (rowL a c i) : Nat) : Int) : Rat)).num := by rw [mkz_el hlt hlk]; rfl
      rw [← hel] at k5
      rw [← hgr] at k4 k5
      clear hgr hfs hml hcb hzs hfz hic hle
      (repeat ((first | refine step_w1 rfl rfl ?_ | refine step_i (by kernel_rfl) ?_ | refine step_oL (by first | omega | decide | (simp only [tl0, dlen, List.length_replicate, List.length_set, List.length_map, List.length_zipWith, List.length_take, List.length_append, List.length_cons, List.length_nil]; omega)) ?_ | refine step_oA (by first | omega | decide | (simp only [tl0, dlen, List.length_replicate, List.length_set, List.length_map, List.length_zipWith, List.length_take, List.length_append, List.length_cons, List.length_nil]; omega)) ?_ | refine g_c (by assumption) ?_ | refine g_o (op_indexN (α := Rat) (d := 0) rfl (ev_ok rfl) (ev_ok rfl) (tgt rfl) rfl (tgt rfl) rfl (by omega)) ?_ | refine g_o (op_loadA rfl (ev_ok rfl) (tgt rfl) rfl (Nat.succ_ne_zero _) rfl) ?_ | refine g_o (op_fieldA rfl (ev_ok rfl) (tgt rfl) rfl rfl (Nat.succ_ne_zero _) rfl) ?_ | rw [t4] | rw [w4] | rw [w5] | rw [t6] | rw [g2] | rw [t5] | rw [Int.toNat_natCast] | rw [Nat.zero_add]); conv => whnf))
      refine ⟨c - (k + 1), fun k => k, [1, 2, 3, 4, 6, 7, 8, 9, 31, 32, 52, 53, 54], [2, 6, 25, 29], by omega, by kernel_rfl, k + 1, rfl, hlk, rfl, ?_⟩
      rw [show i * c + (k + 1) = i * c + k + 1 from rfl, zfil, ← zfil_set (show i * c + k < a.length by omega) lz]
      rfl
    · have t4 := dge (show ¬ k < (rowL a c i).length by omega)
      obtain rfl : k = c := by omega
      (repeat (first | (refine step_w2 rfl rfl ?_; conv => whnf) | (rw [t4]; conv => whnf) | (rw [t3]; conv => whnf)))
      refine ⟨r - (i + 1), fun k => k, [1, 2, 3, 4, 6, 7, 31, 32], [2, 6, 25, 29], by omega, by kernel_rfl, i + 1, rfl, hlt, rfl, ?_⟩
      rw [Nat.succ_mul]
      rfl
  · have t2 := dge hlt
    obtain rfl : i = r := by omega
    rw [← hn, zfil_all lz, nfil, fill_all ly2]
    (repeat (first | (refine step_w2 rfl rfl ?_; conv => whnf) | (rw [t2]; conv => whnf)))
    (first | exact Recast.refl _ | exact Frz.recast (Recast.refl _) rfl | (refine Frz.one rfl rfl ?_; skip) | (refine Frz.tup ?_; (repeat (first | exact FrzC.keyless rfl | exact FrzL.nil | refine FrzL.cons ?_ ?_ | refine FrzC.agg ?_ | (refine FrzC.seq rfl (by first | rfl | (apply keylessL_map; intro _; rfl)) ?_; (first | rfl | omega | (simp <;> fail) | (simp <;> omega)))))))
end Go.Proofs.YtkpfineikahgfaaGreatDoor

namespace Go.Proofs.YtkpfineikahgfaaGreatDoor
open Go.Sx
set_option linter.unusedSimpArgs false
set_option linter.unusedVariables false
set_option maxRecDepth 100000
set_option maxHeartbeats 40000000

theorem b_Det {n B : Nat} {a : List Int} (ha : OKZ n n a) (za : Zm B a) (hB : 2 ≤ B) (hB2 : B ≤ 536870912) (hn : n ≤ 40) (hb : 2 * (B * 4 ^ n) ≤ 1073741824) :
    CallOK Tryz.prog 27 [wA n n a] [] (.tup [.int (detZ n (elz a n)), iv 0]) [] [] := by
  have k0 := b_square n n a (by have := ha.n; have : n * n ≤ 40 * 40 := Nat.mul_le_mul hn hn; omega) (fun i hi => Nat.le_trans (za i hi) hB2)
  rw [check_ok ha.r ha.c ha.n, if_pos rfl, if_pos rfl] at k0
  have k1 := b_det ha hB za hn hb
  refine callV (Z := [1]) tabOK mixedOK Tryz.func27 rfl (by kernel_rfl) rfl rfl (by kernel_rfl) rfl ?_
  intro W0 w0 ρ0 hE
  conv => whnf
  (repeat ((first | refine step_w2 rfl rfl ?_ | refine g_c (by assumption) ?_ | rw [bne_self_eq_false] | refine g_o (op_loadA rfl (ev_ok rfl) (tgt rfl) rfl (Nat.succ_ne_zero _) rfl) ?_); conv => whnf)); (first | exact Recast.refl _ | exact Frz.recast (Recast.refl _) rfl | (refine Frz.one rfl rfl ?_; skip) | (refine Frz.tup ?_; skip))
/-- The matrix with a column replaced. -/
def crM (n : Nat) (a b : List Int) (c : Nat) : Mz := fun i k => if k = c then b.getD i 0 else elz a n i k
theorem b_Cr11 {n : Nat} {a b : List Int} (ha : OKZ n n a) (hb : b.length = n) {c i k : Nat} (hi : i < n) (hk : k < n) :
    CallOK Tryz.prog 128 ([] ++ ([iv (i : Nat), iv (k : Nat)] ++ [ptrA [iv c], ptrA [zvec b], ptrA (wC n n a)])) [] (.int (crM n a b c i k)) [] [] := by
  have k1 := b_at ha hi hk
  unfold crM
  by_cases h : k = c
  · have t1 : ((k : Int) == (c : Int)) = true := by rw [h]; exact beq_self_eq_true _
    rw [if_pos h]
    refine callV (Z := []) tabOK mixedOK Tryz.func128 rfl (by kernel_rfl) rfl rfl (by kernel_rfl) rfl ?_
    intro W0 w0 ρ0 hE
    conv => whnf
    (repeat (first | (refine tst_tt t1 ?_; conv => whnf) | (refine g_o (op_loadA rfl (ev_ok rfl) (tgt rfl) rfl (Nat.succ_ne_zero _) rfl) ?_; conv => whnf) | (refine g_o (op_indexN (α := Int) (d := 0) rfl (ev_ok rfl) (ev_ok rfl) (tgt rfl) rfl (tgt rfl) rfl (by omega)) ?_; conv => whnf))); (first | exact Recast.refl _ | exact Frz.recast (Recast.refl _) rfl | (refine Frz.one rfl rfl ?_; skip) | (refine Frz.tup ?_; skip))
  · have t1 : ((k : Int) == (c : Int)) = false := beq_eq_false_iff_ne.2 (by omega)
    rw [if_neg h]
    refine callV (Z := []) tabOK mixedOK Tryz.func128 rfl (by kernel_rfl) rfl rfl (by kernel_rfl) rfl ?_
    intro W0 w0 ρ0 hE
    conv => whnf
    (repeat (first | (refine g_c (by assumption) ?_; conv => whnf) | (refine tst_ff t1 ?_; conv => whnf) | (refine g_o (op_loadA rfl (ev_ok rfl) (tgt rfl) rfl (Nat.succ_ne_zero _) rfl) ?_; conv => whnf))); (first | exact Recast.refl _ | exact Frz.recast (Recast.refl _) rfl | (refine Frz.one rfl rfl ?_; skip) | (refine Frz.tup ?_; skip))
theorem crM_zs {n B : Nat} {a b : List Int} (ha : OKZ n n a) (za : Zm B a) (hb : b.length = n) (zb : Zm B b) (c : Nat) : Zm B (mkz n n (crM n a b c)) :=
  Zm_mk fun i k hi hk => by
    unfold crM
    split
    · exact zb i (by omega)
    · exact elz_zm za ha.n hi hk
theorem b_Cr1 {n B : Nat} {a b : List Int} (ha : OKZ n n a) (za : Zm B a) (hl : b.length = n) (zb : Zm B b) (hB : 2 ≤ B) (hn : n ≤ 40) (hb : 2 * (B * 4 ^ n) ≤ 1073741824) (c : Nat) :
    CallOK Tryz.prog 127 ([] ++ ([iv (c : Nat)] ++ [ptrA (wC n n a), ptrA [zvec b]])) [] (.int (detZ n (crM n a b c))) [] [] := by
  have k1 := b_made3 (r := n) (c := n) (by omega) (by omega) (crM n a b c) 128 (ptrP [iv c]) (ptrP [zvec b]) (ptrP (wC n n a)) (fun i k hi hk => b_Cr11 ha hl hi hk)
  have k2 := b_det (OKZ.mk' (r := n) (c := n) (by omega) (by omega) (crM n a b c)) hB (crM_zs ha za hl zb c) hn hb
  rw [show detZ n (elz (mkz n n (crM n a b c)) n) = detZ n (crM n a b c) from detZ_congr fun i k hi hk => mkz_el hi hk] at k2
  refine callV (Z := [3]) tabOK mixedOK Tryz.func127 rfl (by kernel_rfl) rfl rfl (by kernel_rfl) rfl ?_
  intro W0 w0 ρ0 hE
  conv => whnf
  (repeat ((first | refine g_c (by assumption) ?_ | refine g_o (op_loadA rfl (ev_ok rfl) (tgt rfl) rfl (Nat.succ_ne_zero _) rfl) ?_ | refine g_o (op_fieldA rfl (ev_ok rfl) (tgt rfl) rfl rfl (Nat.succ_ne_zero _) rfl) ?_ | refine g_o (op_makeFunc rfl rfl rfl) ?_); conv => whnf)); (first | exact Recast.refl _ | exact Frz.recast (Recast.refl _) rfl | (refine Frz.one rfl rfl ?_; skip) | (refine Frz.tup ?_; skip))
/-- The determinants of Cramer's rule. -/
abbrev crL (n : Nat) (a b : List Int) : List Int := (upN n).map fun x => detZ n (crM n a b x.toNat)
theorem b_Cramer {n B : Nat} {a b : List Int} (ha : OKZ n n a) (za : Zm B a) (hl : b.length = n) (zb : Zm B b) (hB : 2 ≤ B) (hB2 : B ≤ 536870912) (hn : n ≤ 40) (hb : 2 * (B * 4 ^ n) ≤ 1073741824) :
    CallOK Tryz.prog 47 [wA n n a, zvec b] [] (if detZ n (elz a n) = 0 then .tup [.int 0, zvec [], iv 6] else .tup [.int (detZ n (elz a n)), zvec (crL n a b), iv 0]) [] [] := by
  have k0 := b_square n n a (by have := ha.n; have : n * n ≤ 40 * 40 := Nat.mul_le_mul hn hn; omega) (fun i hi => Nat.le_trans (za i hi) hB2)
  rw [check_ok ha.r ha.c ha.n, if_pos rfl, if_pos rfl] at k0
  have k1 := b_det ha hB za hn hb
  have t1 : ((b.length : Int) != (n : Int)) = false := by rw [hl]; exact bne_self_eq_false _
  by_cases h0 : detZ n (elz a n) = 0
  · rw [if_pos h0]
    rw [h0] at k1
    have k2 := c_Sign 0
    refine callF (Z := [2, 3]) tabOK mixedOK Tryz.func47 rfl (by kernel_rfl) (by first | rfl | (simp [keylessL, keyless, keylessL_map, *]; done)) (by first | rfl | (simp [keylessL, keyless, keylessL_map, *]; done)) (by kernel_rfl) rfl ?_
    intro w0 ρ0 hE
    conv => whnf
    (repeat ((first | refine step_w1 rfl rfl ?_ | refine step_w2 rfl rfl ?_ | refine g_c (by assumption) ?_ | rw [bne_self_eq_false] | refine tst_ff t1 ?_ | refine g_o (op_lenM rfl rfl rfl (ev_ok rfl) (tgt rfl) rfl) ?_ | refine g_o (op_loadA rfl (ev_ok rfl) (tgt rfl) rfl (Nat.succ_ne_zero _) rfl) ?_ | refine g_o (op_fieldA rfl (ev_ok rfl) (tgt rfl) rfl rfl (Nat.succ_ne_zero _) rfl) ?_); conv => whnf)); (first | exact Recast.refl _ | exact Frz.recast (Recast.refl _) rfl | (refine Frz.one rfl rfl ?_; skip) | (refine Frz.tup ?_; (repeat (first | exact FrzC.keyless rfl | exact FrzL.nil | refine FrzL.cons ?_ ?_ | exact FrzC.nilS))))
  · rw [if_neg h0]
    have k2 := c_Sign (detZ n (elz a n))
    have t2 : ((detZ n (elz a n)).sign == 0) = false := beq_eq_false_iff_ne.2 fun e => h0 (Int.sign_eq_zero_iff_zero.1 e)
    have k3 := (b_upToV n [] (by omega) (by simp)).wk (args := [iv n, .val (.slice none 0 0)]) (by repeat (first | exact WkL.nil | refine WkL.cons ?_ ?_ | exact Wk.nil | exact Wk.refl | refine Wk.agg ?_))
    rw [show upL n [] = upN n from List.append_nil _] at k3
    have k4 := b_over2 (fun x => detZ n (crM n a b x.toNat)) 127 (ptrP (wC n n a)) (ptrP [zvec b]) (upN n) (by rw [upN_len]; omega) (fun i hi => by
      rw [upN_len] at hi
      rw [upN_at hi]
      exact b_Cr1 ha za hl zb hB hn hb i)
    refine callV (Z := [2, 3]) tabOK mixedOK Tryz.func47 rfl (by kernel_rfl) rfl rfl (by kernel_rfl) rfl ?_
    intro W0 w0 ρ0 hE
    conv => whnf
    (repeat ((first | refine step_w2 rfl rfl ?_ | refine g_c (by assumption) ?_ | rw [bne_self_eq_false] | refine tst_ff t1 ?_ | refine tst_ff t2 ?_ | refine g_o (op_lenM rfl rfl rfl (ev_ok rfl) (tgt rfl) rfl) ?_ | refine g_o (op_loadA rfl (ev_ok rfl) (tgt rfl) rfl (Nat.succ_ne_zero _) rfl) ?_ | refine g_o (op_fieldA rfl (ev_ok rfl) (tgt rfl) rfl rfl (Nat.succ_ne_zero _) rfl) ?_ | refine g_o (op_makeFunc rfl rfl rfl) ?_); conv => whnf)); (first | exact Recast.refl _ | exact Frz.recast (Recast.refl _) rfl | (refine Frz.one rfl rfl ?_; skip) | (refine Frz.tup ?_; skip))

end Go.Proofs.YtkpfineikahgfaaGreatDoor

namespace Go.Proofs.YtkpfineikahgfaaGreatDoor
open Go.Sx
set_option linter.unusedSimpArgs false
set_option linter.unusedVariables false
set_option maxRecDepth 100000
set_option maxHeartbeats 40000000

theorem zq_guard : Tryz.prog.eqGuardType Tryz.prog.depth 36 = false := by kernel_rfl
theorem zq_same (a b : Int) : eqTy tab good 10 36 (intCells a) (intCells b) = some (decide (a = b)) := by
  have e : eqTy tab good 10 36 (intCells a) (intCells b) = some (((((low a.natAbs == low b.natAbs) && (((big a.natAbs).toList == (big b.natAbs).toList) && true)) && true) && ((decide (a < 0) == decide (b < 0)) && true))) := rfl
  rw [e]
  simp only [Bool.and_true]
  rw [nat_eq_iff]
  congr 1
  rw [Bool.eq_iff_iff]
  simp only [Bool.and_eq_true, decide_eq_true_eq, beq_iff_eq, decide_eq_decide]
  constructor
  · rintro ⟨h3, h4⟩
    omega
  · rintro rfl; exact ⟨rfl, Iff.rfl⟩
theorem nq_guard : Tryz.prog.eqGuardType Tryz.prog.depth 32 = false := by kernel_rfl
theorem nq_same (a b : Nat) : eqTy tab good 10 32 (natCells a) (natCells b) = some (decide (a = b)) := by
  have e : eqTy tab good 10 32 (natCells a) (natCells b) = some (((low a == low b) && (((big a).toList == (big b).toList) && true))) := rfl
  rw [e]
  simp only [Bool.and_true]
  rw [nat_eq_iff]
abbrev Y9 : List Int := [2, 0, 1, 1, 3, 2, 1, 1, 4]
abbrev Y4 : List Int := [1, 2, 3, 4]
abbrev Q4 : List Rat := [1 / 2, 1 / 3, 1, 2]
theorem l_works15 : CallOK Tryz.prog 22 [] [] (.val (.bool true)) [] [] := by
  have hW : OKZ 3 3 Y9 := ⟨by decide, by decide, rfl⟩
  have zW : Zm 20 Y9 := by unfold Zm; decide +kernel
  have h4 : OKZ 2 2 Y4 := ⟨by decide, by decide, rfl⟩
  have z4 : Zm 20 Y4 := by unfold Zm; decide +kernel
  have o1 := b_Of (r := 3) (c := 3) (l := Y9) (by decide) (by decide) rfl (by decide)
  have o2 := b_Stage (s := 1) hW zW (by decide) (by decide) (by decide) (by decide) (by decide)
  have o3 := b_Stage (s := 2) hW zW (by decide) (by decide) (by decide) (by decide) (by decide)
  have o4 := b_Det hW zW (by decide) (by decide) (by decide) (by decide)
  have o5 := b_Cramer hW zW (b := [3, 6, 6]) rfl (by unfold Zm; decide +kernel) (by decide) (by decide) (by decide) (by decide)
  have e0 : detZ 3 (elz Y9 3) = 18 := by decide +kernel
  rw [e0] at o4
  rw [e0, if_neg (by decide), show crL 3 Y9 [3, 6, 6] = [18, 18, 18] from by decide +kernel] at o5
  rw [show stM 3 3 1 Y9 = [6, 3, 2, 7] from by decide +kernel] at o2
  rw [show stM 3 3 2 Y9 = [18] from by decide +kernel] at o3
  replace o2 : CallOK Tryz.prog 24 [wA 3 3 Y9, iv 1] [] (.tup [wA 2 2 [6, 3, 2, 7], iv 0]) [] [] := o2
  replace o3 : CallOK Tryz.prog 24 [wA 3 3 Y9, iv 2] [] (.tup [wA 1 1 [18], iv 0]) [] [] := o3
  have t1 := b_Text 2 2 [6, 3, 2, 7] (by decide) (by decide +kernel) (m_Text (r := 2) (c := 2) (B := 20) (a := ofInts [6, 3, 2, 7]) ⟨by decide, by decide, rfl⟩ (by unfold Sm; decide +kernel) (by decide))
  have t2 := b_Text 1 1 [18] (by decide) (by decide +kernel) (m_Text (r := 1) (c := 1) (B := 20) (a := ofInts [18]) ⟨by decide, by decide, rfl⟩ (by unfold Sm; decide +kernel) (by decide))
  have i3 := c_iOf 3 (by decide) (by decide)
  have i6 := c_iOf 6 (by decide) (by decide)
  have i18 := c_iOf 18 (by decide) (by decide)
  have i21 := c_iOf 21 (by decide) (by decide)
  have o6 := b_Of (r := 2) (c := 2) (l := Y4) (by decide) (by decide) rfl (by decide)
  have o7 := b_Adjugate h4 z4 (by decide) (by decide) (by decide) (by decide)
  rw [show mkz 2 2 (adjZ 2 (elz Y4 2)) = [4, -2, -3, 1] from by decide +kernel] at o7
  have t3 := b_Text 2 2 [4, -2, -3, 1] (by decide) (by decide +kernel) (m_Text (r := 2) (c := 2) (B := 20) (a := ofInts [4, -2, -3, 1]) ⟨by decide, by decide, rfl⟩ (by unfold Sm; decide +kernel) (by decide))
  have o8 := b_Bound h4 z4 (by decide) (by decide)
  rw [show pZ ((upN 2).map fun x => rowZ Y4 2 x.toNat) = 21 from by decide +kernel] at o8
  have f1 := c_fOf natBig 1 2 (by decide +kernel) (by decide) (by decide) (by decide) (by decide) (by decide)
  have f2 := c_fOf natBig 1 3 (by decide +kernel) (by decide) (by decide) (by decide) (by decide) (by decide)
  have f3 := c_fInt 1 (by decide) (by decide)
  have f4 := c_fInt 2 (by decide) (by decide)
  have o9 := b_Clear (r := 2) (c := 2) (B := 20) (a := Q4) ⟨by decide, by decide, rfl⟩ (by unfold Sm; decide +kernel) (by decide) (by decide)
  rw [show clZ 2 2 Q4 = [3, 2, 1, 2] from by decide +kernel, show byL 2 2 Q4 = [6, 1] from by decide +kernel] at o9
  have t4 := b_Text 2 2 [3, 2, 1, 2] (by decide) (by decide +kernel) (m_Text (r := 2) (c := 2) (B := 20) (a := ofInts [3, 2, 1, 2]) ⟨by decide, by decide, rfl⟩ (by unfold Sm; decide +kernel) (by decide))
  have n6 := c_nOf 6 (by decide)
  have n1 := c_nOf 1 (by decide)
  have q1 : (!(tM 2 2 (ofInts [6, 3, 2, 7])).toList == (ByteArray.mk #[91, 54, 32, 51, 93, 32, 91, 50, 32, 55, 93]).toList) = false := by decide +kernel
  have q2 : (!(tM 1 1 (ofInts [18])).toList == (ByteArray.mk #[91, 49, 56, 93]).toList) = false := by decide +kernel
  have q3 : ((tM 2 2 (ofInts [4, -2, -3, 1])).toList == (ByteArray.mk #[91, 52, 32, 45, 50, 93, 32, 91, 45, 51, 32, 49, 93]).toList) = true := by decide +kernel
  have q4 : ((tM 2 2 (ofInts [3, 2, 1, 2])).toList == (ByteArray.mk #[91, 51, 32, 50, 93, 32, 91, 49, 32, 50, 93]).toList) = true := by decide +kernel
  refine callV (Z := [26, 50, 120, 147]) tabOK mixedOK Tryz.func22 rfl (by kernel_rfl) rfl rfl (by kernel_rfl) rfl ?_
  intro W0 w0 ρ0 hE
  conv => whnf
  (repeat ((first | refine step_w1 rfl rfl ?_ | refine step_w2 rfl rfl ?_ | refine step_i (by kernel_rfl) ?_ | refine g_c (by assumption) ?_ | refine g_o (op_pickT rfl (ev_ok rfl) (ev_ok rfl)) ?_ | refine g_o (op_pickF rfl (ev_ok rfl) (ev_ok rfl)) ?_ | rw [beq_self_eq_true] | rw [bne_self_eq_false] | refine tst_tt q3 ?_ | refine tst_tt q4 ?_ | refine g_o (op_lenM rfl rfl rfl (ev_ok rfl) (tgt rfl) rfl) ?_ | refine g_o (op_loadA rfl (ev_ok rfl) (tgt rfl) rfl (Nat.succ_ne_zero _) rfl) ?_ | refine g_o (op_indexA rfl (ev_ok rfl) (ev_ok rfl) (tgt rfl) rfl (tgt rfl) rfl (by omega) (by first | decide | (simp; done) | omega) rfl) ?_ | refine ⟨_, op_eqAgg tabOK goodOK rfl (ev_ok rfl) (ev_ok rfl) rfl rfl rfl rfl (zq_same _ _) zq_guard, ?_⟩ | refine ⟨_, op_neAgg tabOK goodOK rfl (ev_ok rfl) (ev_ok rfl) rfl rfl rfl rfl (zq_same _ _) zq_guard, ?_⟩ | refine ⟨_, op_eqAgg tabOK goodOK rfl (ev_ok rfl) (ev_ok rfl) rfl rfl rfl rfl (nq_same _ _) nq_guard, ?_⟩ | rw [q1] | rw [q2] | rw [q3] | rw [q4]); conv => whnf))
  exact fun _ _ h => h
end Go.Proofs.YtkpfineikahgfaaGreatDoor

namespace Go.Proofs.YtkpfineikahgfaaGreatDoor
open Go.Sx
set_option linter.unusedSimpArgs false
set_option linter.unusedVariables false
set_option maxRecDepth 100000
set_option maxHeartbeats 40000000

abbrev WW := Int × Int × List Int
abbrev wQ : WW → SV := ag3 (iel .u8) (iel .u8) (ivec .i64)
abbrev nilW : WW := (0, 0, [])
def wOK (m : WW) : Prop := (0 ≤ m.1 ∧ m.1 < 256) ∧ (0 ≤ m.2.1 ∧ m.2.1 < 256) ∧ m.2.2.length ≤ maxLen ∧ ∀ x ∈ m.2.2, -9223372036854775808 ≤ x ∧ x < 9223372036854775808
/-- Its elements, with zeros for missing ones. -/
def zLw (l : List Int) (n : Nat) : List Int := (List.range n).map fun p => l.getD p 0
theorem zLw_len (l : List Int) (n : Nat) : (zLw l n).length = n := by simp [zLw]
theorem zLw_get {l : List Int} {n p : Nat} (h : p < n) : (zLw l n).getD p 0 = l.getD p 0 := by simp [zLw, List.getD_eq_getElem?_getD, h]
theorem i64_at {l : List Int} (h : ∀ x ∈ l, -9223372036854775808 ≤ x ∧ x < 9223372036854775808) (p : Nat) : -9223372036854775808 ≤ l.getD p 0 ∧ l.getD p 0 < 9223372036854775808 := by
  by_cases hp : p < l.length
  · exact h _ (getD_mem hp)
  · rw [List.getD_eq_getElem?_getD, List.getElem?_eq_none (by omega)]; exact ⟨by decide, by decide⟩
theorem Zm_zLw {l : List Int} (h : ∀ x ∈ l, -9223372036854775808 ≤ x ∧ x < 9223372036854775808) (n : Nat) : Zm 65 (zLw l n) := by
  intro p hp
  rw [zLw_len] at hp
  rw [zLw_get hp]; obtain ⟨a, b⟩ := i64_at h p; exact zs_i64 a b
theorem OKZ_zLw (l : List Int) {r c : Nat} (hr : r ≤ 2048) (hc : c ≤ 2048) : OKZ r c (zLw l (r * c)) := ⟨hr, hc, zLw_len ..⟩

theorem c_fewW (ms : List WW) (h : ms.length < 1000) (hl : ∀ m ∈ ms, m.2.2.length ≤ maxLen) : CallOK Tryz.prog 21 [mvec 3 wQ ms] [] (.val (.bool (ms.all fun m => decide (m.2.2.length ≤ 40)))) [] [] := by
  refine callV (Z := []) tabOK mixedOK Tryz.func21 rfl (by kernel_rfl) rfl rfl (by kernel_rfl) rfl ?_
  intro W0 w0 ρ0 hE
  conv => whnf
  skip
  refine SW_loopN hE (fun k => k) [0, 3] [] (fun m fr hp => ∃ i : Nat, m = ms.length - i ∧ i ≤ ms.length ∧ (∀ j, j < i → decide ((ms.getD j nilW).2.2.length ≤ 40) = true) ∧ fr = [(0, mvec 3 wQ ms), (3, iv (i : Nat))] ∧ hp = []) ms.length ?_ ?_ ?_
  · kernel_rfl
  · exact ⟨0, rfl, Nat.zero_le _, (fun j hj => by omega), rfl, rfl⟩
  rintro m _ _ ⟨i, rfl, hi, hs, rfl, rfl⟩
  conv => whnf
  by_cases hlt : i < ms.length
  · have t1 := dlt hlt
    have t2 := winc (i := i) (by omega)
    by_cases hL : (ms.getD i nilW).2.2.length ≤ 40
    · have t3 : decide (((ms.getD i nilW).2.2.length : Int) > 40) = false := decide_eq_false (by omega)
      (repeat ((first | refine tst_tt t1 ?_ | refine tst_ff t3 ?_ | refine g_o (op_lenM rfl rfl rfl (ev_ok rfl) (tgt rfl) rfl) ?_ | refine g_o (op_loadA rfl (ev_ok rfl) (tgt rfl) rfl (Nat.succ_ne_zero _) rfl) ?_ | refine g_o (op_fieldA rfl (ev_ok rfl) (tgt rfl) rfl rfl (Nat.succ_ne_zero _) rfl) ?_ | refine g_o (op_indexN (α := WW) (d := nilW) rfl (ev_ok rfl) (ev_ok rfl) (tgt rfl) rfl (tgt rfl) rfl (by omega)) ?_ | rw [t1] | rw [t3] | rw [t2]); conv => whnf))
      refine ⟨ms.length - (i + 1), fun k => k, [0, 3], [], by omega, by kernel_rfl, i + 1, rfl, hlt, ?_, rfl, rfl⟩
      intro j hj
      by_cases hji : j = i
      · rw [hji]; exact decide_eq_true hL
      · exact hs j (by omega)
    · have t3 : decide (((ms.getD i nilW).2.2.length : Int) > 40) = true := decide_eq_true (by omega)
      have e : (ms.all fun m => decide (m.2.2.length ≤ 40)) = false := all_no (d := nilW) hlt (decide_eq_false hL)
      rw [e]
      (repeat ((first | refine tst_tt t1 ?_ | refine tst_tt t3 ?_ | refine g_o (op_lenM rfl rfl rfl (ev_ok rfl) (tgt rfl) rfl) ?_ | refine g_o (op_loadA rfl (ev_ok rfl) (tgt rfl) rfl (Nat.succ_ne_zero _) rfl) ?_ | refine g_o (op_fieldA rfl (ev_ok rfl) (tgt rfl) rfl rfl (Nat.succ_ne_zero _) rfl) ?_ | refine g_o (op_indexN (α := WW) (d := nilW) rfl (ev_ok rfl) (ev_ok rfl) (tgt rfl) rfl (tgt rfl) rfl (by omega)) ?_); conv => whnf)); (first | exact Recast.refl _ | exact Frz.recast (Recast.refl _) rfl | (refine Frz.one rfl rfl ?_; skip) | (refine Frz.tup ?_; skip))
  · have t1 := dge hlt
    obtain rfl : i = ms.length := by omega
    have e : (ms.all fun m => decide (m.2.2.length ≤ 40)) = true := all_at nilW hs
    rw [e]
    (repeat (first | (refine tst_ff t1 ?_; conv => whnf) | (refine g_o (op_lenM rfl rfl rfl (ev_ok rfl) (tgt rfl) rfl) ?_; conv => whnf))); (first | exact Recast.refl _ | exact Frz.recast (Recast.refl _) rfl | (refine Frz.one rfl rfl ?_; skip) | (refine Frz.tup ?_; skip))
theorem c_SidesW (m : WW) (h : wOK m) : CallOK Tryz.prog 23 [wQ m] [] (.tup [iv ((m.1 % 6).toNat : Nat), iv ((m.2.1 % 6).toNat : Nat)]) [] [] := by
  obtain ⟨h1, h2, _⟩ := h
  have e1 : IntKind.i64.wrap (m.1.tmod 6) = ((m.1 % 6).toNat : Nat) := by rw [Int.tmod_eq_emod_of_nonneg h1.1, wrap_i64 (by omega) (by omega)]; omega
  have e2 : IntKind.i64.wrap (m.2.1.tmod 6) = ((m.2.1 % 6).toNat : Nat) := by rw [Int.tmod_eq_emod_of_nonneg h2.1, wrap_i64 (by omega) (by omega)]; omega
  have e3 : IntKind.u8.wrap (m.1.tmod 6) = m.1.tmod 6 := by rw [Int.tmod_eq_emod_of_nonneg h1.1, wrap_u8 (by omega) (by omega)]
  have e4 : IntKind.u8.wrap (m.2.1.tmod 6) = m.2.1.tmod 6 := by rw [Int.tmod_eq_emod_of_nonneg h2.1, wrap_u8 (by omega) (by omega)]
  refine callV (Z := []) tabOK mixedOK Tryz.func23 rfl (by kernel_rfl) rfl rfl (by kernel_rfl) rfl ?_
  intro W0 w0 ρ0 hE
  conv => whnf
  (repeat ((first | refine step_i (by kernel_rfl) ?_ | refine step_oN (by first | omega | decide | (simp only [tl0, dlen, List.length_replicate, List.length_set, List.length_map, List.length_zipWith, List.length_take, List.length_append, List.length_cons, List.length_nil]; omega)) ?_ | rw [e1] | rw [e2]); conv => whnf)); (first | exact Recast.refl _ | exact Frz.recast (Recast.refl _) rfl | (refine Frz.one rfl rfl ?_; skip) | (refine Frz.tup ?_; skip))
theorem c_WOf (m : WW) (hm : wOK m) {r c : Nat} (hr : r ≤ 100) (hc : c ≤ 100) : CallOK Tryz.prog 25 [wQ m, iv r, iv c] [] (wA r c (zLw m.2.2 (r * c))) [] [] := by
  obtain ⟨A, B, l⟩ := m
  obtain ⟨_, _, hl, hq⟩ := hm
  replace hl : l.length ≤ maxLen := hl
  have hz := zLw_len l (r * c)
  have hz2 : ((zLw l (r * c)).map SV.int).length = r * c := by rw [List.length_map, hz]
  have hN : r * c ≤ 100 * 100 := Nat.mul_le_mul hr hc
  have t0 : IntKind.i64.wrap ((r : Int) * (c : Int)) = ((r * c : Nat) : Int) := by rw [← Int.natCast_mul, wrap_i64 (by omega) (by omega)]
  generalize r * c = N at *
  refine callF (Z := [3]) tabOK mixedOK Tryz.func25 rfl (by kernel_rfl) (by first | rfl | (simp [keylessL, keyless, keylessL_map, *]; done)) (by first | rfl | (simp [keylessL, keyless, keylessL_map, *]; done)) (by kernel_rfl) rfl ?_
  intro w0 ρ0 hE
  conv => whnf
  skip
  refine SWx_adoptB (j := 7) (k := 2001) (s := 3) (p := 2) (blk := zB3 []) rfl rfl rfl rfl rfl ?_
  refine SW_loopS hE (fun k => k) [1, 2, 3, 6, 7, 8] [6, 7, 2001] (fun m fr hp => ∃ i : Nat, m = N - i ∧ i ≤ N ∧ fr = [(1, iv r), (2, iv c), (3, ptrA [iel .u8 A, iel .u8 B, ivec .i64 l]), (6, .ptr 6 0 0 0), (7, .ptr 7 0 0 0), (8, iv (i : Nat))] ∧
    hp = [(6, zW), (7, ⟨55, true, .one [iv r, iv c, .slc 2001 3 0 i]⟩), (2001, ⟨36, true, .seq 3 (((zLw l N).map SV.int).take i)⟩)]) N ?_ ?_ ?_
  · kernel_rfl
  · exact ⟨0, rfl, Nat.zero_le _, rfl, rfl⟩
  rintro m _ _ ⟨i, rfl, hi, rfl, rfl⟩
  have hlt0 : (((zLw l N).map SV.int).take i).length = i := by rw [List.length_take]; omega
  by_cases hlt : i < N
  · have t1 := dlt hlt
    have t2 := winc (i := i) (by omega)
    obtain ⟨b1, b2⟩ := i64_at hq i
    have o1 := c_iOf (l.getD i 0) b1 b2
    have e1 := app_one (d := SV.int 0) (show i < ((zLw l N).map SV.int).length by omega)
    rw [map_getD (d := 0) (by omega), zLw_get hlt] at e1
    refine SWx.of hE ?_
    conv => whnf
    by_cases hil : i < l.length
    · have t3 := dlt hil
      (repeat ((first | refine step_i (by kernel_rfl) ?_ | refine step_oA (by first | omega | decide | (simp only [tl0, dlen, List.length_replicate, List.length_set, List.length_map, List.length_zipWith, List.length_take, List.length_append, List.length_cons, List.length_nil]; omega)) ?_ | refine g_c (by assumption) ?_ | refine tst_tt t1 ?_ | refine tst_tt t3 ?_ | refine g_o (op_lenM rfl rfl rfl (ev_ok rfl) (tgt rfl) rfl) ?_ | refine g_o (op_loadA rfl (ev_ok rfl) (tgt rfl) rfl (Nat.succ_ne_zero _) rfl) ?_ | refine g_o (op_indexN (α := Int) (d := 0) rfl (ev_ok rfl) (ev_ok rfl) (tgt rfl) rfl (tgt rfl) rfl (by omega)) ?_ | refine g_o (op_fieldA rfl (ev_ok rfl) (tgt rfl) rfl rfl (Nat.succ_ne_zero _) rfl) ?_ | rw [t0] | rw [t1] | rw [t3] | rw [t2] | rw [Nat.zero_add]); conv => whnf))
      refine ⟨N - (i + 1), renBy [(35, 2001)], [1, 2, 3, 6, 7, 8], [6, 7, 35], by omega, by kernel_rfl, i + 1, rfl, hlt, rfl, ?_⟩
      rw [e1]; rfl
    · have t3 := dge hil
      have e2 : l.getD i 0 = 0 := by rw [List.getD_eq_getElem?_getD, List.getElem?_eq_none (by omega)]; rfl
      rw [e2] at o1 e1
      (repeat ((first | refine step_i (by kernel_rfl) ?_ | refine step_oA (by first | omega | decide | (simp only [tl0, dlen, List.length_replicate, List.length_set, List.length_map, List.length_zipWith, List.length_take, List.length_append, List.length_cons, List.length_nil]; omega)) ?_ | refine g_c (by assumption) ?_ | refine tst_tt t1 ?_ | refine tst_ff t3 ?_ | refine g_o (op_lenM rfl rfl rfl (ev_ok rfl) (tgt rfl) rfl) ?_ | refine g_o (op_loadA rfl (ev_ok rfl) (tgt rfl) rfl (Nat.succ_ne_zero _) rfl) ?_ | refine g_o (op_fieldA rfl (ev_ok rfl) (tgt rfl) rfl rfl (Nat.succ_ne_zero _) rfl) ?_ | rw [t0] | rw [t1] | rw [t3] | rw [t2] | rw [Nat.zero_add]); conv => whnf))
      refine ⟨N - (i + 1), renBy [(35, 2001)], [1, 2, 3, 6, 7, 8], [6, 7, 35], by omega, by kernel_rfl, i + 1, rfl, hlt, rfl, ?_⟩
      rw [e1]; rfl
  · have t1 := dge hlt
    obtain rfl : i = N := by omega
    rw [List.take_of_length_le (by omega)]
    refine SWx.of hE ?_
    conv => whnf
    (repeat (first | (refine tst_ff t1 ?_; conv => whnf) | (rw [t0]; conv => whnf)))
    (first | exact Recast.refl _ | exact Frz.recast (Recast.refl _) rfl | (refine Frz.one rfl rfl ?_; (repeat (first | exact FrzC.keyless rfl | exact FrzL.nil | refine FrzL.cons ?_ ?_ | refine FrzC.agg ?_ | (refine FrzC.seq rfl (by first | rfl | (apply keylessL_map; intro _; rfl)) ?_; (first | rfl | omega | (simp <;> fail) | (simp <;> omega)))))) | (refine Frz.tup ?_; skip))
abbrev WWf (m : WW) : Prop := ((Lit.int .u8 m.1).wf = true) ∧ ((Lit.int .u8 m.2.1).wf = true) ∧ (m.2.2.length ≤ maxLen ∧ ∀ x ∈ m.2.2, (Lit.int .i64 x).wf = true)
theorem wOK_of {m : WW} (w : WWf m) : wOK m := ⟨wf_u8 w.1, wf_u8 w.2.1, w.2.2.1, fun x h => wf_i64 (w.2.2.2 x h)⟩
end Go.Proofs.YtkpfineikahgfaaGreatDoor

namespace Go.Proofs.YtkpfineikahgfaaGreatDoor
open Go.Sx
set_option linter.unusedSimpArgs false
set_option linter.unusedVariables false
set_option maxRecDepth 100000
set_option maxHeartbeats 40000000

theorem r_refW (m : WW) (hm : wOK m) {r c : Nat} (hr : r ≤ 12) (hc : c ≤ 12) : CallOK Tryz.prog 30 [wQ m, iv r, iv c] [] (mvec 1 fFs (rowsL r c (ofInts (zLw m.2.2 (r * c))))) [] [] := by
  obtain ⟨A, B, l⟩ := m
  obtain ⟨_, _, hl, hq⟩ := hm
  replace hl : l.length ≤ maxLen := hl
  have hz : (ofInts (zLw l (r * c))).length = r * c := by rw [ofInts, List.length_map, zLw_len]
  have lz := rowsL_len r c (ofInts (zLw l (r * c)))
  have lz2 : ((rowsL r c (ofInts (zLw l (r * c)))).map fFs).length = r := by rw [List.length_map, lz]
  refine callF (Z := [3]) tabOK mixedOK Tryz.func30 rfl (by kernel_rfl) (by first | rfl | (simp [keylessL, keyless, keylessL_map, *]; done)) (by first | rfl | (simp [keylessL, keyless, keylessL_map, *]; done)) (by kernel_rfl) rfl ?_
  intro w0 ρ0 hE
  conv => whnf
  skip
  refine SWx_adopt (t := 7) (k := 2001) (s := 1) (blk := rblk []) rfl rfl rfl ?_
  refine SW_loopS hE (fun k => k) [1, 2, 3, 6, 7, 8] [2001] (fun m fr hp => ∃ i : Nat, m = r - i ∧ i ≤ r ∧ fr = [(1, iv r), (2, iv c), (3, ptrA [iel .u8 A, iel .u8 B, ivec .i64 l]), (6, .val (.slice none 0 0)), (7, .slc 2001 1 0 i), (8, iv (i : Nat))] ∧
    hp = [(2001, rblk ((rowsL r c (ofInts (zLw l (r * c)))).take i))]) (r) ?_ ?_ ?_
  · kernel_rfl
  · exact ⟨0, rfl, Nat.zero_le _, rfl, rfl⟩
  rintro m _ _ ⟨i, rfl, hi, rfl, rfl⟩
  have hlt0 : (((rowsL r c (ofInts (zLw l (r * c)))).take i).map fFs).length = i := by rw [List.length_map, List.length_take]; omega
  by_cases hlt : i < r
  · have t1 := dlt hlt
    have t2 := winc (i := i) (by omega)
    have hrl := rowL_len (c := c) hlt hz
    have hrl2 := hrl
    rw [List.length_take] at hrl2
    have e3 := take_rows (l := rowsL r c (ofInts (zLw l (r * c)))) (i := i) (by omega)
    rw [rowsL_get hlt] at e3
    refine SWx.of hE ?_
    conv => whnf
    (repeat (first | (refine tst_tt t1 ?_; conv => whnf) | (rw [t1]; conv => whnf)))
    refine SWx_adopt (t := 9) (k := 2002) (s := 3) (blk := fFblk []) rfl rfl rfl ?_
    refine SW_loopS hE (fun k => k) [1, 2, 3, 6, 7, 8, 9, 10] [2001, 2002] (fun m fr hp => ∃ k : Nat, m = c - k ∧ k ≤ c ∧ fr = [(1, iv r), (2, iv c), (3, ptrA [iel .u8 A, iel .u8 B, ivec .i64 l]), (6, .val (.slice none 0 0)), (7, .slc 2001 1 0 i), (8, iv (i : Nat)), (9, .slc 2002 3 0 k), (10, iv (k : Nat))] ∧
      hp = [(2001, rblk ((rowsL r c (ofInts (zLw l (r * c)))).take i)), (2002, fFblk ((rowL (ofInts (zLw l (r * c))) (c) i).take k))]) (c) ?_ ?_ ?_
    · kernel_rfl
    · exact ⟨0, rfl, Nat.zero_le _, rfl, rfl⟩
    rintro m _ _ ⟨k, rfl, hk, rfl, rfl⟩
    have hlt1 : (((rowL (ofInts (zLw l (r * c))) (c) i).take k).map fF).length = k := by rw [List.length_map, List.length_take]; omega
    by_cases hlk : k < c
    · have t4 := dlt hlk
      have t5 := winc (i := k) (by omega)
      have e4 := take_map_snoc (z := rowL (ofInts (zLw l (r * c))) (c) i) (i := k) (by omega)
      rw [rowL_get hlk] at e4
      obtain ⟨w1, w2⟩ := idx_w (i := i) (k := k) (c := c) (by omega) (by omega) (by omega)
      obtain ⟨b1, b2⟩ := i64_at hq (i * c + k)
      have o1 := r3_Int (l.getD (i * c + k) 0) b1 b2
      have hx := idx_lt hlt hlk
      have e6 : el (ofInts (zLw l (r * c))) c i k = ((l.getD (i * c + k) 0 : Int) : Rat) := by rw [el, ofInts, map_getD (d := 0) (by rw [zLw_len]; exact hx), zLw_get hx]
      rw [e6] at e4
      refine SWx.of hE ?_
      conv => whnf
      by_cases hil : i * c + k < l.length
      · have t3 := dlt hil
        (repeat ((first | refine step_oA (by first | omega | decide | (simp only [tl0, dlen, List.length_replicate, List.length_set, List.length_map, List.length_zipWith, List.length_take, List.length_append, List.length_cons, List.length_nil]; omega)) ?_ | refine g_c (by assumption) ?_ | refine tst_tt t4 ?_ | refine tst_tt t3 ?_ | refine g_o (op_lenM rfl rfl rfl (ev_ok rfl) (tgt rfl) rfl) ?_ | refine g_o (op_loadA rfl (ev_ok rfl) (tgt rfl) rfl (Nat.succ_ne_zero _) rfl) ?_ | refine g_o (op_indexM (α := Int) (d := 0) rfl (ev_ok rfl) (ev_ok rfl) (tgt rfl) rfl (tgt rfl) rfl (by omega)) ?_ | refine g_o (op_fieldA rfl (ev_ok rfl) (tgt rfl) rfl rfl (Nat.succ_ne_zero _) rfl) ?_ | rw [w1] | rw [w2] | rw [t4] | rw [t3] | rw [t5] | rw [Int.toNat_natCast]); conv => whnf))
        refine ⟨c - (k + 1), renBy [(44, 2002)], [1, 2, 3, 6, 7, 8, 9, 10], [2001, 44], by omega, by kernel_rfl, k + 1, rfl, hlk, rfl, ?_⟩
        rw [e4]; rfl
      · have t3 := dge hil
        have e5 : l.getD (i * c + k) 0 = 0 := by rw [List.getD_eq_getElem?_getD, List.getElem?_eq_none (by omega)]; rfl
        rw [e5] at o1 e4
        (repeat ((first | refine step_oA (by first | omega | decide | (simp only [tl0, dlen, List.length_replicate, List.length_set, List.length_map, List.length_zipWith, List.length_take, List.length_append, List.length_cons, List.length_nil]; omega)) ?_ | refine g_c (by assumption) ?_ | refine tst_tt t4 ?_ | refine tst_ff t3 ?_ | refine g_o (op_lenM rfl rfl rfl (ev_ok rfl) (tgt rfl) rfl) ?_ | refine g_o (op_loadA rfl (ev_ok rfl) (tgt rfl) rfl (Nat.succ_ne_zero _) rfl) ?_ | refine g_o (op_fieldA rfl (ev_ok rfl) (tgt rfl) rfl rfl (Nat.succ_ne_zero _) rfl) ?_ | rw [w1] | rw [w2] | rw [t4] | rw [t3] | rw [t5]); conv => whnf))
        refine ⟨c - (k + 1), renBy [(44, 2002)], [1, 2, 3, 6, 7, 8, 9, 10], [2001, 44], by omega, by kernel_rfl, k + 1, rfl, hlk, rfl, ?_⟩
        rw [e4]; rfl
    · have t4 := dge hlk
      obtain rfl : k = c := by omega
      rw [List.take_of_length_le (l := rowL (ofInts (zLw l (r * k))) k i) (by omega)]
      refine SWx_freezeM 9 2002 (fun _ h => h) (fun _ => rfl) rfl rfl hrl.symm ?_
      refine SWx.of hE ?_
      conv => whnf
      (repeat ((first | refine step_oA (by first | omega | decide | (simp only [tl0, dlen, List.length_replicate, List.length_set, List.length_map, List.length_zipWith, List.length_take, List.length_append, List.length_cons, List.length_nil]; omega)) ?_ | refine tst_ff t4 ?_ | rw [t4] | rw [t2]); conv => whnf))
      refine ⟨r - (i + 1), renBy [(48, 2001)], [1, 2, 3, 6, 7, 8], [48], by omega, by kernel_rfl, i + 1, rfl, hlt, rfl, ?_⟩
      rw [e3]; rfl
  · have t1 := dge hlt
    obtain rfl : i = r := by omega
    rw [List.take_of_length_le (by omega)]
    refine SWx.of hE ?_
    conv => whnf
    (repeat (first | (refine tst_ff t1 ?_; conv => whnf)))
    (first | exact Recast.refl _ | exact Frz.recast (Recast.refl _) rfl | (refine Frz.one rfl rfl ?_; (repeat (first | (refine FrzC.seq rfl (by first | rfl | (apply keylessL_map; intro _; rfl)) ?_; (first | rfl | omega | (simp <;> fail) | (simp <;> omega)))))) | (refine Frz.tup ?_; skip))
theorem r_Minor {r c B : Nat} {a : List Rat} (ha : a.length = r * c) (sa : Sm B a) (hB : B ≤ 1000) {p q : List Int} (hp : ∀ i, i < p.length → 0 ≤ p.getD i 0 ∧ p.getD i 0 < r) (hq : ∀ i, i < q.length → 0 ≤ q.getD i 0 ∧ q.getD i 0 < c) (hl : p.length ≤ 5) (hl2 : q.length = p.length) :
    CallOK Tryz.prog 34 [mvec 1 fFs (rowsL r c a), ivec .i64 p, ivec .i64 q] [] (fF (det p.length fun i k => el a c (p.getD i 0).toNat (q.getD k 0).toNat)) [] [] := by
  have hz := mk_len p.length q.length fun i k => el a c (p.getD i 0).toNat (q.getD k 0).toNat
  have kd : CallOK Tryz.prog 114 [mvec 1 fFs (rowsL p.length q.length (mk p.length q.length fun i k => el a c (p.getD i 0).toNat (q.getD k 0).toNat))] [] (fF (det p.length fun i k => el a c (p.getD i 0).toNat (q.getD k 0).toNat)) [] [] := by
    rw [hl2]
    have := r_Det (n := p.length) (B := B) (a := mk p.length p.length fun i k => el a c (p.getD i 0).toNat (q.getD k 0).toNat) (mk_len ..) (Sm_mk fun i k hi hk => el_sm sa ha (by have := hp i hi; omega) (by have := hq k (by omega); omega)) hl hB
    rwa [det_congr (n := p.length) (A := el (mk p.length p.length fun i k => el a c (p.getD i 0).toNat (q.getD k 0).toNat) p.length) (B := fun i k => el a c (p.getD i 0).toNat (q.getD k 0).toNat) fun i k hi hk => mk_el hi hk] at this
  have lra := rowsL_len r c a
  generalize hX : (mk p.length q.length fun i k => el a c (p.getD i 0).toNat (q.getD k 0).toNat) = X at *
  have lz := rowsL_len p.length q.length X
  have lz2 : ((rowsL p.length q.length X).map fFs).length = p.length := by rw [List.length_map, lz]
  refine callF (Z := []) tabOK mixedOK Tryz.func34 rfl (by kernel_rfl) (by first | rfl | (simp [keylessL, keyless, keylessL_map, *]; done)) (by first | rfl | (simp [keylessL, keyless, keylessL_map, *]; done)) (by kernel_rfl) rfl ?_
  intro w0 ρ0 hE
  conv => whnf
  skip
  refine SWx_adopt (t := 7) (k := 2001) (s := 1) (blk := rblk []) rfl rfl rfl ?_
  refine SW_loopS hE (fun k => k) [0, 1, 2, 6, 7, 8] [6, 2001] (fun m fr hp => ∃ i : Nat, m = p.length - i ∧ i ≤ p.length ∧ fr = [(0, mvec 1 fFs (rowsL r c a)), (1, ivec .i64 p), (2, ivec .i64 q), (6, .ptr 6 0 0 0), (7, .slc 2001 1 0 i), (8, iv (i : Nat))] ∧
    hp = [(6, zblkF), (2001, rblk ((rowsL p.length q.length X).take i))]) (p.length) ?_ ?_ ?_
  · kernel_rfl
  · exact ⟨0, rfl, Nat.zero_le _, rfl, rfl⟩
  rintro m _ _ ⟨i, rfl, hi, rfl, rfl⟩
  have hlt0 : (((rowsL p.length q.length X).take i).map fFs).length = i := by rw [List.length_map, List.length_take]; omega
  by_cases hlt : i < p.length
  · have t1 := dlt hlt
    have t2 := winc (i := i) (by omega)
    have hrl := rowL_len (c := q.length) hlt hz
    have hrl2 := hrl
    rw [List.length_take] at hrl2
    have e3 := take_rows (l := rowsL p.length q.length X) (i := i) (by omega)
    rw [rowsL_get hlt] at e3
    refine SWx.of hE ?_
    conv => whnf
    (repeat (first | (refine tst_tt t1 ?_; conv => whnf) | (refine g_o (op_lenM rfl rfl rfl (ev_ok rfl) (tgt rfl) rfl) ?_; conv => whnf) | (rw [t1]; conv => whnf)))
    refine SWx_adopt (t := 9) (k := 2002) (s := 3) (blk := fFblk []) rfl rfl rfl ?_
    refine SW_loopS hE (fun k => k) [0, 1, 2, 6, 7, 8, 9, 10] [6, 2001, 2002] (fun m fr hp => ∃ k : Nat, m = q.length - k ∧ k ≤ q.length ∧ fr = [(0, mvec 1 fFs (rowsL r c a)), (1, ivec .i64 p), (2, ivec .i64 q), (6, .ptr 6 0 0 0), (7, .slc 2001 1 0 i), (8, iv (i : Nat)), (9, .slc 2002 3 0 k), (10, iv (k : Nat))] ∧
      hp = [(6, zblkF), (2001, rblk ((rowsL p.length q.length X).take i)), (2002, fFblk ((rowL X (q.length) i).take k))]) (q.length) ?_ ?_ ?_
    · kernel_rfl
    · exact ⟨0, rfl, Nat.zero_le _, rfl, rfl⟩
    rintro m _ _ ⟨k, rfl, hk, rfl, rfl⟩
    have hlt1 : (((rowL X (q.length) i).take k).map fF).length = k := by rw [List.length_map, List.length_take]; omega
    by_cases hlk : k < q.length
    · have t4 := dlt hlk
      have t5 := winc (i := k) (by omega)
      have e4 := take_map_snoc (z := rowL X (q.length) i) (i := k) (by omega)
      rw [rowL_get hlk] at e4
      obtain ⟨p1, p2⟩ := hp i hlt
      obtain ⟨q1, q2⟩ := hq k hlk
      have p3 : p.getD i 0 < ((rowsL r c a).length : Int) := by rw [lra]; exact p2
      have eX : el X q.length i k = el a c (p.getD i 0).toNat (q.getD k 0).toNat := by rw [← hX]; exact mk_el hlt hlk
      rw [eX] at e4
      have eg := rowsL_get (c := c) (a := a) (show (p.getD i 0).toNat < r by omega)
      have eh : (rowL a c (p.getD i 0).toNat).getD (q.getD k 0).toNat 0 = el a c (p.getD i 0).toNat (q.getD k 0).toNat := rowL_get (by omega)
      have el1 : (rowL a c (p.getD i 0).toNat).length = c := rowL_len (by omega) ha
      have el2 : ((rowsL r c a).getD (p.getD i 0).toNat []).length = c := by rw [eg]; exact el1
      have q3 : q.getD k 0 < (((rowsL r c a).getD (p.getD i 0).toNat []).length : Int) := by rw [el2]; exact q2
      rw [← eg] at eh
      rw [← eh] at e4
      refine SWx.of hE ?_
      conv => whnf
      (repeat ((first | refine step_i (by kernel_rfl) ?_ | refine step_oA (by first | omega | decide | (simp only [tl0, dlen, List.length_replicate, List.length_set, List.length_map, List.length_zipWith, List.length_take, List.length_append, List.length_cons, List.length_nil]; omega)) ?_ | refine tst_tt t4 ?_ | refine g_o (op_lenM rfl rfl rfl (ev_ok rfl) (tgt rfl) rfl) ?_ | refine g_o (op_loadA rfl (ev_ok rfl) (tgt rfl) rfl (Nat.succ_ne_zero _) rfl) ?_ | refine g_o (op_indexN (α := Int) (d := 0) rfl (ev_ok rfl) (ev_ok rfl) (tgt rfl) rfl (tgt rfl) rfl (by omega)) ?_ | refine g_o (op_indexM (α := Rat) (d := 0) rfl (ev_ok rfl) (ev_ok rfl) (tgt rfl) rfl (tgt rfl) rfl (by omega)) ?_ | refine g_o (op_indexM (α := List Rat) (d := []) rfl (ev_ok rfl) (ev_ok rfl) (tgt rfl) rfl (tgt rfl) rfl ⟨p1, p3⟩) ?_ | rw [t4] | rw [t5]); conv => whnf))
      refine ⟨q.length - (k + 1), renBy [(38, 2002)], [0, 1, 2, 6, 7, 8, 9, 10], [6, 2001, 38], by omega, by kernel_rfl, k + 1, rfl, hlk, rfl, ?_⟩
      rw [e4]; rfl
    · have t4 := dge hlk
      have hkc : k = q.length := by omega
      subst hkc
      rw [List.take_of_length_le (l := rowL X (q.length) i) (by omega)]
      refine SWx_freezeM 9 2002 (fun _ h => h) (fun _ => rfl) rfl rfl hrl.symm ?_
      refine SWx.of hE ?_
      conv => whnf
      (repeat ((first | refine step_oA (by first | omega | decide | (simp only [tl0, dlen, List.length_replicate, List.length_set, List.length_map, List.length_zipWith, List.length_take, List.length_append, List.length_cons, List.length_nil]; omega)) ?_ | refine tst_ff t4 ?_ | refine g_o (op_lenM rfl rfl rfl (ev_ok rfl) (tgt rfl) rfl) ?_ | rw [t4] | rw [t2]); conv => whnf))
      refine ⟨p.length - (i + 1), renBy [(42, 2001)], [0, 1, 2, 6, 7, 8], [6, 42], by omega, by kernel_rfl, i + 1, rfl, hlt, rfl, ?_⟩
      rw [e3]; rfl
  · have t1 := dge hlt
    have hic : i = p.length := by omega
    subst hic
    rw [List.take_of_length_le (by omega)]
    refine SWx_freezeM 7 2001 (fun _ h => h) (fun _ => rfl) rfl rfl lz.symm ?_
    refine SWx.of hE ?_
    conv => whnf
    (repeat (first | (refine g_c (by assumption) ?_; conv => whnf) | (refine tst_ff t1 ?_; conv => whnf) | (refine g_o (op_lenM rfl rfl rfl (ev_ok rfl) (tgt rfl) rfl) ?_; conv => whnf)))
    (first | exact Recast.refl _ | exact Frz.recast (Recast.refl _) rfl | (refine Frz.one rfl rfl ?_; skip) | (refine Frz.tup ?_; skip))
def butQ (j q : Nat) : List Int := (List.range q).map fun p : Nat => ((sk j p : Nat) : Int)
theorem butQ_len (j q : Nat) : (butQ j q).length = q := by simp [butQ]
theorem butQ_succ (j q : Nat) : butQ j (q + 1) = butQ j q ++ [((sk j q : Nat) : Int)] := by simp [butQ, List.range_succ]
theorem r_upTo (n x : Nat) (hn : n ≤ 2048) : CallOK Tryz.prog 107 [iv n, iv (x : Nat)] [] (ivec .i64 (upL n [(x : Int)])) [] [] := by
  refine callF (Z := []) tabOK mixedOK Tryz.func107 rfl (by kernel_rfl) (by first | rfl | (simp [keylessL, keyless, keylessL_map, *]; done)) (by first | rfl | (simp [keylessL, keyless, keylessL_map, *]; done)) (by kernel_rfl) rfl ?_
  intro w0 ρ0 hE
  conv => whnf
  skip
  refine SWx_adopt (t := 5) (k := 2002) (s := 1) (blk := iblkM []) rfl rfl rfl ?_
  refine SW_loopN hE (fun k => k) [0, 1, 4, 5, 6] [2002] (fun m fr hp => ∃ i : Nat, m = n - i ∧ i ≤ n ∧ fr = [(0, iv n), (1, iv (x : Nat)), (4, .val (.slice none 0 0)), (5, .slc 2002 1 0 i), (6, iv (i : Nat))] ∧ hp = [(2002, iblkM (upN i))]) n ?_ ?_ ?_
  · kernel_rfl
  · exact ⟨0, rfl, Nat.zero_le _, rfl, rfl⟩
  rintro m _ _ ⟨i, rfl, hi, rfl, rfl⟩
  conv => whnf
  have lq := upN_len i
  by_cases hlt : i < n
  · have t1 := dlt hlt
    have t2 := winc (i := i) (by omega)
    have e1 := app_int (l := upN i) (x := (i : Int))
    rw [lq, ← upN_succ] at e1
    (repeat ((first | refine step_oA (by first | omega | decide | (simp only [tl0, dlen, List.length_replicate, List.length_set, List.length_map, List.length_zipWith, List.length_take, List.length_append, List.length_cons, List.length_nil]; omega)) ?_ | refine tst_tt t1 ?_ | rw [t1] | rw [t2]); conv => whnf))
    refine ⟨n - (i + 1), renBy [(15, 2002)], [0, 1, 4, 5, 6], [15], by omega, by kernel_rfl, i + 1, rfl, hlt, rfl, ?_⟩
    rw [e1]; rfl
  · have t1 := dge hlt
    obtain rfl : i = n := by omega
    have e1 := app_int (l := upN i) (x := (x : Int))
    rw [lq] at e1
    (repeat (first | (refine step_oA (by first | omega | decide | (simp only [tl0, dlen, List.length_replicate, List.length_set, List.length_map, List.length_zipWith, List.length_take, List.length_append, List.length_cons, List.length_nil]; omega)) ?_; conv => whnf) | (refine tst_ff t1 ?_; conv => whnf)))
    rw [← e1]
    exact Frz.one rfl rfl (FrzC.ints rfl (by rw [List.length_append, lq]; rfl))
theorem r_without (n j : Nat) (hn : n ≤ 2048) (hj : j < n) : CallOK Tryz.prog 109 [iv n, iv (j : Nat)] [] (ivec .i64 (butN n j)) [] [] := by
  refine callF (Z := []) tabOK mixedOK Tryz.func109 rfl (by kernel_rfl) (by first | rfl | (simp [keylessL, keyless, keylessL_map, *]; done)) (by first | rfl | (simp [keylessL, keyless, keylessL_map, *]; done)) (by kernel_rfl) rfl ?_
  intro w0 ρ0 hE
  conv => whnf
  skip
  refine SWx_adopt (t := 5) (k := 2002) (s := 1) (blk := iblkM []) rfl rfl rfl ?_
  refine SW_loopN hE (fun k => k) [0, 1, 4, 5, 6] [2002] (fun m fr hp => ∃ i q : Nat, m = n - i ∧ i ≤ n ∧ q = (if i ≤ j then i else i - 1) ∧ fr = [(0, iv n), (1, iv (j : Nat)), (4, .val (.slice none 0 0)), (5, .slc 2002 1 0 q), (6, iv (i : Nat))] ∧ hp = [(2002, iblkM (butQ j q))]) n ?_ ?_ ?_
  · kernel_rfl
  · exact ⟨0, 0, rfl, Nat.zero_le _, by rw [if_pos (Nat.zero_le _)], rfl, rfl⟩
  rintro m _ _ ⟨i, q, rfl, hi, hq, rfl, rfl⟩
  conv => whnf
  have lq := butQ_len j q
  by_cases hlt : i < n
  · have t1 := dlt hlt
    have t2 := winc (i := i) (by omega)
    by_cases hij : i = j
    · have t3 : ((i : Int) != (j : Int)) = false := by rw [hij]; exact bne_self_eq_false _
      (repeat ((first | refine tst_tt t1 ?_ | refine tst_ff t3 ?_ | rw [t1] | rw [t3] | rw [t2]); conv => whnf))
      exact ⟨n - (i + 1), fun k => k, [0, 1, 4, 5, 6], [2002], by omega, by kernel_rfl, i + 1, q, rfl, hlt, by rw [if_neg (by omega)]; rw [if_pos (by omega)] at hq; omega, rfl, rfl⟩
    · have t3 : ((i : Int) != (j : Int)) = true := bne_iff_ne.2 (by omega)
      have hsk : sk j q = i := by
        unfold sk
        by_cases g : i ≤ j
        · rw [if_pos g] at hq; rw [if_pos (by omega)]; omega
        · rw [if_neg g] at hq; rw [if_neg (by omega)]; omega
      have e1 := app_int (l := butQ j q) (x := (i : Int))
      have hqq : (if i + 1 ≤ j then i + 1 else i + 1 - 1) = q + 1 := by
        by_cases g : i ≤ j
        · rw [if_pos g] at hq; rw [if_pos (by omega)]; omega
        · rw [if_neg g] at hq; rw [if_neg (by omega)]; omega
      rw [lq, show butQ j q ++ [(i : Int)] = butQ j (q + 1) from by rw [butQ_succ, hsk]] at e1
      have hqi : q ≤ i := by rw [hq]; split <;> omega
      (repeat ((first | refine step_oA (by first | omega | decide | (simp only [tl0, dlen, List.length_replicate, List.length_set, List.length_map, List.length_zipWith, List.length_take, List.length_append, List.length_cons, List.length_nil]; omega)) ?_ | refine tst_tt t1 ?_ | refine tst_tt t3 ?_ | rw [t1] | rw [t3] | rw [t2]); conv => whnf))
      refine ⟨n - (i + 1), renBy [(18, 2002)], [0, 1, 4, 5, 6], [18], by omega, by kernel_rfl, i + 1, q + 1, rfl, hlt, hqq.symm, rfl, ?_⟩
      rw [e1]; rfl
  · have t1 := dge hlt
    obtain rfl : i = n := by omega
    rw [if_neg (by omega)] at hq
    subst hq
    (repeat (first | (refine tst_ff t1 ?_; conv => whnf)))
    exact Frz.one rfl rfl (FrzC.ints rfl (by rw [butN_len]))
theorem r_Stage {r c s B : Nat} {a : List Rat} (ha : a.length = r * c) (sa : Sm B a) (hB : B ≤ 1000) (hs : r ≤ 5) (hr : r ≤ 100) (hc : c ≤ 100) (hsr : s ≤ r) (hsc : s ≤ c) :
    CallOK Tryz.prog 29 [mvec 1 fFs (rowsL r c a), iv c, iv s] [] (mvec 1 fFs (rowsL (r - s) (c - s) (mk (r - s) (c - s) (bm s (el a c))))) [] [] := by
  obtain ⟨R, rfl⟩ : ∃ R, r = s + R := ⟨r - s, by omega⟩
  obtain ⟨C, rfl⟩ : ∃ C, c = s + C := ⟨c - s, by omega⟩
  rw [Nat.add_sub_cancel_left, Nat.add_sub_cancel_left]
  have hz := mk_len R C (bm s (el a (s + C)))
  have lra := rowsL_len (s + R) (s + C) a
  generalize hX : mk R C (bm s (el a (s + C))) = X at *
  have lz := rowsL_len R C X
  have lz2 : ((rowsL R C X).map fFs).length = R := by rw [List.length_map, lz]
  refine callF (Z := []) tabOK mixedOK Tryz.func29 rfl (by kernel_rfl) (by first | rfl | (simp [keylessL, keyless, keylessL_map, *]; done)) (by first | rfl | (simp [keylessL, keyless, keylessL_map, *]; done)) (by kernel_rfl) rfl ?_
  intro w0 ρ0 hE
  conv => whnf
  skip
  refine SWx_adopt (t := 7) (k := 2001) (s := 1) (blk := rblk []) rfl rfl rfl ?_
  refine SW_loopS hE (fun k => k) [0, 1, 2, 6, 7, 8] [2001] (fun m fr hp => ∃ i : Nat, m = R - i ∧ i ≤ R ∧ fr = [(0, mvec 1 fFs (rowsL (s + R) (s + C) a)), (1, iv (s + C : Nat)), (2, iv s), (6, .val (.slice none 0 0)), (7, .slc 2001 1 0 i), (8, iv (s + i : Nat))] ∧
    hp = [(2001, rblk ((rowsL R C X).take i))]) (R) ?_ ?_ ?_
  · kernel_rfl
  · exact ⟨0, rfl, Nat.zero_le _, rfl, rfl⟩
  rintro m _ _ ⟨i, rfl, hi, rfl, rfl⟩
  have hlt0 : (((rowsL R C X).take i).map fFs).length = i := by rw [List.length_map, List.length_take]; omega
  by_cases hlt : i < R
  · have t1 := dlt (show s + i < (rowsL (s + R) (s + C) a).length by omega)
    have t2 := winc (i := s + i) (by omega)
    have hrl := rowL_len (c := C) hlt hz
    have hrl2 := hrl
    rw [List.length_take] at hrl2
    have e3 := take_rows (l := rowsL R C X) (i := i) (by omega)
    rw [rowsL_get hlt] at e3
    refine SWx.of hE ?_
    conv => whnf
    (repeat (first | (refine tst_tt t1 ?_; conv => whnf) | (refine g_o (op_lenM rfl rfl rfl (ev_ok rfl) (tgt rfl) rfl) ?_; conv => whnf) | (rw [t1]; conv => whnf)))
    refine SWx_adopt (t := 9) (k := 2002) (s := 3) (blk := fFblk []) rfl rfl rfl ?_
    refine SW_loopS hE (fun k => k) [0, 1, 2, 6, 7, 8, 9, 10] [2001, 2002] (fun m fr hp => ∃ k : Nat, m = C - k ∧ k ≤ C ∧ fr = [(0, mvec 1 fFs (rowsL (s + R) (s + C) a)), (1, iv (s + C : Nat)), (2, iv s), (6, .val (.slice none 0 0)), (7, .slc 2001 1 0 i), (8, iv (s + i : Nat)), (9, .slc 2002 3 0 k), (10, iv (s + k : Nat))] ∧
      hp = [(2001, rblk ((rowsL R C X).take i)), (2002, fFblk ((rowL X (C) i).take k))]) (C) ?_ ?_ ?_
    · kernel_rfl
    · exact ⟨0, rfl, Nat.zero_le _, rfl, rfl⟩
    rintro m _ _ ⟨k, rfl, hk, rfl, rfl⟩
    have hlt1 : (((rowL X (C) i).take k).map fF).length = k := by rw [List.length_map, List.length_take]; omega
    by_cases hlk : k < C
    · have t4 := dlt (show s + k < s + C by omega)
      have t5 := winc (i := s + k) (by omega)
      have e4 := take_map_snoc (z := rowL X (C) i) (i := k) (by omega)
      rw [rowL_get hlk] at e4
      have o1 := r_upTo s (s + i) (by omega)
      have o2 := r_upTo s (s + k) (by omega)
      have e : ∀ x, (upL s [((s + x : Nat) : Int)]).length = s + 1 := fun x => by rw [upL_len]; rfl
      have o3 := r_Minor ha sa hB (p := upL s [((s + i : Nat) : Int)]) (q := upL s [((s + k : Nat) : Int)]) (upL_in (by omega)) (upL_in (by omega)) (by rw [e]; omega) (by rw [e, e])
      rw [e, show (det (s + 1) fun x y => el a (s + C) ((upL s [((s + i : Nat) : Int)]).getD x 0).toNat ((upL s [((s + k : Nat) : Int)]).getD y 0).toNat) = bm s (el a (s + C)) i k from det_congr fun x y hx hy => by rw [upL_to hx, upL_to hy]] at o3
      have eX : el X C i k = bm s (el a (s + C)) i k := by rw [← hX]; exact mk_el hlt hlk
      rw [eX] at e4
      refine SWx.of hE ?_
      conv => whnf
      (repeat ((first | refine step_oA (by first | omega | decide | (simp only [tl0, dlen, List.length_replicate, List.length_set, List.length_map, List.length_zipWith, List.length_take, List.length_append, List.length_cons, List.length_nil]; omega)) ?_ | refine g_c (by assumption) ?_ | refine tst_tt t4 ?_ | rw [t4] | rw [t5]); conv => whnf))
      refine ⟨C - (k + 1), renBy [(34, 2002)], [0, 1, 2, 6, 7, 8, 9, 10], [2001, 34], by omega, by kernel_rfl, k + 1, rfl, hlk, rfl, ?_⟩
      rw [e4]; rfl
    · have t4 := dge (show ¬ s + k < s + C by omega)
      obtain rfl : k = C := by omega
      rw [List.take_of_length_le (l := rowL X k i) (by omega)]
      refine SWx_freezeM 9 2002 (fun _ h => h) (fun _ => rfl) rfl rfl hrl.symm ?_
      refine SWx.of hE ?_
      conv => whnf
      (repeat ((first | refine step_oA (by first | omega | decide | (simp only [tl0, dlen, List.length_replicate, List.length_set, List.length_map, List.length_zipWith, List.length_take, List.length_append, List.length_cons, List.length_nil]; omega)) ?_ | refine tst_ff t4 ?_ | rw [t4] | rw [t2]); conv => whnf))
      refine ⟨R - (i + 1), renBy [(38, 2001)], [0, 1, 2, 6, 7, 8], [38], by omega, by kernel_rfl, i + 1, rfl, hlt, rfl, ?_⟩
      rw [e3]; rfl
  · have t1 := dge (show ¬ s + i < (rowsL (s + R) (s + C) a).length by omega)
    obtain rfl : i = R := by omega
    rw [List.take_of_length_le (by omega)]
    refine SWx.of hE ?_
    conv => whnf
    (repeat (first | (refine tst_ff t1 ?_; conv => whnf) | (refine g_o (op_lenM rfl rfl rfl (ev_ok rfl) (tgt rfl) rfl) ?_; conv => whnf)))
    (first | exact Recast.refl _ | exact Frz.recast (Recast.refl _) rfl | (refine Frz.one rfl rfl ?_; (repeat (first | (refine FrzC.seq rfl (by first | rfl | (apply keylessL_map; intro _; rfl)) ?_; (first | rfl | omega | (simp <;> fail) | (simp <;> omega)))))) | (refine Frz.tup ?_; skip))
end Go.Proofs.YtkpfineikahgfaaGreatDoor

namespace Go.Proofs.YtkpfineikahgfaaGreatDoor
open Go.Sx
set_option linter.unusedSimpArgs false
set_option linter.unusedVariables false
set_option maxRecDepth 100000
set_option maxHeartbeats 40000000

theorem r_Adjugate {n B : Nat} {a : List Rat} (ha : a.length = n * n) (sa : Sm B a) (hB : B ≤ 1000) (hn : n ≤ 5) :
    CallOK Tryz.prog 31 [mvec 1 fFs (rowsL n n a)] [] (mvec 1 fFs (rowsL n n (mk n n (adj n (el a n))))) [] [] := by
  have hz := mk_len n n (adj n (el a n))
  have lra := rowsL_len n n a
  generalize hX : mk n n (adj n (el a n)) = X at *
  have lz := rowsL_len n n X
  have lz2 : ((rowsL n n X).map fFs).length = n := by rw [List.length_map, lz]
  refine callF (Z := []) tabOK mixedOK Tryz.func31 rfl (by kernel_rfl) (by first | rfl | (simp [keylessL, keyless, keylessL_map, *]; done)) (by first | rfl | (simp [keylessL, keyless, keylessL_map, *]; done)) (by kernel_rfl) rfl ?_
  intro w0 ρ0 hE
  conv => whnf
  skip
  refine SWx_adopt (t := 3) (k := 2001) (s := 1) (blk := rblk []) rfl rfl rfl ?_
  refine SW_loopS hE (fun k => k) [0, 2, 3, 4] [2001] (fun m fr hp => ∃ i : Nat, m = n - i ∧ i ≤ n ∧ fr = [(0, mvec 1 fFs (rowsL n n a)), (2, .val (.slice none 0 0)), (3, .slc 2001 1 0 i), (4, iv (i : Nat))] ∧
    hp = [(2001, rblk ((rowsL n n X).take i))]) (n) ?_ ?_ ?_
  · kernel_rfl
  · exact ⟨0, rfl, Nat.zero_le _, rfl, rfl⟩
  rintro m _ _ ⟨i, rfl, hi, rfl, rfl⟩
  have hlt0 : (((rowsL n n X).take i).map fFs).length = i := by rw [List.length_map, List.length_take]; omega
  by_cases hlt : i < n
  · have t1 := dlt (show i < (rowsL n n a).length by omega)
    have t2 := winc (i := i) (by omega)
    have hrl := rowL_len (c := n) hlt hz
    have hrl2 := hrl
    rw [List.length_take] at hrl2
    have e3 := take_rows (l := rowsL n n X) (i := i) (by omega)
    rw [rowsL_get hlt] at e3
    refine SWx.of hE ?_
    conv => whnf
    (repeat (first | (refine tst_tt t1 ?_; conv => whnf) | (refine g_o (op_lenM rfl rfl rfl (ev_ok rfl) (tgt rfl) rfl) ?_; conv => whnf) | (rw [t1]; conv => whnf)))
    refine SWx_adopt (t := 5) (k := 2002) (s := 3) (blk := fFblk []) rfl rfl rfl ?_
    refine SW_loopS hE (fun k => k) [0, 2, 3, 4, 5, 6] [2001, 2002] (fun m fr hp => ∃ k : Nat, m = n - k ∧ k ≤ n ∧ fr = [(0, mvec 1 fFs (rowsL n n a)), (2, .val (.slice none 0 0)), (3, .slc 2001 1 0 i), (4, iv (i : Nat)), (5, .slc 2002 3 0 k), (6, iv (k : Nat))] ∧
      hp = [(2001, rblk ((rowsL n n X).take i)), (2002, fFblk ((rowL X (n) i).take k))]) (n) ?_ ?_ ?_
    · kernel_rfl
    · exact ⟨0, rfl, Nat.zero_le _, rfl, rfl⟩
    rintro m _ _ ⟨k, rfl, hk, rfl, rfl⟩
    have hlt1 : (((rowL X (n) i).take k).map fF).length = k := by rw [List.length_map, List.length_take]; omega
    by_cases hlk : k < n
    · have t4 := dlt (show k < (rowsL n n a).length by omega)
      have t5 := winc (i := k) (by omega)
      have e4 := take_map_snoc (z := rowL X (n) i) (i := k) (by omega)
      rw [rowL_get hlk] at e4
      have o1 := r_without (rowsL n n a).length i (by omega) (by omega)
      have o2 := r_without (rowsL n n a).length k (by omega) (by omega)
      rw [show butN (rowsL n n a).length i = butN n i from by rw [lra]] at o1
      rw [show butN (rowsL n n a).length k = butN n k from by rw [lra]] at o2
      have o3 := r_Minor ha sa hB (p := butN n k) (q := butN n i) butN_in butN_in (by rw [butN_len]; omega) (by rw [butN_len, butN_len])
      rw [butN_len, show (det (n - 1) fun x y => el a n ((butN n k).getD x 0).toNat ((butN n i).getD y 0).toNat) = det (n - 1) (mnr (el a n) k i) from det_congr fun x y hx hy => by rw [butN_at hx, butN_at hy]; rfl] at o3
      have eX : el X n i k = sg (i + k) * det (n - 1) (mnr (el a n) k i) := by rw [← hX]; exact mk_el hlt hlk
      rw [eX] at e4
      have fD : fs (det (n - 1) (mnr (el a n) k i)) ≤ 3912812 := by
        have := picks_fs (n := n - 1) (B := B) (a := mk (n - 1) (n - 1) (mnr (el a n) k i)) (mk_len ..) (Sm_mk fun x y hx hy => el_sm sa ha (by have := sk_lt (k := k) hx; omega) (by have := sk_lt (k := i) hy; omega)) (n - 1) 0 [] (Nat.zero_add _)
        rw [picks_det, det_congr (B := mnr (el a n) k i) fun x y hx hy => mk_el hx hy] at this
        exact Nat.le_trans this (pS_top (by omega) hB (by omega))
      have w1 : IntKind.i64.wrap ((i : Int) + (k : Int)) = ((i + k : Nat) : Int) := by rw [wrap_i64 (by omega) (by omega)]; omega
      have e7 : ((i + k : Nat) : Int).tmod 2 = ((i + k : Nat) : Int) % 2 := Int.tmod_eq_emod_of_nonneg (Int.natCast_nonneg _)
      generalize det (n - 1) (mnr (el a n) k i) = D at *
      refine SWx.of hE ?_
      conv => whnf
      by_cases hodd : (i + k) % 2 = 1
      · have t8 : (((i + k : Nat) : Int).tmod 2 == 1) = true := by rw [e7]; exact beq_iff_eq.2 (by omega)
        have hsg : sg (i + k) * D = -D := by rw [← sgZ_cast, sgZ_mod, if_pos hodd]; grind
        rw [hsg] at e4
        have kn := r3_Neg D (by have := tl_fs (q := D) (Nat.le_refl _); omega)
        (repeat ((first | refine step_oA (by first | omega | decide | (simp only [tl0, dlen, List.length_replicate, List.length_set, List.length_map, List.length_zipWith, List.length_take, List.length_append, List.length_cons, List.length_nil]; omega)) ?_ | refine step_oN (by first | omega | decide | (simp only [tl0, dlen, List.length_replicate, List.length_set, List.length_map, List.length_zipWith, List.length_take, List.length_append, List.length_cons, List.length_nil]; omega)) ?_ | refine g_c (by assumption) ?_ | refine tst_tt t4 ?_ | refine tst_tt t8 ?_ | refine g_o (op_lenM rfl rfl rfl (ev_ok rfl) (tgt rfl) rfl) ?_ | rw [t4] | rw [w1] | rw [t8] | rw [t5]); conv => whnf))
        refine ⟨n - (k + 1), renBy [(40, 2002)], [0, 2, 3, 4, 5, 6], [2001, 40], by omega, by kernel_rfl, k + 1, rfl, hlk, rfl, ?_⟩
        rw [e4]; rfl
      · have t8 : (((i + k : Nat) : Int).tmod 2 == 1) = false := by rw [e7]; exact beq_eq_false_iff_ne.2 (by omega)
        have hsg : sg (i + k) * D = D := by rw [← sgZ_cast, sgZ_mod, if_neg hodd]; grind
        rw [hsg] at e4
        (repeat ((first | refine step_oA (by first | omega | decide | (simp only [tl0, dlen, List.length_replicate, List.length_set, List.length_map, List.length_zipWith, List.length_take, List.length_append, List.length_cons, List.length_nil]; omega)) ?_ | refine step_oN (by first | omega | decide | (simp only [tl0, dlen, List.length_replicate, List.length_set, List.length_map, List.length_zipWith, List.length_take, List.length_append, List.length_cons, List.length_nil]; omega)) ?_ | refine g_c (by assumption) ?_ | refine tst_tt t4 ?_ | refine tst_ff t8 ?_ | refine g_o (op_lenM rfl rfl rfl (ev_ok rfl) (tgt rfl) rfl) ?_ | rw [t4] | rw [w1] | rw [t8] | rw [t5]); conv => whnf))
        refine ⟨n - (k + 1), renBy [(40, 2002)], [0, 2, 3, 4, 5, 6], [2001, 40], by omega, by kernel_rfl, k + 1, rfl, hlk, rfl, ?_⟩
        rw [e4]; rfl
    · have t4 := dge (show ¬ k < (rowsL n n a).length by omega)
      obtain rfl : k = n := by omega
      rw [List.take_of_length_le (l := rowL X k i) (by omega)]
      refine SWx_freezeM 5 2002 (fun _ h => h) (fun _ => rfl) rfl rfl hrl.symm ?_
      refine SWx.of hE ?_
      conv => whnf
      (repeat ((first | refine step_oA (by first | omega | decide | (simp only [tl0, dlen, List.length_replicate, List.length_set, List.length_map, List.length_zipWith, List.length_take, List.length_append, List.length_cons, List.length_nil]; omega)) ?_ | refine tst_ff t4 ?_ | refine g_o (op_lenM rfl rfl rfl (ev_ok rfl) (tgt rfl) rfl) ?_ | rw [t4] | rw [t2]); conv => whnf))
      refine ⟨k - (i + 1), renBy [(44, 2001)], [0, 2, 3, 4], [44], by omega, by kernel_rfl, i + 1, rfl, hlt, rfl, ?_⟩
      rw [e3]; rfl
  · have t1 := dge (show ¬ i < (rowsL n n a).length by omega)
    obtain rfl : i = n := by omega
    rw [List.take_of_length_le (by omega)]
    refine SWx.of hE ?_
    conv => whnf
    (repeat (first | (refine tst_ff t1 ?_; conv => whnf) | (refine g_o (op_lenM rfl rfl rfl (ev_ok rfl) (tgt rfl) rfl) ?_; conv => whnf)))
    (first | exact Recast.refl _ | exact Frz.recast (Recast.refl _) rfl | (refine Frz.one rfl rfl ?_; (repeat (first | (refine FrzC.seq rfl (by first | rfl | (apply keylessL_map; intro _; rfl)) ?_; (first | rfl | omega | (simp <;> fail) | (simp <;> omega)))))) | (refine Frz.tup ?_; skip))
end Go.Proofs.YtkpfineikahgfaaGreatDoor

namespace Go.Proofs.YtkpfineikahgfaaGreatDoor
open Go.Sx
set_option linter.unusedSimpArgs false
set_option linter.unusedVariables false
set_option maxRecDepth 100000
set_option maxHeartbeats 40000000

theorem pow6 {k : Nat} (h : k < 6) : 2 * (65 * 4 ^ k) ≤ 1073741824 := by
  have : 4 ^ k ≤ 4 ^ 6 := Nat.pow_le_pow_right (by decide) (by omega)
  omega
end Go.Proofs.YtkpfineikahgfaaGreatDoor

namespace Go.Proofs.YtkpfineikahgfaaGreatDoor
open Go.Sx
set_option linter.unusedSimpArgs false
set_option linter.unusedVariables false
set_option maxRecDepth 100000
set_option maxHeartbeats 40000000

theorem ofInts_len (l : List Int) : (ofInts l).length = l.length := by simp [ofInts]
theorem ofInts_at {l : List Int} {i : Nat} (h : i < l.length) : (ofInts l).getD i 0 = ((l.getD i 0 : Int) : Rat) := map_getD h
theorem ofInts_Sm {l : List Int} {B : Nat} (h : Zm B l) : Sm (B + 1) (ofInts l) := by
  intro p hp
  rw [ofInts_len] at hp
  rw [ofInts_at hp]; have := fs_zs (l.getD p 0); have := h p hp; omega
theorem ofInts_mk {r c : Nat} (f : Mz) : ofInts (mkz r c f) = mk r c (toR f) := by simp [ofInts, mkz, mk, toR]
theorem el_ofInts {l : List Int} {r c i k : Nat} (hl : l.length = r * c) (hi : i < r) (hk : k < c) : el (ofInts l) c i k = ((elz l c i k : Int) : Rat) := ofInts_at (by rw [hl]; exact idx_lt hi hk)
theorem r15_is {r c B : Nat} {a : List Int} (ha : OKZ r c a) (za : Zm B a) (hB : B ≤ 999999) : CallOK Tryz.prog 28 [wA r c a, iv 0, mvec 1 fFs (rowsL r c (ofInts a)), iv c] [] (.val (.bool true)) [] [] := by
  have hm : OKM r c (ofInts a) := ⟨ha.r, ha.c, by rw [ofInts_len, ha.n]⟩
  have sm := ofInts_Sm za
  have hrc : r * c ≤ 2048 * 2048 := Nat.mul_le_mul ha.r ha.c
  have hn := ha.n
  have k1 := b_Text r c a (by omega) (fun i hi => Nat.le_trans (za i hi) (by omega)) (m_Text hm sm (by omega))
  have k2 := r13_Text hm sm (by omega)
  have la := rowsL_len r c (ofInts a)
  have t1 : IntKind.i64.wrap ((r : Int) * (c : Int)) = ((r * c : Nat) : Int) := by rw [← Int.natCast_mul, wrap_i64 (by omega) (by omega)]
  have e1 : ((a.length : Int) == ((r * c : Nat) : Int)) = true := by rw [ha.n]; exact beq_self_eq_true _
  refine callV (Z := [4]) tabOK mixedOK Tryz.func28 rfl (by kernel_rfl) rfl rfl (by kernel_rfl) rfl ?_
  intro W0 w0 ρ0 hE
  conv => whnf
  (repeat ((first | refine step_w1 rfl rfl ?_ | refine g_c (by assumption) ?_ | refine g_o (op_pickT rfl (ev_ok rfl) (ev_ok rfl)) ?_ | rw [beq_self_eq_true] | refine tst_tt e1 ?_ | refine g_o (op_lenM rfl rfl rfl (ev_ok rfl) (tgt rfl) rfl) ?_ | refine g_o (op_loadA rfl (ev_ok rfl) (tgt rfl) rfl (Nat.succ_ne_zero _) rfl) ?_ | refine g_o (op_fieldA rfl (ev_ok rfl) (tgt rfl) rfl rfl (Nat.succ_ne_zero _) rfl) ?_ | rw [la] | rw [t1] | rw [e1]); conv => whnf)); (first | exact Recast.refl _ | exact Frz.recast (Recast.refl _) rfl | (refine Frz.one rfl rfl ?_; skip) | (refine Frz.tup ?_; skip))
theorem lw_Same (q : Rat) (h : fs q ≤ 100000000) : CallOK Tryz.prog 32 [.frac q, fF q] [] (.val (.bool true)) [] [] := by
  have k1 := t_FracG q (by omega)
  have k2 := r3_Text q h
  generalize tQ q = s at *
  have t1 : (s.toList == s.toList) = true := beq_self_eq_true _
  refine callV (Z := [2, 3]) tabOK mixedOK Tryz.func32 rfl (by kernel_rfl) rfl rfl (by kernel_rfl) rfl ?_
  intro W0 w0 ρ0 hE
  conv => whnf
  (repeat ((first | refine step_i (by kernel_rfl) ?_ | refine g_c (by assumption) ?_ | rw [beq_self_eq_true] | refine g_o (op_loadA rfl (ev_ok rfl) (tgt rfl) rfl (Nat.succ_ne_zero _) rfl) ?_); conv => whnf))
  exact Recast.refl _
theorem lw_frac (n : Int) (h : zs n ≤ 536870912) : CallOK Tryz.prog 33 [.int n] [] (.frac n) [] [] := by
  have k1 := c_nOf 1 (by decide)
  have k2 := c_fFrom natBig n 1 (by unfold zs at h; omega) (by rw [sz_one]; decide) (by decide)
  rw [Rat.mkRat_one] at k2
  refine callV (Z := []) tabOK mixedOK Tryz.func33 rfl (by kernel_rfl) rfl rfl (by kernel_rfl) rfl ?_
  intro W0 w0 ρ0 hE
  conv => whnf
  (repeat (first | (refine step_i (by kernel_rfl) ?_; conv => whnf) | (refine g_c (by assumption) ?_; conv => whnf))); (first | exact Recast.refl _ | exact Frz.recast (Recast.refl _) rfl | (refine Frz.one rfl rfl ?_; skip) | (refine Frz.tup ?_; skip))
theorem zs_le_fs (z : Int) : zs z ≤ fs (z : Rat) := by
  have := fsz_num (z : Rat)
  rw [Rat.num_intCast] at this
  unfold zs fs; omega
theorem pS_70 {n B m : Nat} (hn : n ≤ 5) (hB : B ≤ 70) (hm : m ≤ 5) : pS n B m ≤ 300000 := by
  have h : ∀ m, pS n B m ≤ pS 5 70 m := by
    intro m
    induction m with
    | zero => exact Nat.le_refl _
    | succ m ih => exact Nat.add_le_add_left (Nat.mul_le_mul hn (Nat.add_le_add hB ih)) 2
  refine Nat.le_trans (h m) ?_
  obtain rfl | rfl | rfl | rfl | rfl | rfl : m = 0 ∨ m = 1 ∨ m = 2 ∨ m = 3 ∨ m = 4 ∨ m = 5 := by omega
  all_goals decide
/-- The size of a determinant of integers. -/
theorem detZ_zs {n B : Nat} {A : Mz} (hn : n ≤ 5) (hB : B ≤ 69) (h : ∀ i k, i < n → k < n → zs (A i k) ≤ B) : zs (detZ n A) ≤ 300000 := by
  refine Nat.le_trans (zs_le_fs _) ?_
  rw [detZ_cast]
  have := picks_fs (n := n) (B := B + 1) (a := mk n n (toR A)) (mk_len ..) (Sm_mk fun i k hi hk => by have := fs_zs (A i k); have := h i k hi hk; show fs ((A i k : Int) : Rat) ≤ _; omega) n 0 [] (Nat.zero_add _)
  rw [picks_det, det_congr (B := toR A) fun i k hi hk => mk_el hi hk] at this
  exact Nat.le_trans this (pS_70 hn (by omega) hn)
theorem adjZ_zs {n B : Nat} {A : Mz} (hn : n ≤ 5) (hB : B ≤ 69) (h : ∀ i k, i < n → k < n → zs (A i k) ≤ B) {i k : Nat} (hi : i < n) (hk : k < n) : zs (adjZ n A i k) ≤ 300000 := by
  have h1 := detZ_zs (n := n - 1) (B := B) (A := fun a b => A (sk k a) (sk i b)) (by omega) hB fun a b ha hb => h _ _ (by have := sk_lt (k := k) ha; omega) (by have := sk_lt (k := i) hb; omega)
  unfold adjZ
  rw [sgZ_mod]
  split
  · rw [Int.neg_one_mul, zs_neg]; exact h1
  · rw [Int.one_mul]; exact h1
theorem stage_eq {r c s : Nat} {X : List Int} (hl : X.length = r * c) (hsr : s ≤ r) (hsc : s ≤ c) : mk (r - s) (c - s) (bm s (el (ofInts X) c)) = ofInts (stM r c s X) := by
  rw [stM, ofInts_mk]
  refine mk_congr fun i k hi hk => ?_
  show _ = ((bmZ s (elz X c) i k : Int) : Rat)
  rw [bmZ_cast]
  refine det_congr fun a b ha hb => el_ofInts hl ?_ ?_
  · unfold at1; split <;> omega
  · unfold at1; split <;> omega
theorem adj_eq {n : Nat} {X : List Int} (hl : X.length = n * n) : mk n n (adj n (el (ofInts X) n)) = ofInts (mkz n n (adjZ n (elz X n))) := by
  rw [ofInts_mk]
  refine mk_congr fun i k hi hk => ?_
  show _ = ((adjZ n (elz X n) i k : Int) : Rat)
  rw [adjZ_cast, adj, adj]
  congr 1
  refine det_congr fun a b ha hb => el_ofInts hl ?_ ?_
  · have := sk_lt (k := k) ha; omega
  · have := sk_lt (k := i) hb; omega
theorem det_eq {n : Nat} {X : List Int} (hl : X.length = n * n) : (det n fun i k => el (ofInts X) n ((upN n).getD i 0).toNat ((upN n).getD k 0).toNat) = ((detZ n (elz X n) : Int) : Rat) := by
  rw [detZ_cast]
  refine det_congr fun i k hi hk => ?_
  rw [upN_at hi, upN_at hk]
  exact el_ofInts hl hi hk
end Go.Proofs.YtkpfineikahgfaaGreatDoor
