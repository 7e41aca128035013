/- The texts Ed, Ee, Ef, Dd, De, Df, Dg, Eg, Eh, Ei. -/
import Derived.Test.YtghdcjhlhcoijaaDoorQLModsRings3
/- Contracts: nats.Add. -/
namespace Go.Proofs.YtghdcjhlhcoijaaDoor
open Go.Sx
set_option linter.unusedSimpArgs false
set_option linter.unusedVariables false
set_option maxRecDepth 100000
set_option maxHeartbeats 4000000

theorem wInts_valge (n : Nat) {k : Nat} (h : (wInts n).length ≤ k) : valI (wInts n) k = n := by
  rw [valI_zeros (k := (wInts n).length) (fun i h1 _ => getD_ge h1) h, wInts_val]

theorem wArr_take (n : Nat) : (wArr n).take (wInts n).length = wInts n := by
  refine List.ext_getElem? fun i => ?_
  have hl := wArr_len n
  by_cases hi : i < (wInts n).length
  · have h := wArr_get (n := n) hi
    rw [List.getD_eq_getElem?_getD, List.getD_eq_getElem?_getD, List.getElem?_eq_getElem hi, List.getElem?_eq_getElem (show i < (wArr n).length by omega)] at h
    rw [List.getElem?_take, if_pos hi, List.getElem?_eq_getElem hi, List.getElem?_eq_getElem (show i < (wArr n).length by omega)]
    simpa using h
  · rw [List.getElem?_eq_none (l := wInts n) (by omega), List.getElem?_eq_none (by rw [List.length_take]; omega)]

theorem dcopy_words (n : Nat) : dcopy (.ints .u32 (List.replicate ((wInts n).length + 1) 0)) 0 (.ints .u32 (wArr n)) 0 (wInts n).length = some (.ints .u32 (wInts n ++ [0])) := by
  simp only [dcopy, if_true, List.take_zero, List.nil_append, List.drop_zero, Nat.zero_add, wArr_take, List.drop_replicate]
  rw [show (wInts n).length + 1 - (wInts n).length = 1 from by omega]
  rfl

theorem w32_snoc {xs : List Int} (h : W32 xs) : W32 (xs ++ [0]) := by
  intro i
  rw [getD_append]
  split
  · exact h i
  · cases i - xs.length with
    | zero => decide
    | succ j => simp
theorem getD_snoc (xs : List Int) (j : Nat) : (xs ++ [0]).getD j 0 = xs.getD j 0 := by
  rw [getD_append]
  split
  · rfl
  · rename_i h
    rw [getD_ge (xs := xs) (by omega)]
    cases j - xs.length <;> simp

theorem add_step {X Y out : List Int} {i o w c : Nat} (hi : i < out.length) (ho : out.getD i 0 = o) (hX : X.getD i 0 = o) (hY : Y.getD i 0 = w) (hv : valI out i + c * 4294967296 ^ i = valI X i + valI Y i) :
    valI (out.set i (((o + w + c) % 4294967296 : Nat) : Int)) (i + 1) + (((o + w + c) / 4294967296 : Nat) : Int) * 4294967296 ^ (i + 1) = valI X (i + 1) + valI Y (i + 1) := by
  rw [valI, valI, valI, valI_set_ge (Nat.le_refl i), getD_set, if_pos ⟨rfl, hi⟩, hX, hY, Int.pow_succ]
  have hd : (((o + w + c) % 4294967296 : Nat) : Int) = (o : Int) + w + c - (((o + w + c) / 4294967296 : Nat) : Int) * 4294967296 := by omega
  rw [hd]
  generalize (((o + w + c) / 4294967296 : Nat) : Int) = q
  generalize (4294967296 : Int) ^ i = P at *
  grind

theorem add_fin {x y lx ly c : Nat} {v : Int} (hc : c ≤ 1) (h0 : 0 ≤ v) (hv : v + c * 4294967296 ^ (lx + 1) = x + y) (hx : x < 4294967296 ^ lx) (hy : y < 4294967296 ^ ly) (hl : ly ≤ lx) : v.toNat = x + y := by
  have h1 : 4294967296 ^ ly ≤ 4294967296 ^ lx := Nat.pow_le_pow_right (by decide) hl
  have h2 : (4294967296 : Int) ^ (lx + 1) = ((4294967296 ^ lx : Nat) : Int) * 4294967296 := by rw [natPowW, Int.pow_succ]
  rw [h2] at hv
  have hc' : c = 0 ∨ c = 1 := by omega
  rcases hc' with rfl | rfl <;> omega


theorem n_Add (a b : Nat) (ha : (wInts a).length < 549755813888) (hb : (wInts b).length < 549755813888) :
    CallOK Tryd.prog 51 [.nat a, .nat b] [] (.nat (a + b)) [] [] := by
  by_cases hs : a + b < 18446744073709551616
  · exact s_Add a b hs
  · have ka := c_words a 1001 (by omega)
    have kb := c_words b 1002 (by omega)
    refine callV (Z := []) tabOK mixedOK Tryd.func51 rfl (by kernel_rfl) rfl rfl (by kernel_rfl) rfl ?_
    intro W0 w0 ρ0 hE
    conv => whnf
    by_cases h1 : a < 18446744073709551616
    · rw [big_eq, decide_eq_true h1]
      (repeat (first | (refine step_w1 rfl rfl ?_; conv => whnf) | (refine step_w2 rfl rfl ?_; conv => whnf) | (refine step_i (by kernel_rfl) ?_; conv => whnf) | (refine And.intro (by first | decide | omega | (simp only [tiB5, tiB22, tiB3, tiB2, tiB9, tiB55, tiB49, tiB28, tiB4, tiB66, tiB68]; omega)) ?_; conv => whnf) | (refine ⟨[], _, [], [], (by assumption), nil_fk, nil_new, nil_upd, ?_⟩; conv => whnf) | (refine ⟨[], _, [_], [], (by assumption), nil_fk, one_new rfl, nil_upd, ?_⟩; conv => whnf) | (refine ⟨[_], _, [], [], (by assumption), one_fk rfl, nil_new, nil_upd, ?_⟩; conv => whnf) | (refine ⟨[_, _], _, [], [], (by assumption), two_fk rfl rfl, nil_new, nil_upd, ?_⟩; conv => whnf) | (refine ⟨[_], _, [_], [], (by assumption), one_fk rfl, one_new rfl, nil_upd, ?_⟩; conv => whnf) | (refine ⟨[_], _, [], [_], (by assumption), one_fk rfl, nil_new, one_upd (List.mem_cons_self ..) rfl rfl rfl, ?_⟩; conv => whnf) | (refine ⟨[_, _], _, [], [_, _], (by assumption), two_fk rfl rfl, nil_new, two_upd (List.mem_cons_self ..) rfl rfl rfl (List.mem_cons_of_mem _ (List.mem_cons_self ..)) rfl rfl rfl, ?_⟩; conv => whnf) | (refine ⟨[_, _], _, [_, _], [], (by assumption), two_fk rfl rfl, two_new rfl rfl, nil_upd, ?_⟩; conv => whnf) | (refine ⟨_, [], [], [], op_pickT rfl (ev_ok rfl) (ev_ok rfl), nil_fk, nil_new, nil_upd, ?_⟩; conv => whnf) | (refine ⟨_, [], [], [], op_pickF rfl (ev_ok rfl) (ev_ok rfl), nil_fk, nil_new, nil_upd, ?_⟩; conv => whnf) | (rw [beq_self_eq_true]; conv => whnf) | (rw [bne_self_eq_false]; conv => whnf)))
      by_cases h2 : b < 18446744073709551616
      · rw [big_eq, decide_eq_true h2]
        have k64 := c_Add64 a b h1 h2
        rw [show (a + b) / 18446744073709551616 = 1 from by omega] at k64
        (repeat (first | (refine step_w1 rfl rfl ?_; conv => whnf) | (refine step_w2 rfl rfl ?_; conv => whnf) | (refine step_i (by kernel_rfl) ?_; conv => whnf) | (refine And.intro (by first | decide | omega | (simp only [tiB5, tiB22, tiB3, tiB2, tiB9, tiB55, tiB49, tiB28, tiB4, tiB66, tiB68]; omega)) ?_; conv => whnf) | (refine ⟨[], _, [], [], (by assumption), nil_fk, nil_new, nil_upd, ?_⟩; conv => whnf) | (refine ⟨[], _, [_], [], (by assumption), nil_fk, one_new rfl, nil_upd, ?_⟩; conv => whnf) | (refine ⟨[_], _, [], [], (by assumption), one_fk rfl, nil_new, nil_upd, ?_⟩; conv => whnf) | (refine ⟨[_, _], _, [], [], (by assumption), two_fk rfl rfl, nil_new, nil_upd, ?_⟩; conv => whnf) | (refine ⟨[_], _, [_], [], (by assumption), one_fk rfl, one_new rfl, nil_upd, ?_⟩; conv => whnf) | (refine ⟨[_], _, [], [_], (by assumption), one_fk rfl, nil_new, one_upd (List.mem_cons_self ..) rfl rfl rfl, ?_⟩; conv => whnf) | (refine ⟨[_, _], _, [], [_, _], (by assumption), two_fk rfl rfl, nil_new, two_upd (List.mem_cons_self ..) rfl rfl rfl (List.mem_cons_of_mem _ (List.mem_cons_self ..)) rfl rfl rfl, ?_⟩; conv => whnf) | (refine ⟨[_, _], _, [_, _], [], (by assumption), two_fk rfl rfl, two_new rfl rfl, nil_upd, ?_⟩; conv => whnf) | (refine ⟨_, [], [], [], op_pickT rfl (ev_ok rfl) (ev_ok rfl), nil_fk, nil_new, nil_upd, ?_⟩; conv => whnf) | (refine ⟨_, [], [], [], op_pickF rfl (ev_ok rfl) (ev_ok rfl), nil_fk, nil_new, nil_upd, ?_⟩; conv => whnf) | (rw [beq_self_eq_true]; conv => whnf) | (rw [bne_self_eq_false]; conv => whnf) | (rw [low_small h1]; conv => whnf) | (rw [low_small h2]; conv => whnf)))
        (repeat (first | (refine step_w1 rfl rfl ?_; conv => whnf) | (refine step_w2 rfl rfl ?_; conv => whnf) | (refine step_i (by kernel_rfl) ?_; conv => whnf) | (refine And.intro (by first | decide | omega | (simp only [tiB5, tiB22, tiB3, tiB2, tiB9, tiB55, tiB49, tiB28, tiB4, tiB66, tiB68]; omega)) ?_; conv => whnf) | (refine ⟨[], _, [], [], (by assumption), nil_fk, nil_new, nil_upd, ?_⟩; conv => whnf) | (refine ⟨[], _, [_], [], (by assumption), nil_fk, one_new rfl, nil_upd, ?_⟩; conv => whnf) | (refine ⟨[_], _, [], [], (by assumption), one_fk rfl, nil_new, nil_upd, ?_⟩; conv => whnf) | (refine ⟨[_, _], _, [], [], (by assumption), two_fk rfl rfl, nil_new, nil_upd, ?_⟩; conv => whnf) | (refine ⟨[_], _, [_], [], (by assumption), one_fk rfl, one_new rfl, nil_upd, ?_⟩; conv => whnf) | (refine ⟨[_], _, [], [_], (by assumption), one_fk rfl, nil_new, one_upd (List.mem_cons_self ..) rfl rfl rfl, ?_⟩; conv => whnf) | (refine ⟨[_, _], _, [], [_, _], (by assumption), two_fk rfl rfl, nil_new, two_upd (List.mem_cons_self ..) rfl rfl rfl (List.mem_cons_of_mem _ (List.mem_cons_self ..)) rfl rfl rfl, ?_⟩; conv => whnf) | (refine ⟨[_, _], _, [_, _], [], (by assumption), two_fk rfl rfl, two_new rfl rfl, nil_upd, ?_⟩; conv => whnf) | (refine ⟨_, [], [], [], op_pickT rfl (ev_ok rfl) (ev_ok rfl), nil_fk, nil_new, nil_upd, ?_⟩; conv => whnf) | (refine ⟨_, [], [], [], op_pickF rfl (ev_ok rfl) (ev_ok rfl), nil_fk, nil_new, nil_upd, ?_⟩; conv => whnf) | (rw [beq_self_eq_true]; conv => whnf) | (rw [bne_self_eq_false]; conv => whnf)))
        by_cases hl : (wInts a).length < (wInts b).length
        · rw [decide_eq_true (show ((wInts a).length : Int) < ((wInts b).length : Int) by omega)]
          have ew : IntKind.i64.wrap (((wInts b).length : Int) + 1) = (((wInts b).length + 1 : Nat) : Int) := by rw [wrap_i64 (by omega) (by omega)]; omega
          (repeat (first | (refine step_w1 rfl rfl ?_; conv => whnf) | (refine step_w2 rfl rfl ?_; conv => whnf) | (refine step_i (by kernel_rfl) ?_; conv => whnf) | (refine And.intro (by first | decide | omega | (simp only [tiB5, tiB22, tiB3, tiB2, tiB9, tiB55, tiB49, tiB28, tiB4, tiB66, tiB68]; omega)) ?_; conv => whnf) | (refine ⟨[], _, [], [], (by assumption), nil_fk, nil_new, nil_upd, ?_⟩; conv => whnf) | (refine ⟨[], _, [_], [], (by assumption), nil_fk, one_new rfl, nil_upd, ?_⟩; conv => whnf) | (refine ⟨[_], _, [], [], (by assumption), one_fk rfl, nil_new, nil_upd, ?_⟩; conv => whnf) | (refine ⟨[_, _], _, [], [], (by assumption), two_fk rfl rfl, nil_new, nil_upd, ?_⟩; conv => whnf) | (refine ⟨[_], _, [_], [], (by assumption), one_fk rfl, one_new rfl, nil_upd, ?_⟩; conv => whnf) | (refine ⟨[_], _, [], [_], (by assumption), one_fk rfl, nil_new, one_upd (List.mem_cons_self ..) rfl rfl rfl, ?_⟩; conv => whnf) | (refine ⟨[_, _], _, [], [_, _], (by assumption), two_fk rfl rfl, nil_new, two_upd (List.mem_cons_self ..) rfl rfl rfl (List.mem_cons_of_mem _ (List.mem_cons_self ..)) rfl rfl rfl, ?_⟩; conv => whnf) | (refine ⟨[_, _], _, [_, _], [], (by assumption), two_fk rfl rfl, two_new rfl rfl, nil_upd, ?_⟩; conv => whnf) | (refine ⟨_, [], [], [], op_pickT rfl (ev_ok rfl) (ev_ok rfl), nil_fk, nil_new, nil_upd, ?_⟩; conv => whnf) | (refine ⟨_, [], [], [], op_pickF rfl (ev_ok rfl) (ev_ok rfl), nil_fk, nil_new, nil_upd, ?_⟩; conv => whnf) | (rw [beq_self_eq_true]; conv => whnf) | (rw [bne_self_eq_false]; conv => whnf) | (rw [ew]; conv => whnf)))
          refine ⟨_, [(47, ⟨22, true, .ints .u32 (List.replicate ((wInts b).length + 1) 0)⟩), (1002, ⟨22, true, .ints .u32 (wArr b)⟩)], [], [(47, ⟨22, true, .ints .u32 (wInts b ++ [0])⟩)], op_copy (c := (wInts b).length) (n := (wInts b).length + 1) rfl rfl rfl (ev_ok rfl) (ev_ok rfl) (tabOK.get (t := 39) rfl) rfl (tabOK.get (t := 22) rfl) (List.mem_cons_self ..) (List.mem_cons_of_mem _ (List.mem_cons_self ..)) rfl rfl rfl rfl (by simp [dlen]) (by show 0 + _ ≤ (wArr b).length; have := wArr_len b; omega) (Nat.min_eq_left (Nat.le_succ _)).symm (dcopy_words b), two_fk rfl rfl, nil_new, one_upd (List.mem_cons_self ..) rfl rfl rfl, ?_⟩
          conv => whnf
          (repeat (first | (refine step_w1 rfl rfl ?_; conv => whnf) | (refine step_w2 rfl rfl ?_; conv => whnf) | (refine step_i (by kernel_rfl) ?_; conv => whnf) | (refine And.intro (by first | decide | omega | (simp only [tiB5, tiB22, tiB3, tiB2, tiB9, tiB55, tiB49, tiB28, tiB4, tiB66, tiB68]; omega)) ?_; conv => whnf) | (refine ⟨[], _, [], [], (by assumption), nil_fk, nil_new, nil_upd, ?_⟩; conv => whnf) | (refine ⟨[], _, [_], [], (by assumption), nil_fk, one_new rfl, nil_upd, ?_⟩; conv => whnf) | (refine ⟨[_], _, [], [], (by assumption), one_fk rfl, nil_new, nil_upd, ?_⟩; conv => whnf) | (refine ⟨[_, _], _, [], [], (by assumption), two_fk rfl rfl, nil_new, nil_upd, ?_⟩; conv => whnf) | (refine ⟨[_], _, [_], [], (by assumption), one_fk rfl, one_new rfl, nil_upd, ?_⟩; conv => whnf) | (refine ⟨[_], _, [], [_], (by assumption), one_fk rfl, nil_new, one_upd (List.mem_cons_self ..) rfl rfl rfl, ?_⟩; conv => whnf) | (refine ⟨[_, _], _, [], [_, _], (by assumption), two_fk rfl rfl, nil_new, two_upd (List.mem_cons_self ..) rfl rfl rfl (List.mem_cons_of_mem _ (List.mem_cons_self ..)) rfl rfl rfl, ?_⟩; conv => whnf) | (refine ⟨[_, _], _, [_, _], [], (by assumption), two_fk rfl rfl, two_new rfl rfl, nil_upd, ?_⟩; conv => whnf) | (refine ⟨_, [], [], [], op_pickT rfl (ev_ok rfl) (ev_ok rfl), nil_fk, nil_new, nil_upd, ?_⟩; conv => whnf) | (refine ⟨_, [], [], [], op_pickF rfl (ev_ok rfl) (ev_ok rfl), nil_fk, nil_new, nil_upd, ?_⟩; conv => whnf) | (rw [beq_self_eq_true]; conv => whnf) | (rw [bne_self_eq_false]; conv => whnf)))
          refine SW_loopN hE (fun k => k) [4, 8, 9, 10, 52, 53] [4, 1001, 47] (fun m fr hp => ∃ (i : Nat) (out : List Int) (c : Nat), m = (wInts b).length + 1 - i ∧ i ≤ (wInts b).length + 1 ∧ c ≤ 1 ∧ out.length = (wInts b).length + 1 ∧ W32 out ∧ (∀ j, i ≤ j → out.getD j 0 = (wInts b).getD j 0) ∧ valI out i + c * 4294967296 ^ i = valI (wInts b) i + valI (wInts a) i ∧
            fr = [(4, .ptr 4 0 0 0), (8, .slc 1001 1 0 (wInts a).length), (9, .slc 47 1 0 ((wInts b).length + 1)), (10, .val (.int .u32 c)), (52, .val (.int .i64 (((wInts b).length + 1 : Nat)))), (53, .val (.int .i64 i))] ∧ hp = [(4, ⟨45, true, .one [.nat 0]⟩), (1001, ⟨22, true, .ints .u32 (wArr a)⟩), (47, ⟨22, true, .ints .u32 out⟩)]) ((wInts b).length + 1) ?_ ?_ ?_
          · kernel_rfl
          · exact ⟨0, wInts b ++ [0], 0, by omega, by omega, by omega, by simp, w32_snoc (wInts_w32 b), (fun j _ => getD_snoc _ j), by simp [valI], rfl, rfl⟩
          rintro m _ _ ⟨i, out, c, rfl, hi, hc, hlen, hw, hrest, hval, rfl, rfl⟩
          by_cases hlt : i < (wInts b).length + 1
          · have t1 : decide ((i : Int) < (((wInts b).length + 1 : Nat) : Int)) = true := decide_eq_true (by omega)
            have e1 : 0 + (i : Int).toNat = i := by omega
            have e2 : IntKind.i64.wrap ((i : Int) + 1) = ((i + 1 : Nat) : Int) := by rw [wrap_i64 (by omega) (by omega)]; omega
            obtain ⟨o, ho⟩ := Int.eq_ofNat_of_zero_le (hw i).1
            obtain ⟨w, hww⟩ := Int.eq_ofNat_of_zero_le (wInts_w32 a i).1
            have ho2 := (hw i).2
            have hw2 := (wInts_w32 a i).2
            have k32 := c_Add32 o w c (by omega) (by omega) hc
            have hX : (wInts b).getD i 0 = o := by rw [← hrest i (Nat.le_refl _)]; exact ho
            have hstep := add_step (by omega) ho hX hww hval
            have hc' : (o + w + c) / 4294967296 ≤ 1 := by omega
            have hrest' : ∀ j, i + 1 ≤ j → (out.set i (((o + w + c) % 4294967296 : Nat) : Int)).getD j 0 = (wInts b).getD j 0 := fun j hj => by
              rw [getD_set, if_neg (by omega)]; exact hrest j (by omega)
            by_cases hy : i < (wInts a).length
            · have t2 : decide ((i : Int) < ((wInts a).length : Int)) = true := decide_eq_true (by omega)
              have hyl := wArr_len a
              have e3 : (wArr a).getD i 0 = (w : Int) := by rw [wArr_get hy]; exact hww
              conv => whnf
              (repeat (first | (refine step_w1 rfl rfl ?_; conv => whnf) | (refine step_w2 rfl rfl ?_; conv => whnf) | (refine step_i (by kernel_rfl) ?_; conv => whnf) | (refine And.intro (by first | decide | omega | (simp only [tiB5, tiB22, tiB3, tiB2, tiB9, tiB55, tiB49, tiB28, tiB4, tiB66, tiB68]; omega)) ?_; conv => whnf) | (refine ⟨[], _, [], [], (by assumption), nil_fk, nil_new, nil_upd, ?_⟩; conv => whnf) | (refine ⟨[], _, [_], [], (by assumption), nil_fk, one_new rfl, nil_upd, ?_⟩; conv => whnf) | (refine ⟨[_], _, [], [], (by assumption), one_fk rfl, nil_new, nil_upd, ?_⟩; conv => whnf) | (refine ⟨[_, _], _, [], [], (by assumption), two_fk rfl rfl, nil_new, nil_upd, ?_⟩; conv => whnf) | (refine ⟨[_], _, [_], [], (by assumption), one_fk rfl, one_new rfl, nil_upd, ?_⟩; conv => whnf) | (refine ⟨[_], _, [], [_], (by assumption), one_fk rfl, nil_new, one_upd (List.mem_cons_self ..) rfl rfl rfl, ?_⟩; conv => whnf) | (refine ⟨[_, _], _, [], [_, _], (by assumption), two_fk rfl rfl, nil_new, two_upd (List.mem_cons_self ..) rfl rfl rfl (List.mem_cons_of_mem _ (List.mem_cons_self ..)) rfl rfl rfl, ?_⟩; conv => whnf) | (refine ⟨[_, _], _, [_, _], [], (by assumption), two_fk rfl rfl, two_new rfl rfl, nil_upd, ?_⟩; conv => whnf) | (refine ⟨_, [], [], [], op_pickT rfl (ev_ok rfl) (ev_ok rfl), nil_fk, nil_new, nil_upd, ?_⟩; conv => whnf) | (refine ⟨_, [], [], [], op_pickF rfl (ev_ok rfl) (ev_ok rfl), nil_fk, nil_new, nil_upd, ?_⟩; conv => whnf) | (rw [beq_self_eq_true]; conv => whnf) | (rw [bne_self_eq_false]; conv => whnf) | (rw [t1]; conv => whnf) | (rw [t2]; conv => whnf) | (rw [e1]; conv => whnf) | (rw [e3]; conv => whnf) | (rw [ho]; conv => whnf)))
              rw [e2]
              exact ⟨(wInts b).length + 1 - (i + 1), fun k => k, [4, 8, 9, 10, 52, 53], [4, 1001, 47], by omega, by kernel_rfl, i + 1, _, _, rfl, by omega, hc', by simpa using hlen, hw.set (by omega) (by omega), hrest', hstep, rfl, rfl⟩
            · have t2 : decide ((i : Int) < ((wInts a).length : Int)) = false := decide_eq_false (by omega)
              have hw0 : w = 0 := by have := getD_ge (xs := wInts a) (i := i) (by omega); omega
              subst hw0
              conv => whnf
              (repeat (first | (refine step_w1 rfl rfl ?_; conv => whnf) | (refine step_w2 rfl rfl ?_; conv => whnf) | (refine step_i (by kernel_rfl) ?_; conv => whnf) | (refine And.intro (by first | decide | omega | (simp only [tiB5, tiB22, tiB3, tiB2, tiB9, tiB55, tiB49, tiB28, tiB4, tiB66, tiB68]; omega)) ?_; conv => whnf) | (refine ⟨[], _, [], [], (by assumption), nil_fk, nil_new, nil_upd, ?_⟩; conv => whnf) | (refine ⟨[], _, [_], [], (by assumption), nil_fk, one_new rfl, nil_upd, ?_⟩; conv => whnf) | (refine ⟨[_], _, [], [], (by assumption), one_fk rfl, nil_new, nil_upd, ?_⟩; conv => whnf) | (refine ⟨[_, _], _, [], [], (by assumption), two_fk rfl rfl, nil_new, nil_upd, ?_⟩; conv => whnf) | (refine ⟨[_], _, [_], [], (by assumption), one_fk rfl, one_new rfl, nil_upd, ?_⟩; conv => whnf) | (refine ⟨[_], _, [], [_], (by assumption), one_fk rfl, nil_new, one_upd (List.mem_cons_self ..) rfl rfl rfl, ?_⟩; conv => whnf) | (refine ⟨[_, _], _, [], [_, _], (by assumption), two_fk rfl rfl, nil_new, two_upd (List.mem_cons_self ..) rfl rfl rfl (List.mem_cons_of_mem _ (List.mem_cons_self ..)) rfl rfl rfl, ?_⟩; conv => whnf) | (refine ⟨[_, _], _, [_, _], [], (by assumption), two_fk rfl rfl, two_new rfl rfl, nil_upd, ?_⟩; conv => whnf) | (refine ⟨_, [], [], [], op_pickT rfl (ev_ok rfl) (ev_ok rfl), nil_fk, nil_new, nil_upd, ?_⟩; conv => whnf) | (refine ⟨_, [], [], [], op_pickF rfl (ev_ok rfl) (ev_ok rfl), nil_fk, nil_new, nil_upd, ?_⟩; conv => whnf) | (rw [beq_self_eq_true]; conv => whnf) | (rw [bne_self_eq_false]; conv => whnf) | (rw [t1]; conv => whnf) | (rw [t2]; conv => whnf) | (rw [e1]; conv => whnf) | (rw [ho]; conv => whnf)))
              rw [e2]
              exact ⟨(wInts b).length + 1 - (i + 1), fun k => k, [4, 8, 9, 10, 52, 53], [4, 1001, 47], by omega, by kernel_rfl, i + 1, _, _, rfl, by omega, hc', by simpa using hlen, hw.set (by omega) (by omega), hrest', hstep, rfl, rfl⟩
          · have hi' : i = (wInts b).length + 1 := by omega
            subst hi'
            have t1 : decide ((((wInts b).length + 1 : Nat) : Int) < (((wInts b).length + 1 : Nat) : Int)) = false := decide_eq_false (by omega)
            rw [wInts_valge b (by omega), wInts_valge a (by omega)] at hval
            have hsum : (valI out ((wInts b).length + 1)).toNat = a + b := by
              have := add_fin hc (valI_nonneg hw _) hval (lt_of_len b) (lt_of_len a) (by omega)
              omega
            have kof := c_of out ((wInts b).length + 1) (by omega) (by omega) hw 47 true
            rw [hsum] at kof
            conv => whnf
            (repeat (first | (refine step_w1 rfl rfl ?_; conv => whnf) | (refine step_w2 rfl rfl ?_; conv => whnf) | (refine step_i (by kernel_rfl) ?_; conv => whnf) | (refine And.intro (by first | decide | omega | (simp only [tiB5, tiB22, tiB3, tiB2, tiB9, tiB55, tiB49, tiB28, tiB4, tiB66, tiB68]; omega)) ?_; conv => whnf) | (refine ⟨[], _, [], [], (by assumption), nil_fk, nil_new, nil_upd, ?_⟩; conv => whnf) | (refine ⟨[], _, [_], [], (by assumption), nil_fk, one_new rfl, nil_upd, ?_⟩; conv => whnf) | (refine ⟨[_], _, [], [], (by assumption), one_fk rfl, nil_new, nil_upd, ?_⟩; conv => whnf) | (refine ⟨[_, _], _, [], [], (by assumption), two_fk rfl rfl, nil_new, nil_upd, ?_⟩; conv => whnf) | (refine ⟨[_], _, [_], [], (by assumption), one_fk rfl, one_new rfl, nil_upd, ?_⟩; conv => whnf) | (refine ⟨[_], _, [], [_], (by assumption), one_fk rfl, nil_new, one_upd (List.mem_cons_self ..) rfl rfl rfl, ?_⟩; conv => whnf) | (refine ⟨[_, _], _, [], [_, _], (by assumption), two_fk rfl rfl, nil_new, two_upd (List.mem_cons_self ..) rfl rfl rfl (List.mem_cons_of_mem _ (List.mem_cons_self ..)) rfl rfl rfl, ?_⟩; conv => whnf) | (refine ⟨[_, _], _, [_, _], [], (by assumption), two_fk rfl rfl, two_new rfl rfl, nil_upd, ?_⟩; conv => whnf) | (refine ⟨_, [], [], [], op_pickT rfl (ev_ok rfl) (ev_ok rfl), nil_fk, nil_new, nil_upd, ?_⟩; conv => whnf) | (refine ⟨_, [], [], [], op_pickF rfl (ev_ok rfl) (ev_ok rfl), nil_fk, nil_new, nil_upd, ?_⟩; conv => whnf) | (rw [beq_self_eq_true]; conv => whnf) | (rw [bne_self_eq_false]; conv => whnf) | (rw [t1]; conv => whnf)))
            exact Recast.refl _
        · rw [decide_eq_false (show ¬ ((wInts a).length : Int) < ((wInts b).length : Int) by omega)]
          have ew : IntKind.i64.wrap (((wInts a).length : Int) + 1) = (((wInts a).length + 1 : Nat) : Int) := by rw [wrap_i64 (by omega) (by omega)]; omega
          (repeat (first | (refine step_w1 rfl rfl ?_; conv => whnf) | (refine step_w2 rfl rfl ?_; conv => whnf) | (refine step_i (by kernel_rfl) ?_; conv => whnf) | (refine And.intro (by first | decide | omega | (simp only [tiB5, tiB22, tiB3, tiB2, tiB9, tiB55, tiB49, tiB28, tiB4, tiB66, tiB68]; omega)) ?_; conv => whnf) | (refine ⟨[], _, [], [], (by assumption), nil_fk, nil_new, nil_upd, ?_⟩; conv => whnf) | (refine ⟨[], _, [_], [], (by assumption), nil_fk, one_new rfl, nil_upd, ?_⟩; conv => whnf) | (refine ⟨[_], _, [], [], (by assumption), one_fk rfl, nil_new, nil_upd, ?_⟩; conv => whnf) | (refine ⟨[_, _], _, [], [], (by assumption), two_fk rfl rfl, nil_new, nil_upd, ?_⟩; conv => whnf) | (refine ⟨[_], _, [_], [], (by assumption), one_fk rfl, one_new rfl, nil_upd, ?_⟩; conv => whnf) | (refine ⟨[_], _, [], [_], (by assumption), one_fk rfl, nil_new, one_upd (List.mem_cons_self ..) rfl rfl rfl, ?_⟩; conv => whnf) | (refine ⟨[_, _], _, [], [_, _], (by assumption), two_fk rfl rfl, nil_new, two_upd (List.mem_cons_self ..) rfl rfl rfl (List.mem_cons_of_mem _ (List.mem_cons_self ..)) rfl rfl rfl, ?_⟩; conv => whnf) | (refine ⟨[_, _], _, [_, _], [], (by assumption), two_fk rfl rfl, two_new rfl rfl, nil_upd, ?_⟩; conv => whnf) | (refine ⟨_, [], [], [], op_pickT rfl (ev_ok rfl) (ev_ok rfl), nil_fk, nil_new, nil_upd, ?_⟩; conv => whnf) | (refine ⟨_, [], [], [], op_pickF rfl (ev_ok rfl) (ev_ok rfl), nil_fk, nil_new, nil_upd, ?_⟩; conv => whnf) | (rw [beq_self_eq_true]; conv => whnf) | (rw [bne_self_eq_false]; conv => whnf) | (rw [ew]; conv => whnf)))
          refine ⟨_, [(47, ⟨22, true, .ints .u32 (List.replicate ((wInts a).length + 1) 0)⟩), (1001, ⟨22, true, .ints .u32 (wArr a)⟩)], [], [(47, ⟨22, true, .ints .u32 (wInts a ++ [0])⟩)], op_copy (c := (wInts a).length) (n := (wInts a).length + 1) rfl rfl rfl (ev_ok rfl) (ev_ok rfl) (tabOK.get (t := 39) rfl) rfl (tabOK.get (t := 22) rfl) (List.mem_cons_self ..) (List.mem_cons_of_mem _ (List.mem_cons_self ..)) rfl rfl rfl rfl (by simp [dlen]) (by show 0 + _ ≤ (wArr a).length; have := wArr_len a; omega) (Nat.min_eq_left (Nat.le_succ _)).symm (dcopy_words a), two_fk rfl rfl, nil_new, one_upd (List.mem_cons_self ..) rfl rfl rfl, ?_⟩
          conv => whnf
          (repeat (first | (refine step_w1 rfl rfl ?_; conv => whnf) | (refine step_w2 rfl rfl ?_; conv => whnf) | (refine step_i (by kernel_rfl) ?_; conv => whnf) | (refine And.intro (by first | decide | omega | (simp only [tiB5, tiB22, tiB3, tiB2, tiB9, tiB55, tiB49, tiB28, tiB4, tiB66, tiB68]; omega)) ?_; conv => whnf) | (refine ⟨[], _, [], [], (by assumption), nil_fk, nil_new, nil_upd, ?_⟩; conv => whnf) | (refine ⟨[], _, [_], [], (by assumption), nil_fk, one_new rfl, nil_upd, ?_⟩; conv => whnf) | (refine ⟨[_], _, [], [], (by assumption), one_fk rfl, nil_new, nil_upd, ?_⟩; conv => whnf) | (refine ⟨[_, _], _, [], [], (by assumption), two_fk rfl rfl, nil_new, nil_upd, ?_⟩; conv => whnf) | (refine ⟨[_], _, [_], [], (by assumption), one_fk rfl, one_new rfl, nil_upd, ?_⟩; conv => whnf) | (refine ⟨[_], _, [], [_], (by assumption), one_fk rfl, nil_new, one_upd (List.mem_cons_self ..) rfl rfl rfl, ?_⟩; conv => whnf) | (refine ⟨[_, _], _, [], [_, _], (by assumption), two_fk rfl rfl, nil_new, two_upd (List.mem_cons_self ..) rfl rfl rfl (List.mem_cons_of_mem _ (List.mem_cons_self ..)) rfl rfl rfl, ?_⟩; conv => whnf) | (refine ⟨[_, _], _, [_, _], [], (by assumption), two_fk rfl rfl, two_new rfl rfl, nil_upd, ?_⟩; conv => whnf) | (refine ⟨_, [], [], [], op_pickT rfl (ev_ok rfl) (ev_ok rfl), nil_fk, nil_new, nil_upd, ?_⟩; conv => whnf) | (refine ⟨_, [], [], [], op_pickF rfl (ev_ok rfl) (ev_ok rfl), nil_fk, nil_new, nil_upd, ?_⟩; conv => whnf) | (rw [beq_self_eq_true]; conv => whnf) | (rw [bne_self_eq_false]; conv => whnf)))
          refine SW_loopN hE (fun k => k) [4, 8, 9, 10, 52, 53] [4, 1002, 47] (fun m fr hp => ∃ (i : Nat) (out : List Int) (c : Nat), m = (wInts a).length + 1 - i ∧ i ≤ (wInts a).length + 1 ∧ c ≤ 1 ∧ out.length = (wInts a).length + 1 ∧ W32 out ∧ (∀ j, i ≤ j → out.getD j 0 = (wInts a).getD j 0) ∧ valI out i + c * 4294967296 ^ i = valI (wInts a) i + valI (wInts b) i ∧
            fr = [(4, .ptr 4 0 0 0), (8, .slc 1002 1 0 (wInts b).length), (9, .slc 47 1 0 ((wInts a).length + 1)), (10, .val (.int .u32 c)), (52, .val (.int .i64 (((wInts a).length + 1 : Nat)))), (53, .val (.int .i64 i))] ∧ hp = [(4, ⟨45, true, .one [.nat 0]⟩), (1002, ⟨22, true, .ints .u32 (wArr b)⟩), (47, ⟨22, true, .ints .u32 out⟩)]) ((wInts a).length + 1) ?_ ?_ ?_
          · kernel_rfl
          · exact ⟨0, wInts a ++ [0], 0, by omega, by omega, by omega, by simp, w32_snoc (wInts_w32 a), (fun j _ => getD_snoc _ j), by simp [valI], rfl, rfl⟩
          rintro m _ _ ⟨i, out, c, rfl, hi, hc, hlen, hw, hrest, hval, rfl, rfl⟩
          by_cases hlt : i < (wInts a).length + 1
          · have t1 : decide ((i : Int) < (((wInts a).length + 1 : Nat) : Int)) = true := decide_eq_true (by omega)
            have e1 : 0 + (i : Int).toNat = i := by omega
            have e2 : IntKind.i64.wrap ((i : Int) + 1) = ((i + 1 : Nat) : Int) := by rw [wrap_i64 (by omega) (by omega)]; omega
            obtain ⟨o, ho⟩ := Int.eq_ofNat_of_zero_le (hw i).1
            obtain ⟨w, hww⟩ := Int.eq_ofNat_of_zero_le (wInts_w32 b i).1
            have ho2 := (hw i).2
            have hw2 := (wInts_w32 b i).2
            have k32 := c_Add32 o w c (by omega) (by omega) hc
            have hX : (wInts a).getD i 0 = o := by rw [← hrest i (Nat.le_refl _)]; exact ho
            have hstep := add_step (by omega) ho hX hww hval
            have hc' : (o + w + c) / 4294967296 ≤ 1 := by omega
            have hrest' : ∀ j, i + 1 ≤ j → (out.set i (((o + w + c) % 4294967296 : Nat) : Int)).getD j 0 = (wInts a).getD j 0 := fun j hj => by
              rw [getD_set, if_neg (by omega)]; exact hrest j (by omega)
            by_cases hy : i < (wInts b).length
            · have t2 : decide ((i : Int) < ((wInts b).length : Int)) = true := decide_eq_true (by omega)
              have hyl := wArr_len b
              have e3 : (wArr b).getD i 0 = (w : Int) := by rw [wArr_get hy]; exact hww
              conv => whnf
              (repeat (first | (refine step_w1 rfl rfl ?_; conv => whnf) | (refine step_w2 rfl rfl ?_; conv => whnf) | (refine step_i (by kernel_rfl) ?_; conv => whnf) | (refine And.intro (by first | decide | omega | (simp only [tiB5, tiB22, tiB3, tiB2, tiB9, tiB55, tiB49, tiB28, tiB4, tiB66, tiB68]; omega)) ?_; conv => whnf) | (refine ⟨[], _, [], [], (by assumption), nil_fk, nil_new, nil_upd, ?_⟩; conv => whnf) | (refine ⟨[], _, [_], [], (by assumption), nil_fk, one_new rfl, nil_upd, ?_⟩; conv => whnf) | (refine ⟨[_], _, [], [], (by assumption), one_fk rfl, nil_new, nil_upd, ?_⟩; conv => whnf) | (refine ⟨[_, _], _, [], [], (by assumption), two_fk rfl rfl, nil_new, nil_upd, ?_⟩; conv => whnf) | (refine ⟨[_], _, [_], [], (by assumption), one_fk rfl, one_new rfl, nil_upd, ?_⟩; conv => whnf) | (refine ⟨[_], _, [], [_], (by assumption), one_fk rfl, nil_new, one_upd (List.mem_cons_self ..) rfl rfl rfl, ?_⟩; conv => whnf) | (refine ⟨[_, _], _, [], [_, _], (by assumption), two_fk rfl rfl, nil_new, two_upd (List.mem_cons_self ..) rfl rfl rfl (List.mem_cons_of_mem _ (List.mem_cons_self ..)) rfl rfl rfl, ?_⟩; conv => whnf) | (refine ⟨[_, _], _, [_, _], [], (by assumption), two_fk rfl rfl, two_new rfl rfl, nil_upd, ?_⟩; conv => whnf) | (refine ⟨_, [], [], [], op_pickT rfl (ev_ok rfl) (ev_ok rfl), nil_fk, nil_new, nil_upd, ?_⟩; conv => whnf) | (refine ⟨_, [], [], [], op_pickF rfl (ev_ok rfl) (ev_ok rfl), nil_fk, nil_new, nil_upd, ?_⟩; conv => whnf) | (rw [beq_self_eq_true]; conv => whnf) | (rw [bne_self_eq_false]; conv => whnf) | (rw [t1]; conv => whnf) | (rw [t2]; conv => whnf) | (rw [e1]; conv => whnf) | (rw [e3]; conv => whnf) | (rw [ho]; conv => whnf)))
              rw [e2]
              exact ⟨(wInts a).length + 1 - (i + 1), fun k => k, [4, 8, 9, 10, 52, 53], [4, 1002, 47], by omega, by kernel_rfl, i + 1, _, _, rfl, by omega, hc', by simpa using hlen, hw.set (by omega) (by omega), hrest', hstep, rfl, rfl⟩
            · have t2 : decide ((i : Int) < ((wInts b).length : Int)) = false := decide_eq_false (by omega)
              have hw0 : w = 0 := by have := getD_ge (xs := wInts b) (i := i) (by omega); omega
              subst hw0
              conv => whnf
              (repeat (first | (refine step_w1 rfl rfl ?_; conv => whnf) | (refine step_w2 rfl rfl ?_; conv => whnf) | (refine step_i (by kernel_rfl) ?_; conv => whnf) | (refine And.intro (by first | decide | omega | (simp only [tiB5, tiB22, tiB3, tiB2, tiB9, tiB55, tiB49, tiB28, tiB4, tiB66, tiB68]; omega)) ?_; conv => whnf) | (refine ⟨[], _, [], [], (by assumption), nil_fk, nil_new, nil_upd, ?_⟩; conv => whnf) | (refine ⟨[], _, [_], [], (by assumption), nil_fk, one_new rfl, nil_upd, ?_⟩; conv => whnf) | (refine ⟨[_], _, [], [], (by assumption), one_fk rfl, nil_new, nil_upd, ?_⟩; conv => whnf) | (refine ⟨[_, _], _, [], [], (by assumption), two_fk rfl rfl, nil_new, nil_upd, ?_⟩; conv => whnf) | (refine ⟨[_], _, [_], [], (by assumption), one_fk rfl, one_new rfl, nil_upd, ?_⟩; conv => whnf) | (refine ⟨[_], _, [], [_], (by assumption), one_fk rfl, nil_new, one_upd (List.mem_cons_self ..) rfl rfl rfl, ?_⟩; conv => whnf) | (refine ⟨[_, _], _, [], [_, _], (by assumption), two_fk rfl rfl, nil_new, two_upd (List.mem_cons_self ..) rfl rfl rfl (List.mem_cons_of_mem _ (List.mem_cons_self ..)) rfl rfl rfl, ?_⟩; conv => whnf) | (refine ⟨[_, _], _, [_, _], [], (by assumption), two_fk rfl rfl, two_new rfl rfl, nil_upd, ?_⟩; conv => whnf) | (refine ⟨_, [], [], [], op_pickT rfl (ev_ok rfl) (ev_ok rfl), nil_fk, nil_new, nil_upd, ?_⟩; conv => whnf) | (refine ⟨_, [], [], [], op_pickF rfl (ev_ok rfl) (ev_ok rfl), nil_fk, nil_new, nil_upd, ?_⟩; conv => whnf) | (rw [beq_self_eq_true]; conv => whnf) | (rw [bne_self_eq_false]; conv => whnf) | (rw [t1]; conv => whnf) | (rw [t2]; conv => whnf) | (rw [e1]; conv => whnf) | (rw [ho]; conv => whnf)))
              rw [e2]
              exact ⟨(wInts a).length + 1 - (i + 1), fun k => k, [4, 8, 9, 10, 52, 53], [4, 1002, 47], by omega, by kernel_rfl, i + 1, _, _, rfl, by omega, hc', by simpa using hlen, hw.set (by omega) (by omega), hrest', hstep, rfl, rfl⟩
          · have hi' : i = (wInts a).length + 1 := by omega
            subst hi'
            have t1 : decide ((((wInts a).length + 1 : Nat) : Int) < (((wInts a).length + 1 : Nat) : Int)) = false := decide_eq_false (by omega)
            rw [wInts_valge a (by omega), wInts_valge b (by omega)] at hval
            have hsum : (valI out ((wInts a).length + 1)).toNat = a + b := by
              have := add_fin hc (valI_nonneg hw _) hval (lt_of_len a) (lt_of_len b) (by omega)
              omega
            have kof := c_of out ((wInts a).length + 1) (by omega) (by omega) hw 47 true
            rw [hsum] at kof
            conv => whnf
            (repeat (first | (refine step_w1 rfl rfl ?_; conv => whnf) | (refine step_w2 rfl rfl ?_; conv => whnf) | (refine step_i (by kernel_rfl) ?_; conv => whnf) | (refine And.intro (by first | decide | omega | (simp only [tiB5, tiB22, tiB3, tiB2, tiB9, tiB55, tiB49, tiB28, tiB4, tiB66, tiB68]; omega)) ?_; conv => whnf) | (refine ⟨[], _, [], [], (by assumption), nil_fk, nil_new, nil_upd, ?_⟩; conv => whnf) | (refine ⟨[], _, [_], [], (by assumption), nil_fk, one_new rfl, nil_upd, ?_⟩; conv => whnf) | (refine ⟨[_], _, [], [], (by assumption), one_fk rfl, nil_new, nil_upd, ?_⟩; conv => whnf) | (refine ⟨[_, _], _, [], [], (by assumption), two_fk rfl rfl, nil_new, nil_upd, ?_⟩; conv => whnf) | (refine ⟨[_], _, [_], [], (by assumption), one_fk rfl, one_new rfl, nil_upd, ?_⟩; conv => whnf) | (refine ⟨[_], _, [], [_], (by assumption), one_fk rfl, nil_new, one_upd (List.mem_cons_self ..) rfl rfl rfl, ?_⟩; conv => whnf) | (refine ⟨[_, _], _, [], [_, _], (by assumption), two_fk rfl rfl, nil_new, two_upd (List.mem_cons_self ..) rfl rfl rfl (List.mem_cons_of_mem _ (List.mem_cons_self ..)) rfl rfl rfl, ?_⟩; conv => whnf) | (refine ⟨[_, _], _, [_, _], [], (by assumption), two_fk rfl rfl, two_new rfl rfl, nil_upd, ?_⟩; conv => whnf) | (refine ⟨_, [], [], [], op_pickT rfl (ev_ok rfl) (ev_ok rfl), nil_fk, nil_new, nil_upd, ?_⟩; conv => whnf) | (refine ⟨_, [], [], [], op_pickF rfl (ev_ok rfl) (ev_ok rfl), nil_fk, nil_new, nil_upd, ?_⟩; conv => whnf) | (rw [beq_self_eq_true]; conv => whnf) | (rw [bne_self_eq_false]; conv => whnf) | (rw [t1]; conv => whnf)))
            exact Recast.refl _
      · rw [big_eq, decide_eq_false h2]
        (repeat (first | (refine step_w1 rfl rfl ?_; conv => whnf) | (refine step_w2 rfl rfl ?_; conv => whnf) | (refine step_i (by kernel_rfl) ?_; conv => whnf) | (refine And.intro (by first | decide | omega | (simp only [tiB5, tiB22, tiB3, tiB2, tiB9, tiB55, tiB49, tiB28, tiB4, tiB66, tiB68]; omega)) ?_; conv => whnf) | (refine ⟨[], _, [], [], (by assumption), nil_fk, nil_new, nil_upd, ?_⟩; conv => whnf) | (refine ⟨[], _, [_], [], (by assumption), nil_fk, one_new rfl, nil_upd, ?_⟩; conv => whnf) | (refine ⟨[_], _, [], [], (by assumption), one_fk rfl, nil_new, nil_upd, ?_⟩; conv => whnf) | (refine ⟨[_, _], _, [], [], (by assumption), two_fk rfl rfl, nil_new, nil_upd, ?_⟩; conv => whnf) | (refine ⟨[_], _, [_], [], (by assumption), one_fk rfl, one_new rfl, nil_upd, ?_⟩; conv => whnf) | (refine ⟨[_], _, [], [_], (by assumption), one_fk rfl, nil_new, one_upd (List.mem_cons_self ..) rfl rfl rfl, ?_⟩; conv => whnf) | (refine ⟨[_, _], _, [], [_, _], (by assumption), two_fk rfl rfl, nil_new, two_upd (List.mem_cons_self ..) rfl rfl rfl (List.mem_cons_of_mem _ (List.mem_cons_self ..)) rfl rfl rfl, ?_⟩; conv => whnf) | (refine ⟨[_, _], _, [_, _], [], (by assumption), two_fk rfl rfl, two_new rfl rfl, nil_upd, ?_⟩; conv => whnf) | (refine ⟨_, [], [], [], op_pickT rfl (ev_ok rfl) (ev_ok rfl), nil_fk, nil_new, nil_upd, ?_⟩; conv => whnf) | (refine ⟨_, [], [], [], op_pickF rfl (ev_ok rfl) (ev_ok rfl), nil_fk, nil_new, nil_upd, ?_⟩; conv => whnf) | (rw [beq_self_eq_true]; conv => whnf) | (rw [bne_self_eq_false]; conv => whnf)))
        by_cases hl : (wInts a).length < (wInts b).length
        · rw [decide_eq_true (show ((wInts a).length : Int) < ((wInts b).length : Int) by omega)]
          have ew : IntKind.i64.wrap (((wInts b).length : Int) + 1) = (((wInts b).length + 1 : Nat) : Int) := by rw [wrap_i64 (by omega) (by omega)]; omega
          (repeat (first | (refine step_w1 rfl rfl ?_; conv => whnf) | (refine step_w2 rfl rfl ?_; conv => whnf) | (refine step_i (by kernel_rfl) ?_; conv => whnf) | (refine And.intro (by first | decide | omega | (simp only [tiB5, tiB22, tiB3, tiB2, tiB9, tiB55, tiB49, tiB28, tiB4, tiB66, tiB68]; omega)) ?_; conv => whnf) | (refine ⟨[], _, [], [], (by assumption), nil_fk, nil_new, nil_upd, ?_⟩; conv => whnf) | (refine ⟨[], _, [_], [], (by assumption), nil_fk, one_new rfl, nil_upd, ?_⟩; conv => whnf) | (refine ⟨[_], _, [], [], (by assumption), one_fk rfl, nil_new, nil_upd, ?_⟩; conv => whnf) | (refine ⟨[_, _], _, [], [], (by assumption), two_fk rfl rfl, nil_new, nil_upd, ?_⟩; conv => whnf) | (refine ⟨[_], _, [_], [], (by assumption), one_fk rfl, one_new rfl, nil_upd, ?_⟩; conv => whnf) | (refine ⟨[_], _, [], [_], (by assumption), one_fk rfl, nil_new, one_upd (List.mem_cons_self ..) rfl rfl rfl, ?_⟩; conv => whnf) | (refine ⟨[_, _], _, [], [_, _], (by assumption), two_fk rfl rfl, nil_new, two_upd (List.mem_cons_self ..) rfl rfl rfl (List.mem_cons_of_mem _ (List.mem_cons_self ..)) rfl rfl rfl, ?_⟩; conv => whnf) | (refine ⟨[_, _], _, [_, _], [], (by assumption), two_fk rfl rfl, two_new rfl rfl, nil_upd, ?_⟩; conv => whnf) | (refine ⟨_, [], [], [], op_pickT rfl (ev_ok rfl) (ev_ok rfl), nil_fk, nil_new, nil_upd, ?_⟩; conv => whnf) | (refine ⟨_, [], [], [], op_pickF rfl (ev_ok rfl) (ev_ok rfl), nil_fk, nil_new, nil_upd, ?_⟩; conv => whnf) | (rw [beq_self_eq_true]; conv => whnf) | (rw [bne_self_eq_false]; conv => whnf) | (rw [ew]; conv => whnf)))
          refine ⟨_, [(47, ⟨22, true, .ints .u32 (List.replicate ((wInts b).length + 1) 0)⟩), (1002, ⟨22, true, .ints .u32 (wArr b)⟩)], [], [(47, ⟨22, true, .ints .u32 (wInts b ++ [0])⟩)], op_copy (c := (wInts b).length) (n := (wInts b).length + 1) rfl rfl rfl (ev_ok rfl) (ev_ok rfl) (tabOK.get (t := 39) rfl) rfl (tabOK.get (t := 22) rfl) (List.mem_cons_self ..) (List.mem_cons_of_mem _ (List.mem_cons_self ..)) rfl rfl rfl rfl (by simp [dlen]) (by show 0 + _ ≤ (wArr b).length; have := wArr_len b; omega) (Nat.min_eq_left (Nat.le_succ _)).symm (dcopy_words b), two_fk rfl rfl, nil_new, one_upd (List.mem_cons_self ..) rfl rfl rfl, ?_⟩
          conv => whnf
          (repeat (first | (refine step_w1 rfl rfl ?_; conv => whnf) | (refine step_w2 rfl rfl ?_; conv => whnf) | (refine step_i (by kernel_rfl) ?_; conv => whnf) | (refine And.intro (by first | decide | omega | (simp only [tiB5, tiB22, tiB3, tiB2, tiB9, tiB55, tiB49, tiB28, tiB4, tiB66, tiB68]; omega)) ?_; conv => whnf) | (refine ⟨[], _, [], [], (by assumption), nil_fk, nil_new, nil_upd, ?_⟩; conv => whnf) | (refine ⟨[], _, [_], [], (by assumption), nil_fk, one_new rfl, nil_upd, ?_⟩; conv => whnf) | (refine ⟨[_], _, [], [], (by assumption), one_fk rfl, nil_new, nil_upd, ?_⟩; conv => whnf) | (refine ⟨[_, _], _, [], [], (by assumption), two_fk rfl rfl, nil_new, nil_upd, ?_⟩; conv => whnf) | (refine ⟨[_], _, [_], [], (by assumption), one_fk rfl, one_new rfl, nil_upd, ?_⟩; conv => whnf) | (refine ⟨[_], _, [], [_], (by assumption), one_fk rfl, nil_new, one_upd (List.mem_cons_self ..) rfl rfl rfl, ?_⟩; conv => whnf) | (refine ⟨[_, _], _, [], [_, _], (by assumption), two_fk rfl rfl, nil_new, two_upd (List.mem_cons_self ..) rfl rfl rfl (List.mem_cons_of_mem _ (List.mem_cons_self ..)) rfl rfl rfl, ?_⟩; conv => whnf) | (refine ⟨[_, _], _, [_, _], [], (by assumption), two_fk rfl rfl, two_new rfl rfl, nil_upd, ?_⟩; conv => whnf) | (refine ⟨_, [], [], [], op_pickT rfl (ev_ok rfl) (ev_ok rfl), nil_fk, nil_new, nil_upd, ?_⟩; conv => whnf) | (refine ⟨_, [], [], [], op_pickF rfl (ev_ok rfl) (ev_ok rfl), nil_fk, nil_new, nil_upd, ?_⟩; conv => whnf) | (rw [beq_self_eq_true]; conv => whnf) | (rw [bne_self_eq_false]; conv => whnf)))
          refine SW_loopN hE (fun k => k) [4, 8, 9, 10, 52, 53] [4, 1001, 47] (fun m fr hp => ∃ (i : Nat) (out : List Int) (c : Nat), m = (wInts b).length + 1 - i ∧ i ≤ (wInts b).length + 1 ∧ c ≤ 1 ∧ out.length = (wInts b).length + 1 ∧ W32 out ∧ (∀ j, i ≤ j → out.getD j 0 = (wInts b).getD j 0) ∧ valI out i + c * 4294967296 ^ i = valI (wInts b) i + valI (wInts a) i ∧
            fr = [(4, .ptr 4 0 0 0), (8, .slc 1001 1 0 (wInts a).length), (9, .slc 47 1 0 ((wInts b).length + 1)), (10, .val (.int .u32 c)), (52, .val (.int .i64 (((wInts b).length + 1 : Nat)))), (53, .val (.int .i64 i))] ∧ hp = [(4, ⟨45, true, .one [.nat 0]⟩), (1001, ⟨22, true, .ints .u32 (wArr a)⟩), (47, ⟨22, true, .ints .u32 out⟩)]) ((wInts b).length + 1) ?_ ?_ ?_
          · kernel_rfl
          · exact ⟨0, wInts b ++ [0], 0, by omega, by omega, by omega, by simp, w32_snoc (wInts_w32 b), (fun j _ => getD_snoc _ j), by simp [valI], rfl, rfl⟩
          rintro m _ _ ⟨i, out, c, rfl, hi, hc, hlen, hw, hrest, hval, rfl, rfl⟩
          by_cases hlt : i < (wInts b).length + 1
          · have t1 : decide ((i : Int) < (((wInts b).length + 1 : Nat) : Int)) = true := decide_eq_true (by omega)
            have e1 : 0 + (i : Int).toNat = i := by omega
            have e2 : IntKind.i64.wrap ((i : Int) + 1) = ((i + 1 : Nat) : Int) := by rw [wrap_i64 (by omega) (by omega)]; omega
            obtain ⟨o, ho⟩ := Int.eq_ofNat_of_zero_le (hw i).1
            obtain ⟨w, hww⟩ := Int.eq_ofNat_of_zero_le (wInts_w32 a i).1
            have ho2 := (hw i).2
            have hw2 := (wInts_w32 a i).2
            have k32 := c_Add32 o w c (by omega) (by omega) hc
            have hX : (wInts b).getD i 0 = o := by rw [← hrest i (Nat.le_refl _)]; exact ho
            have hstep := add_step (by omega) ho hX hww hval
            have hc' : (o + w + c) / 4294967296 ≤ 1 := by omega
            have hrest' : ∀ j, i + 1 ≤ j → (out.set i (((o + w + c) % 4294967296 : Nat) : Int)).getD j 0 = (wInts b).getD j 0 := fun j hj => by
              rw [getD_set, if_neg (by omega)]; exact hrest j (by omega)
            by_cases hy : i < (wInts a).length
            · have t2 : decide ((i : Int) < ((wInts a).length : Int)) = true := decide_eq_true (by omega)
              have hyl := wArr_len a
              have e3 : (wArr a).getD i 0 = (w : Int) := by rw [wArr_get hy]; exact hww
              conv => whnf
              (repeat (first | (refine step_w1 rfl rfl ?_; conv => whnf) | (refine step_w2 rfl rfl ?_; conv => whnf) | (refine step_i (by kernel_rfl) ?_; conv => whnf) | (refine And.intro (by first | decide | omega | (simp only [tiB5, tiB22, tiB3, tiB2, tiB9, tiB55, tiB49, tiB28, tiB4, tiB66, tiB68]; omega)) ?_; conv => whnf) | (refine ⟨[], _, [], [], (by assumption), nil_fk, nil_new, nil_upd, ?_⟩; conv => whnf) | (refine ⟨[], _, [_], [], (by assumption), nil_fk, one_new rfl, nil_upd, ?_⟩; conv => whnf) | (refine ⟨[_], _, [], [], (by assumption), one_fk rfl, nil_new, nil_upd, ?_⟩; conv => whnf) | (refine ⟨[_, _], _, [], [], (by assumption), two_fk rfl rfl, nil_new, nil_upd, ?_⟩; conv => whnf) | (refine ⟨[_], _, [_], [], (by assumption), one_fk rfl, one_new rfl, nil_upd, ?_⟩; conv => whnf) | (refine ⟨[_], _, [], [_], (by assumption), one_fk rfl, nil_new, one_upd (List.mem_cons_self ..) rfl rfl rfl, ?_⟩; conv => whnf) | (refine ⟨[_, _], _, [], [_, _], (by assumption), two_fk rfl rfl, nil_new, two_upd (List.mem_cons_self ..) rfl rfl rfl (List.mem_cons_of_mem _ (List.mem_cons_self ..)) rfl rfl rfl, ?_⟩; conv => whnf) | (refine ⟨[_, _], _, [_, _], [], (by assumption), two_fk rfl rfl, two_new rfl rfl, nil_upd, ?_⟩; conv => whnf) | (refine ⟨_, [], [], [], op_pickT rfl (ev_ok rfl) (ev_ok rfl), nil_fk, nil_new, nil_upd, ?_⟩; conv => whnf) | (refine ⟨_, [], [], [], op_pickF rfl (ev_ok rfl) (ev_ok rfl), nil_fk, nil_new, nil_upd, ?_⟩; conv => whnf) | (rw [beq_self_eq_true]; conv => whnf) | (rw [bne_self_eq_false]; conv => whnf) | (rw [t1]; conv => whnf) | (rw [t2]; conv => whnf) | (rw [e1]; conv => whnf) | (rw [e3]; conv => whnf) | (rw [ho]; conv => whnf)))
              rw [e2]
              exact ⟨(wInts b).length + 1 - (i + 1), fun k => k, [4, 8, 9, 10, 52, 53], [4, 1001, 47], by omega, by kernel_rfl, i + 1, _, _, rfl, by omega, hc', by simpa using hlen, hw.set (by omega) (by omega), hrest', hstep, rfl, rfl⟩
            · have t2 : decide ((i : Int) < ((wInts a).length : Int)) = false := decide_eq_false (by omega)
              have hw0 : w = 0 := by have := getD_ge (xs := wInts a) (i := i) (by omega); omega
              subst hw0
              conv => whnf
              (repeat (first | (refine step_w1 rfl rfl ?_; conv => whnf) | (refine step_w2 rfl rfl ?_; conv => whnf) | (refine step_i (by kernel_rfl) ?_; conv => whnf) | (refine And.intro (by first | decide | omega | (simp only [tiB5, tiB22, tiB3, tiB2, tiB9, tiB55, tiB49, tiB28, tiB4, tiB66, tiB68]; omega)) ?_; conv => whnf) | (refine ⟨[], _, [], [], (by assumption), nil_fk, nil_new, nil_upd, ?_⟩; conv => whnf) | (refine ⟨[], _, [_], [], (by assumption), nil_fk, one_new rfl, nil_upd, ?_⟩; conv => whnf) | (refine ⟨[_], _, [], [], (by assumption), one_fk rfl, nil_new, nil_upd, ?_⟩; conv => whnf) | (refine ⟨[_, _], _, [], [], (by assumption), two_fk rfl rfl, nil_new, nil_upd, ?_⟩; conv => whnf) | (refine ⟨[_], _, [_], [], (by assumption), one_fk rfl, one_new rfl, nil_upd, ?_⟩; conv => whnf) | (refine ⟨[_], _, [], [_], (by assumption), one_fk rfl, nil_new, one_upd (List.mem_cons_self ..) rfl rfl rfl, ?_⟩; conv => whnf) | (refine ⟨[_, _], _, [], [_, _], (by assumption), two_fk rfl rfl, nil_new, two_upd (List.mem_cons_self ..) rfl rfl rfl (List.mem_cons_of_mem _ (List.mem_cons_self ..)) rfl rfl rfl, ?_⟩; conv => whnf) | (refine ⟨[_, _], _, [_, _], [], (by assumption), two_fk rfl rfl, two_new rfl rfl, nil_upd, ?_⟩; conv => whnf) | (refine ⟨_, [], [], [], op_pickT rfl (ev_ok rfl) (ev_ok rfl), nil_fk, nil_new, nil_upd, ?_⟩; conv => whnf) | (refine ⟨_, [], [], [], op_pickF rfl (ev_ok rfl) (ev_ok rfl), nil_fk, nil_new, nil_upd, ?_⟩; conv => whnf) | (rw [beq_self_eq_true]; conv => whnf) | (rw [bne_self_eq_false]; conv => whnf) | (rw [t1]; conv => whnf) | (rw [t2]; conv => whnf) | (rw [e1]; conv => whnf) | (rw [ho]; conv => whnf)))
              rw [e2]
              exact ⟨(wInts b).length + 1 - (i + 1), fun k => k, [4, 8, 9, 10, 52, 53], [4, 1001, 47], by omega, by kernel_rfl, i + 1, _, _, rfl, by omega, hc', by simpa using hlen, hw.set (by omega) (by omega), hrest', hstep, rfl, rfl⟩
          · have hi' : i = (wInts b).length + 1 := by omega
            subst hi'
            have t1 : decide ((((wInts b).length + 1 : Nat) : Int) < (((wInts b).length + 1 : Nat) : Int)) = false := decide_eq_false (by omega)
            rw [wInts_valge b (by omega), wInts_valge a (by omega)] at hval
            have hsum : (valI out ((wInts b).length + 1)).toNat = a + b := by
              have := add_fin hc (valI_nonneg hw _) hval (lt_of_len b) (lt_of_len a) (by omega)
              omega
            have kof := c_of out ((wInts b).length + 1) (by omega) (by omega) hw 47 true
            rw [hsum] at kof
            conv => whnf
            (repeat (first | (refine step_w1 rfl rfl ?_; conv => whnf) | (refine step_w2 rfl rfl ?_; conv => whnf) | (refine step_i (by kernel_rfl) ?_; conv => whnf) | (refine And.intro (by first | decide | omega | (simp only [tiB5, tiB22, tiB3, tiB2, tiB9, tiB55, tiB49, tiB28, tiB4, tiB66, tiB68]; omega)) ?_; conv => whnf) | (refine ⟨[], _, [], [], (by assumption), nil_fk, nil_new, nil_upd, ?_⟩; conv => whnf) | (refine ⟨[], _, [_], [], (by assumption), nil_fk, one_new rfl, nil_upd, ?_⟩; conv => whnf) | (refine ⟨[_], _, [], [], (by assumption), one_fk rfl, nil_new, nil_upd, ?_⟩; conv => whnf) | (refine ⟨[_, _], _, [], [], (by assumption), two_fk rfl rfl, nil_new, nil_upd, ?_⟩; conv => whnf) | (refine ⟨[_], _, [_], [], (by assumption), one_fk rfl, one_new rfl, nil_upd, ?_⟩; conv => whnf) | (refine ⟨[_], _, [], [_], (by assumption), one_fk rfl, nil_new, one_upd (List.mem_cons_self ..) rfl rfl rfl, ?_⟩; conv => whnf) | (refine ⟨[_, _], _, [], [_, _], (by assumption), two_fk rfl rfl, nil_new, two_upd (List.mem_cons_self ..) rfl rfl rfl (List.mem_cons_of_mem _ (List.mem_cons_self ..)) rfl rfl rfl, ?_⟩; conv => whnf) | (refine ⟨[_, _], _, [_, _], [], (by assumption), two_fk rfl rfl, two_new rfl rfl, nil_upd, ?_⟩; conv => whnf) | (refine ⟨_, [], [], [], op_pickT rfl (ev_ok rfl) (ev_ok rfl), nil_fk, nil_new, nil_upd, ?_⟩; conv => whnf) | (refine ⟨_, [], [], [], op_pickF rfl (ev_ok rfl) (ev_ok rfl), nil_fk, nil_new, nil_upd, ?_⟩; conv => whnf) | (rw [beq_self_eq_true]; conv => whnf) | (rw [bne_self_eq_false]; conv => whnf) | (rw [t1]; conv => whnf)))
            exact Recast.refl _
        · rw [decide_eq_false (show ¬ ((wInts a).length : Int) < ((wInts b).length : Int) by omega)]
          have ew : IntKind.i64.wrap (((wInts a).length : Int) + 1) = (((wInts a).length + 1 : Nat) : Int) := by rw [wrap_i64 (by omega) (by omega)]; omega
          (repeat (first | (refine step_w1 rfl rfl ?_; conv => whnf) | (refine step_w2 rfl rfl ?_; conv => whnf) | (refine step_i (by kernel_rfl) ?_; conv => whnf) | (refine And.intro (by first | decide | omega | (simp only [tiB5, tiB22, tiB3, tiB2, tiB9, tiB55, tiB49, tiB28, tiB4, tiB66, tiB68]; omega)) ?_; conv => whnf) | (refine ⟨[], _, [], [], (by assumption), nil_fk, nil_new, nil_upd, ?_⟩; conv => whnf) | (refine ⟨[], _, [_], [], (by assumption), nil_fk, one_new rfl, nil_upd, ?_⟩; conv => whnf) | (refine ⟨[_], _, [], [], (by assumption), one_fk rfl, nil_new, nil_upd, ?_⟩; conv => whnf) | (refine ⟨[_, _], _, [], [], (by assumption), two_fk rfl rfl, nil_new, nil_upd, ?_⟩; conv => whnf) | (refine ⟨[_], _, [_], [], (by assumption), one_fk rfl, one_new rfl, nil_upd, ?_⟩; conv => whnf) | (refine ⟨[_], _, [], [_], (by assumption), one_fk rfl, nil_new, one_upd (List.mem_cons_self ..) rfl rfl rfl, ?_⟩; conv => whnf) | (refine ⟨[_, _], _, [], [_, _], (by assumption), two_fk rfl rfl, nil_new, two_upd (List.mem_cons_self ..) rfl rfl rfl (List.mem_cons_of_mem _ (List.mem_cons_self ..)) rfl rfl rfl, ?_⟩; conv => whnf) | (refine ⟨[_, _], _, [_, _], [], (by assumption), two_fk rfl rfl, two_new rfl rfl, nil_upd, ?_⟩; conv => whnf) | (refine ⟨_, [], [], [], op_pickT rfl (ev_ok rfl) (ev_ok rfl), nil_fk, nil_new, nil_upd, ?_⟩; conv => whnf) | (refine ⟨_, [], [], [], op_pickF rfl (ev_ok rfl) (ev_ok rfl), nil_fk, nil_new, nil_upd, ?_⟩; conv => whnf) | (rw [beq_self_eq_true]; conv => whnf) | (rw [bne_self_eq_false]; conv => whnf) | (rw [ew]; conv => whnf)))
          refine ⟨_, [(47, ⟨22, true, .ints .u32 (List.replicate ((wInts a).length + 1) 0)⟩), (1001, ⟨22, true, .ints .u32 (wArr a)⟩)], [], [(47, ⟨22, true, .ints .u32 (wInts a ++ [0])⟩)], op_copy (c := (wInts a).length) (n := (wInts a).length + 1) rfl rfl rfl (ev_ok rfl) (ev_ok rfl) (tabOK.get (t := 39) rfl) rfl (tabOK.get (t := 22) rfl) (List.mem_cons_self ..) (List.mem_cons_of_mem _ (List.mem_cons_self ..)) rfl rfl rfl rfl (by simp [dlen]) (by show 0 + _ ≤ (wArr a).length; have := wArr_len a; omega) (Nat.min_eq_left (Nat.le_succ _)).symm (dcopy_words a), two_fk rfl rfl, nil_new, one_upd (List.mem_cons_self ..) rfl rfl rfl, ?_⟩
          conv => whnf
          (repeat (first | (refine step_w1 rfl rfl ?_; conv => whnf) | (refine step_w2 rfl rfl ?_; conv => whnf) | (refine step_i (by kernel_rfl) ?_; conv => whnf) | (refine And.intro (by first | decide | omega | (simp only [tiB5, tiB22, tiB3, tiB2, tiB9, tiB55, tiB49, tiB28, tiB4, tiB66, tiB68]; omega)) ?_; conv => whnf) | (refine ⟨[], _, [], [], (by assumption), nil_fk, nil_new, nil_upd, ?_⟩; conv => whnf) | (refine ⟨[], _, [_], [], (by assumption), nil_fk, one_new rfl, nil_upd, ?_⟩; conv => whnf) | (refine ⟨[_], _, [], [], (by assumption), one_fk rfl, nil_new, nil_upd, ?_⟩; conv => whnf) | (refine ⟨[_, _], _, [], [], (by assumption), two_fk rfl rfl, nil_new, nil_upd, ?_⟩; conv => whnf) | (refine ⟨[_], _, [_], [], (by assumption), one_fk rfl, one_new rfl, nil_upd, ?_⟩; conv => whnf) | (refine ⟨[_], _, [], [_], (by assumption), one_fk rfl, nil_new, one_upd (List.mem_cons_self ..) rfl rfl rfl, ?_⟩; conv => whnf) | (refine ⟨[_, _], _, [], [_, _], (by assumption), two_fk rfl rfl, nil_new, two_upd (List.mem_cons_self ..) rfl rfl rfl (List.mem_cons_of_mem _ (List.mem_cons_self ..)) rfl rfl rfl, ?_⟩; conv => whnf) | (refine ⟨[_, _], _, [_, _], [], (by assumption), two_fk rfl rfl, two_new rfl rfl, nil_upd, ?_⟩; conv => whnf) | (refine ⟨_, [], [], [], op_pickT rfl (ev_ok rfl) (ev_ok rfl), nil_fk, nil_new, nil_upd, ?_⟩; conv => whnf) | (refine ⟨_, [], [], [], op_pickF rfl (ev_ok rfl) (ev_ok rfl), nil_fk, nil_new, nil_upd, ?_⟩; conv => whnf) | (rw [beq_self_eq_true]; conv => whnf) | (rw [bne_self_eq_false]; conv => whnf)))
          refine SW_loopN hE (fun k => k) [4, 8, 9, 10, 52, 53] [4, 1002, 47] (fun m fr hp => ∃ (i : Nat) (out : List Int) (c : Nat), m = (wInts a).length + 1 - i ∧ i ≤ (wInts a).length + 1 ∧ c ≤ 1 ∧ out.length = (wInts a).length + 1 ∧ W32 out ∧ (∀ j, i ≤ j → out.getD j 0 = (wInts a).getD j 0) ∧ valI out i + c * 4294967296 ^ i = valI (wInts a) i + valI (wInts b) i ∧
            fr = [(4, .ptr 4 0 0 0), (8, .slc 1002 1 0 (wInts b).length), (9, .slc 47 1 0 ((wInts a).length + 1)), (10, .val (.int .u32 c)), (52, .val (.int .i64 (((wInts a).length + 1 : Nat)))), (53, .val (.int .i64 i))] ∧ hp = [(4, ⟨45, true, .one [.nat 0]⟩), (1002, ⟨22, true, .ints .u32 (wArr b)⟩), (47, ⟨22, true, .ints .u32 out⟩)]) ((wInts a).length + 1) ?_ ?_ ?_
          · kernel_rfl
          · exact ⟨0, wInts a ++ [0], 0, by omega, by omega, by omega, by simp, w32_snoc (wInts_w32 a), (fun j _ => getD_snoc _ j), by simp [valI], rfl, rfl⟩
          rintro m _ _ ⟨i, out, c, rfl, hi, hc, hlen, hw, hrest, hval, rfl, rfl⟩
          by_cases hlt : i < (wInts a).length + 1
          · have t1 : decide ((i : Int) < (((wInts a).length + 1 : Nat) : Int)) = true := decide_eq_true (by omega)
            have e1 : 0 + (i : Int).toNat = i := by omega
            have e2 : IntKind.i64.wrap ((i : Int) + 1) = ((i + 1 : Nat) : Int) := by rw [wrap_i64 (by omega) (by omega)]; omega
            obtain ⟨o, ho⟩ := Int.eq_ofNat_of_zero_le (hw i).1
            obtain ⟨w, hww⟩ := Int.eq_ofNat_of_zero_le (wInts_w32 b i).1
            have ho2 := (hw i).2
            have hw2 := (wInts_w32 b i).2
            have k32 := c_Add32 o w c (by omega) (by omega) hc
            have hX : (wInts a).getD i 0 = o := by rw [← hrest i (Nat.le_refl _)]; exact ho
            have hstep := add_step (by omega) ho hX hww hval
            have hc' : (o + w + c) / 4294967296 ≤ 1 := by omega
            have hrest' : ∀ j, i + 1 ≤ j → (out.set i (((o + w + c) % 4294967296 : Nat) : Int)).getD j 0 = (wInts a).getD j 0 := fun j hj => by
              rw [getD_set, if_neg (by omega)]; exact hrest j (by omega)
            by_cases hy : i < (wInts b).length
            · have t2 : decide ((i : Int) < ((wInts b).length : Int)) = true := decide_eq_true (by omega)
              have hyl := wArr_len b
              have e3 : (wArr b).getD i 0 = (w : Int) := by rw [wArr_get hy]; exact hww
              conv => whnf
              (repeat (first | (refine step_w1 rfl rfl ?_; conv => whnf) | (refine step_w2 rfl rfl ?_; conv => whnf) | (refine step_i (by kernel_rfl) ?_; conv => whnf) | (refine And.intro (by first | decide | omega | (simp only [tiB5, tiB22, tiB3, tiB2, tiB9, tiB55, tiB49, tiB28, tiB4, tiB66, tiB68]; omega)) ?_; conv => whnf) | (refine ⟨[], _, [], [], (by assumption), nil_fk, nil_new, nil_upd, ?_⟩; conv => whnf) | (refine ⟨[], _, [_], [], (by assumption), nil_fk, one_new rfl, nil_upd, ?_⟩; conv => whnf) | (refine ⟨[_], _, [], [], (by assumption), one_fk rfl, nil_new, nil_upd, ?_⟩; conv => whnf) | (refine ⟨[_, _], _, [], [], (by assumption), two_fk rfl rfl, nil_new, nil_upd, ?_⟩; conv => whnf) | (refine ⟨[_], _, [_], [], (by assumption), one_fk rfl, one_new rfl, nil_upd, ?_⟩; conv => whnf) | (refine ⟨[_], _, [], [_], (by assumption), one_fk rfl, nil_new, one_upd (List.mem_cons_self ..) rfl rfl rfl, ?_⟩; conv => whnf) | (refine ⟨[_, _], _, [], [_, _], (by assumption), two_fk rfl rfl, nil_new, two_upd (List.mem_cons_self ..) rfl rfl rfl (List.mem_cons_of_mem _ (List.mem_cons_self ..)) rfl rfl rfl, ?_⟩; conv => whnf) | (refine ⟨[_, _], _, [_, _], [], (by assumption), two_fk rfl rfl, two_new rfl rfl, nil_upd, ?_⟩; conv => whnf) | (refine ⟨_, [], [], [], op_pickT rfl (ev_ok rfl) (ev_ok rfl), nil_fk, nil_new, nil_upd, ?_⟩; conv => whnf) | (refine ⟨_, [], [], [], op_pickF rfl (ev_ok rfl) (ev_ok rfl), nil_fk, nil_new, nil_upd, ?_⟩; conv => whnf) | (rw [beq_self_eq_true]; conv => whnf) | (rw [bne_self_eq_false]; conv => whnf) | (rw [t1]; conv => whnf) | (rw [t2]; conv => whnf) | (rw [e1]; conv => whnf) | (rw [e3]; conv => whnf) | (rw [ho]; conv => whnf)))
              rw [e2]
              exact ⟨(wInts a).length + 1 - (i + 1), fun k => k, [4, 8, 9, 10, 52, 53], [4, 1002, 47], by omega, by kernel_rfl, i + 1, _, _, rfl, by omega, hc', by simpa using hlen, hw.set (by omega) (by omega), hrest', hstep, rfl, rfl⟩
            · have t2 : decide ((i : Int) < ((wInts b).length : Int)) = false := decide_eq_false (by omega)
              have hw0 : w = 0 := by have := getD_ge (xs := wInts b) (i := i) (by omega); omega
              subst hw0
              conv => whnf
              (repeat (first | (refine step_w1 rfl rfl ?_; conv => whnf) | (refine step_w2 rfl rfl ?_; conv => whnf) | (refine step_i (by kernel_rfl) ?_; conv => whnf) | (refine And.intro (by first | decide | omega | (simp only [tiB5, tiB22, tiB3, tiB2, tiB9, tiB55, tiB49, tiB28, tiB4, tiB66, tiB68]; omega)) ?_; conv => whnf) | (refine ⟨[], _, [], [], (by assumption), nil_fk, nil_new, nil_upd, ?_⟩; conv => whnf) | (refine ⟨[], _, [_], [], (by assumption), nil_fk, one_new rfl, nil_upd, ?_⟩; conv => whnf) | (refine ⟨[_], _, [], [], (by assumption), one_fk rfl, nil_new, nil_upd, ?_⟩; conv => whnf) | (refine ⟨[_, _], _, [], [], (by assumption), two_fk rfl rfl, nil_new, nil_upd, ?_⟩; conv => whnf) | (refine ⟨[_], _, [_], [], (by assumption), one_fk rfl, one_new rfl, nil_upd, ?_⟩; conv => whnf) | (refine ⟨[_], _, [], [_], (by assumption), one_fk rfl, nil_new, one_upd (List.mem_cons_self ..) rfl rfl rfl, ?_⟩; conv => whnf) | (refine ⟨[_, _], _, [], [_, _], (by assumption), two_fk rfl rfl, nil_new, two_upd (List.mem_cons_self ..) rfl rfl rfl (List.mem_cons_of_mem _ (List.mem_cons_self ..)) rfl rfl rfl, ?_⟩; conv => whnf) | (refine ⟨[_, _], _, [_, _], [], (by assumption), two_fk rfl rfl, two_new rfl rfl, nil_upd, ?_⟩; conv => whnf) | (refine ⟨_, [], [], [], op_pickT rfl (ev_ok rfl) (ev_ok rfl), nil_fk, nil_new, nil_upd, ?_⟩; conv => whnf) | (refine ⟨_, [], [], [], op_pickF rfl (ev_ok rfl) (ev_ok rfl), nil_fk, nil_new, nil_upd, ?_⟩; conv => whnf) | (rw [beq_self_eq_true]; conv => whnf) | (rw [bne_self_eq_false]; conv => whnf) | (rw [t1]; conv => whnf) | (rw [t2]; conv => whnf) | (rw [e1]; conv => whnf) | (rw [ho]; conv => whnf)))
              rw [e2]
              exact ⟨(wInts a).length + 1 - (i + 1), fun k => k, [4, 8, 9, 10, 52, 53], [4, 1002, 47], by omega, by kernel_rfl, i + 1, _, _, rfl, by omega, hc', by simpa using hlen, hw.set (by omega) (by omega), hrest', hstep, rfl, rfl⟩
          · have hi' : i = (wInts a).length + 1 := by omega
            subst hi'
            have t1 : decide ((((wInts a).length + 1 : Nat) : Int) < (((wInts a).length + 1 : Nat) : Int)) = false := decide_eq_false (by omega)
            rw [wInts_valge a (by omega), wInts_valge b (by omega)] at hval
            have hsum : (valI out ((wInts a).length + 1)).toNat = a + b := by
              have := add_fin hc (valI_nonneg hw _) hval (lt_of_len a) (lt_of_len b) (by omega)
              omega
            have kof := c_of out ((wInts a).length + 1) (by omega) (by omega) hw 47 true
            rw [hsum] at kof
            conv => whnf
            (repeat (first | (refine step_w1 rfl rfl ?_; conv => whnf) | (refine step_w2 rfl rfl ?_; conv => whnf) | (refine step_i (by kernel_rfl) ?_; conv => whnf) | (refine And.intro (by first | decide | omega | (simp only [tiB5, tiB22, tiB3, tiB2, tiB9, tiB55, tiB49, tiB28, tiB4, tiB66, tiB68]; omega)) ?_; conv => whnf) | (refine ⟨[], _, [], [], (by assumption), nil_fk, nil_new, nil_upd, ?_⟩; conv => whnf) | (refine ⟨[], _, [_], [], (by assumption), nil_fk, one_new rfl, nil_upd, ?_⟩; conv => whnf) | (refine ⟨[_], _, [], [], (by assumption), one_fk rfl, nil_new, nil_upd, ?_⟩; conv => whnf) | (refine ⟨[_, _], _, [], [], (by assumption), two_fk rfl rfl, nil_new, nil_upd, ?_⟩; conv => whnf) | (refine ⟨[_], _, [_], [], (by assumption), one_fk rfl, one_new rfl, nil_upd, ?_⟩; conv => whnf) | (refine ⟨[_], _, [], [_], (by assumption), one_fk rfl, nil_new, one_upd (List.mem_cons_self ..) rfl rfl rfl, ?_⟩; conv => whnf) | (refine ⟨[_, _], _, [], [_, _], (by assumption), two_fk rfl rfl, nil_new, two_upd (List.mem_cons_self ..) rfl rfl rfl (List.mem_cons_of_mem _ (List.mem_cons_self ..)) rfl rfl rfl, ?_⟩; conv => whnf) | (refine ⟨[_, _], _, [_, _], [], (by assumption), two_fk rfl rfl, two_new rfl rfl, nil_upd, ?_⟩; conv => whnf) | (refine ⟨_, [], [], [], op_pickT rfl (ev_ok rfl) (ev_ok rfl), nil_fk, nil_new, nil_upd, ?_⟩; conv => whnf) | (refine ⟨_, [], [], [], op_pickF rfl (ev_ok rfl) (ev_ok rfl), nil_fk, nil_new, nil_upd, ?_⟩; conv => whnf) | (rw [beq_self_eq_true]; conv => whnf) | (rw [bne_self_eq_false]; conv => whnf) | (rw [t1]; conv => whnf)))
            exact Recast.refl _
    · rw [big_eq, decide_eq_false h1]
      (repeat (first | (refine step_w1 rfl rfl ?_; conv => whnf) | (refine step_w2 rfl rfl ?_; conv => whnf) | (refine step_i (by kernel_rfl) ?_; conv => whnf) | (refine And.intro (by first | decide | omega | (simp only [tiB5, tiB22, tiB3, tiB2, tiB9, tiB55, tiB49, tiB28, tiB4, tiB66, tiB68]; omega)) ?_; conv => whnf) | (refine ⟨[], _, [], [], (by assumption), nil_fk, nil_new, nil_upd, ?_⟩; conv => whnf) | (refine ⟨[], _, [_], [], (by assumption), nil_fk, one_new rfl, nil_upd, ?_⟩; conv => whnf) | (refine ⟨[_], _, [], [], (by assumption), one_fk rfl, nil_new, nil_upd, ?_⟩; conv => whnf) | (refine ⟨[_, _], _, [], [], (by assumption), two_fk rfl rfl, nil_new, nil_upd, ?_⟩; conv => whnf) | (refine ⟨[_], _, [_], [], (by assumption), one_fk rfl, one_new rfl, nil_upd, ?_⟩; conv => whnf) | (refine ⟨[_], _, [], [_], (by assumption), one_fk rfl, nil_new, one_upd (List.mem_cons_self ..) rfl rfl rfl, ?_⟩; conv => whnf) | (refine ⟨[_, _], _, [], [_, _], (by assumption), two_fk rfl rfl, nil_new, two_upd (List.mem_cons_self ..) rfl rfl rfl (List.mem_cons_of_mem _ (List.mem_cons_self ..)) rfl rfl rfl, ?_⟩; conv => whnf) | (refine ⟨[_, _], _, [_, _], [], (by assumption), two_fk rfl rfl, two_new rfl rfl, nil_upd, ?_⟩; conv => whnf) | (refine ⟨_, [], [], [], op_pickT rfl (ev_ok rfl) (ev_ok rfl), nil_fk, nil_new, nil_upd, ?_⟩; conv => whnf) | (refine ⟨_, [], [], [], op_pickF rfl (ev_ok rfl) (ev_ok rfl), nil_fk, nil_new, nil_upd, ?_⟩; conv => whnf) | (rw [beq_self_eq_true]; conv => whnf) | (rw [bne_self_eq_false]; conv => whnf)))
      by_cases hl : (wInts a).length < (wInts b).length
      · rw [decide_eq_true (show ((wInts a).length : Int) < ((wInts b).length : Int) by omega)]
        have ew : IntKind.i64.wrap (((wInts b).length : Int) + 1) = (((wInts b).length + 1 : Nat) : Int) := by rw [wrap_i64 (by omega) (by omega)]; omega
        (repeat (first | (refine step_w1 rfl rfl ?_; conv => whnf) | (refine step_w2 rfl rfl ?_; conv => whnf) | (refine step_i (by kernel_rfl) ?_; conv => whnf) | (refine And.intro (by first | decide | omega | (simp only [tiB5, tiB22, tiB3, tiB2, tiB9, tiB55, tiB49, tiB28, tiB4, tiB66, tiB68]; omega)) ?_; conv => whnf) | (refine ⟨[], _, [], [], (by assumption), nil_fk, nil_new, nil_upd, ?_⟩; conv => whnf) | (refine ⟨[], _, [_], [], (by assumption), nil_fk, one_new rfl, nil_upd, ?_⟩; conv => whnf) | (refine ⟨[_], _, [], [], (by assumption), one_fk rfl, nil_new, nil_upd, ?_⟩; conv => whnf) | (refine ⟨[_, _], _, [], [], (by assumption), two_fk rfl rfl, nil_new, nil_upd, ?_⟩; conv => whnf) | (refine ⟨[_], _, [_], [], (by assumption), one_fk rfl, one_new rfl, nil_upd, ?_⟩; conv => whnf) | (refine ⟨[_], _, [], [_], (by assumption), one_fk rfl, nil_new, one_upd (List.mem_cons_self ..) rfl rfl rfl, ?_⟩; conv => whnf) | (refine ⟨[_, _], _, [], [_, _], (by assumption), two_fk rfl rfl, nil_new, two_upd (List.mem_cons_self ..) rfl rfl rfl (List.mem_cons_of_mem _ (List.mem_cons_self ..)) rfl rfl rfl, ?_⟩; conv => whnf) | (refine ⟨[_, _], _, [_, _], [], (by assumption), two_fk rfl rfl, two_new rfl rfl, nil_upd, ?_⟩; conv => whnf) | (refine ⟨_, [], [], [], op_pickT rfl (ev_ok rfl) (ev_ok rfl), nil_fk, nil_new, nil_upd, ?_⟩; conv => whnf) | (refine ⟨_, [], [], [], op_pickF rfl (ev_ok rfl) (ev_ok rfl), nil_fk, nil_new, nil_upd, ?_⟩; conv => whnf) | (rw [beq_self_eq_true]; conv => whnf) | (rw [bne_self_eq_false]; conv => whnf) | (rw [ew]; conv => whnf)))
        refine ⟨_, [(47, ⟨22, true, .ints .u32 (List.replicate ((wInts b).length + 1) 0)⟩), (1002, ⟨22, true, .ints .u32 (wArr b)⟩)], [], [(47, ⟨22, true, .ints .u32 (wInts b ++ [0])⟩)], op_copy (c := (wInts b).length) (n := (wInts b).length + 1) rfl rfl rfl (ev_ok rfl) (ev_ok rfl) (tabOK.get (t := 39) rfl) rfl (tabOK.get (t := 22) rfl) (List.mem_cons_self ..) (List.mem_cons_of_mem _ (List.mem_cons_self ..)) rfl rfl rfl rfl (by simp [dlen]) (by show 0 + _ ≤ (wArr b).length; have := wArr_len b; omega) (Nat.min_eq_left (Nat.le_succ _)).symm (dcopy_words b), two_fk rfl rfl, nil_new, one_upd (List.mem_cons_self ..) rfl rfl rfl, ?_⟩
        conv => whnf
        (repeat (first | (refine step_w1 rfl rfl ?_; conv => whnf) | (refine step_w2 rfl rfl ?_; conv => whnf) | (refine step_i (by kernel_rfl) ?_; conv => whnf) | (refine And.intro (by first | decide | omega | (simp only [tiB5, tiB22, tiB3, tiB2, tiB9, tiB55, tiB49, tiB28, tiB4, tiB66, tiB68]; omega)) ?_; conv => whnf) | (refine ⟨[], _, [], [], (by assumption), nil_fk, nil_new, nil_upd, ?_⟩; conv => whnf) | (refine ⟨[], _, [_], [], (by assumption), nil_fk, one_new rfl, nil_upd, ?_⟩; conv => whnf) | (refine ⟨[_], _, [], [], (by assumption), one_fk rfl, nil_new, nil_upd, ?_⟩; conv => whnf) | (refine ⟨[_, _], _, [], [], (by assumption), two_fk rfl rfl, nil_new, nil_upd, ?_⟩; conv => whnf) | (refine ⟨[_], _, [_], [], (by assumption), one_fk rfl, one_new rfl, nil_upd, ?_⟩; conv => whnf) | (refine ⟨[_], _, [], [_], (by assumption), one_fk rfl, nil_new, one_upd (List.mem_cons_self ..) rfl rfl rfl, ?_⟩; conv => whnf) | (refine ⟨[_, _], _, [], [_, _], (by assumption), two_fk rfl rfl, nil_new, two_upd (List.mem_cons_self ..) rfl rfl rfl (List.mem_cons_of_mem _ (List.mem_cons_self ..)) rfl rfl rfl, ?_⟩; conv => whnf) | (refine ⟨[_, _], _, [_, _], [], (by assumption), two_fk rfl rfl, two_new rfl rfl, nil_upd, ?_⟩; conv => whnf) | (refine ⟨_, [], [], [], op_pickT rfl (ev_ok rfl) (ev_ok rfl), nil_fk, nil_new, nil_upd, ?_⟩; conv => whnf) | (refine ⟨_, [], [], [], op_pickF rfl (ev_ok rfl) (ev_ok rfl), nil_fk, nil_new, nil_upd, ?_⟩; conv => whnf) | (rw [beq_self_eq_true]; conv => whnf) | (rw [bne_self_eq_false]; conv => whnf)))
        refine SW_loopN hE (fun k => k) [4, 8, 9, 10, 52, 53] [4, 1001, 47] (fun m fr hp => ∃ (i : Nat) (out : List Int) (c : Nat), m = (wInts b).length + 1 - i ∧ i ≤ (wInts b).length + 1 ∧ c ≤ 1 ∧ out.length = (wInts b).length + 1 ∧ W32 out ∧ (∀ j, i ≤ j → out.getD j 0 = (wInts b).getD j 0) ∧ valI out i + c * 4294967296 ^ i = valI (wInts b) i + valI (wInts a) i ∧
          fr = [(4, .ptr 4 0 0 0), (8, .slc 1001 1 0 (wInts a).length), (9, .slc 47 1 0 ((wInts b).length + 1)), (10, .val (.int .u32 c)), (52, .val (.int .i64 (((wInts b).length + 1 : Nat)))), (53, .val (.int .i64 i))] ∧ hp = [(4, ⟨45, true, .one [.nat 0]⟩), (1001, ⟨22, true, .ints .u32 (wArr a)⟩), (47, ⟨22, true, .ints .u32 out⟩)]) ((wInts b).length + 1) ?_ ?_ ?_
        · kernel_rfl
        · exact ⟨0, wInts b ++ [0], 0, by omega, by omega, by omega, by simp, w32_snoc (wInts_w32 b), (fun j _ => getD_snoc _ j), by simp [valI], rfl, rfl⟩
        rintro m _ _ ⟨i, out, c, rfl, hi, hc, hlen, hw, hrest, hval, rfl, rfl⟩
        by_cases hlt : i < (wInts b).length + 1
        · have t1 : decide ((i : Int) < (((wInts b).length + 1 : Nat) : Int)) = true := decide_eq_true (by omega)
          have e1 : 0 + (i : Int).toNat = i := by omega
          have e2 : IntKind.i64.wrap ((i : Int) + 1) = ((i + 1 : Nat) : Int) := by rw [wrap_i64 (by omega) (by omega)]; omega
          obtain ⟨o, ho⟩ := Int.eq_ofNat_of_zero_le (hw i).1
          obtain ⟨w, hww⟩ := Int.eq_ofNat_of_zero_le (wInts_w32 a i).1
          have ho2 := (hw i).2
          have hw2 := (wInts_w32 a i).2
          have k32 := c_Add32 o w c (by omega) (by omega) hc
          have hX : (wInts b).getD i 0 = o := by rw [← hrest i (Nat.le_refl _)]; exact ho
          have hstep := add_step (by omega) ho hX hww hval
          have hc' : (o + w + c) / 4294967296 ≤ 1 := by omega
          have hrest' : ∀ j, i + 1 ≤ j → (out.set i (((o + w + c) % 4294967296 : Nat) : Int)).getD j 0 = (wInts b).getD j 0 := fun j hj => by
            rw [getD_set, if_neg (by omega)]; exact hrest j (by omega)
          by_cases hy : i < (wInts a).length
          · have t2 : decide ((i : Int) < ((wInts a).length : Int)) = true := decide_eq_true (by omega)
            have hyl := wArr_len a
            have e3 : (wArr a).getD i 0 = (w : Int) := by rw [wArr_get hy]; exact hww
            conv => whnf
            (repeat (first | (refine step_w1 rfl rfl ?_; conv => whnf) | (refine step_w2 rfl rfl ?_; conv => whnf) | (refine step_i (by kernel_rfl) ?_; conv => whnf) | (refine And.intro (by first | decide | omega | (simp only [tiB5, tiB22, tiB3, tiB2, tiB9, tiB55, tiB49, tiB28, tiB4, tiB66, tiB68]; omega)) ?_; conv => whnf) | (refine ⟨[], _, [], [], (by assumption), nil_fk, nil_new, nil_upd, ?_⟩; conv => whnf) | (refine ⟨[], _, [_], [], (by assumption), nil_fk, one_new rfl, nil_upd, ?_⟩; conv => whnf) | (refine ⟨[_], _, [], [], (by assumption), one_fk rfl, nil_new, nil_upd, ?_⟩; conv => whnf) | (refine ⟨[_, _], _, [], [], (by assumption), two_fk rfl rfl, nil_new, nil_upd, ?_⟩; conv => whnf) | (refine ⟨[_], _, [_], [], (by assumption), one_fk rfl, one_new rfl, nil_upd, ?_⟩; conv => whnf) | (refine ⟨[_], _, [], [_], (by assumption), one_fk rfl, nil_new, one_upd (List.mem_cons_self ..) rfl rfl rfl, ?_⟩; conv => whnf) | (refine ⟨[_, _], _, [], [_, _], (by assumption), two_fk rfl rfl, nil_new, two_upd (List.mem_cons_self ..) rfl rfl rfl (List.mem_cons_of_mem _ (List.mem_cons_self ..)) rfl rfl rfl, ?_⟩; conv => whnf) | (refine ⟨[_, _], _, [_, _], [], (by assumption), two_fk rfl rfl, two_new rfl rfl, nil_upd, ?_⟩; conv => whnf) | (refine ⟨_, [], [], [], op_pickT rfl (ev_ok rfl) (ev_ok rfl), nil_fk, nil_new, nil_upd, ?_⟩; conv => whnf) | (refine ⟨_, [], [], [], op_pickF rfl (ev_ok rfl) (ev_ok rfl), nil_fk, nil_new, nil_upd, ?_⟩; conv => whnf) | (rw [beq_self_eq_true]; conv => whnf) | (rw [bne_self_eq_false]; conv => whnf) | (rw [t1]; conv => whnf) | (rw [t2]; conv => whnf) | (rw [e1]; conv => whnf) | (rw [e3]; conv => whnf) | (rw [ho]; conv => whnf)))
            rw [e2]
            exact ⟨(wInts b).length + 1 - (i + 1), fun k => k, [4, 8, 9, 10, 52, 53], [4, 1001, 47], by omega, by kernel_rfl, i + 1, _, _, rfl, by omega, hc', by simpa using hlen, hw.set (by omega) (by omega), hrest', hstep, rfl, rfl⟩
          · have t2 : decide ((i : Int) < ((wInts a).length : Int)) = false := decide_eq_false (by omega)
            have hw0 : w = 0 := by have := getD_ge (xs := wInts a) (i := i) (by omega); omega
            subst hw0
            conv => whnf
            (repeat (first | (refine step_w1 rfl rfl ?_; conv => whnf) | (refine step_w2 rfl rfl ?_; conv => whnf) | (refine step_i (by kernel_rfl) ?_; conv => whnf) | (refine And.intro (by first | decide | omega | (simp only [tiB5, tiB22, tiB3, tiB2, tiB9, tiB55, tiB49, tiB28, tiB4, tiB66, tiB68]; omega)) ?_; conv => whnf) | (refine ⟨[], _, [], [], (by assumption), nil_fk, nil_new, nil_upd, ?_⟩; conv => whnf) | (refine ⟨[], _, [_], [], (by assumption), nil_fk, one_new rfl, nil_upd, ?_⟩; conv => whnf) | (refine ⟨[_], _, [], [], (by assumption), one_fk rfl, nil_new, nil_upd, ?_⟩; conv => whnf) | (refine ⟨[_, _], _, [], [], (by assumption), two_fk rfl rfl, nil_new, nil_upd, ?_⟩; conv => whnf) | (refine ⟨[_], _, [_], [], (by assumption), one_fk rfl, one_new rfl, nil_upd, ?_⟩; conv => whnf) | (refine ⟨[_], _, [], [_], (by assumption), one_fk rfl, nil_new, one_upd (List.mem_cons_self ..) rfl rfl rfl, ?_⟩; conv => whnf) | (refine ⟨[_, _], _, [], [_, _], (by assumption), two_fk rfl rfl, nil_new, two_upd (List.mem_cons_self ..) rfl rfl rfl (List.mem_cons_of_mem _ (List.mem_cons_self ..)) rfl rfl rfl, ?_⟩; conv => whnf) | (refine ⟨[_, _], _, [_, _], [], (by assumption), two_fk rfl rfl, two_new rfl rfl, nil_upd, ?_⟩; conv => whnf) | (refine ⟨_, [], [], [], op_pickT rfl (ev_ok rfl) (ev_ok rfl), nil_fk, nil_new, nil_upd, ?_⟩; conv => whnf) | (refine ⟨_, [], [], [], op_pickF rfl (ev_ok rfl) (ev_ok rfl), nil_fk, nil_new, nil_upd, ?_⟩; conv => whnf) | (rw [beq_self_eq_true]; conv => whnf) | (rw [bne_self_eq_false]; conv => whnf) | (rw [t1]; conv => whnf) | (rw [t2]; conv => whnf) | (rw [e1]; conv => whnf) | (rw [ho]; conv => whnf)))
            rw [e2]
            exact ⟨(wInts b).length + 1 - (i + 1), fun k => k, [4, 8, 9, 10, 52, 53], [4, 1001, 47], by omega, by kernel_rfl, i + 1, _, _, rfl, by omega, hc', by simpa using hlen, hw.set (by omega) (by omega), hrest', hstep, rfl, rfl⟩
        · have hi' : i = (wInts b).length + 1 := by omega
          subst hi'
          have t1 : decide ((((wInts b).length + 1 : Nat) : Int) < (((wInts b).length + 1 : Nat) : Int)) = false := decide_eq_false (by omega)
          rw [wInts_valge b (by omega), wInts_valge a (by omega)] at hval
          have hsum : (valI out ((wInts b).length + 1)).toNat = a + b := by
            have := add_fin hc (valI_nonneg hw _) hval (lt_of_len b) (lt_of_len a) (by omega)
            omega
          have kof := c_of out ((wInts b).length + 1) (by omega) (by omega) hw 47 true
          rw [hsum] at kof
          conv => whnf
          (repeat (first | (refine step_w1 rfl rfl ?_; conv => whnf) | (refine step_w2 rfl rfl ?_; conv => whnf) | (refine step_i (by kernel_rfl) ?_; conv => whnf) | (refine And.intro (by first | decide | omega | (simp only [tiB5, tiB22, tiB3, tiB2, tiB9, tiB55, tiB49, tiB28, tiB4, tiB66, tiB68]; omega)) ?_; conv => whnf) | (refine ⟨[], _, [], [], (by assumption), nil_fk, nil_new, nil_upd, ?_⟩; conv => whnf) | (refine ⟨[], _, [_], [], (by assumption), nil_fk, one_new rfl, nil_upd, ?_⟩; conv => whnf) | (refine ⟨[_], _, [], [], (by assumption), one_fk rfl, nil_new, nil_upd, ?_⟩; conv => whnf) | (refine ⟨[_, _], _, [], [], (by assumption), two_fk rfl rfl, nil_new, nil_upd, ?_⟩; conv => whnf) | (refine ⟨[_], _, [_], [], (by assumption), one_fk rfl, one_new rfl, nil_upd, ?_⟩; conv => whnf) | (refine ⟨[_], _, [], [_], (by assumption), one_fk rfl, nil_new, one_upd (List.mem_cons_self ..) rfl rfl rfl, ?_⟩; conv => whnf) | (refine ⟨[_, _], _, [], [_, _], (by assumption), two_fk rfl rfl, nil_new, two_upd (List.mem_cons_self ..) rfl rfl rfl (List.mem_cons_of_mem _ (List.mem_cons_self ..)) rfl rfl rfl, ?_⟩; conv => whnf) | (refine ⟨[_, _], _, [_, _], [], (by assumption), two_fk rfl rfl, two_new rfl rfl, nil_upd, ?_⟩; conv => whnf) | (refine ⟨_, [], [], [], op_pickT rfl (ev_ok rfl) (ev_ok rfl), nil_fk, nil_new, nil_upd, ?_⟩; conv => whnf) | (refine ⟨_, [], [], [], op_pickF rfl (ev_ok rfl) (ev_ok rfl), nil_fk, nil_new, nil_upd, ?_⟩; conv => whnf) | (rw [beq_self_eq_true]; conv => whnf) | (rw [bne_self_eq_false]; conv => whnf) | (rw [t1]; conv => whnf)))
          exact Recast.refl _
      · rw [decide_eq_false (show ¬ ((wInts a).length : Int) < ((wInts b).length : Int) by omega)]
        have ew : IntKind.i64.wrap (((wInts a).length : Int) + 1) = (((wInts a).length + 1 : Nat) : Int) := by rw [wrap_i64 (by omega) (by omega)]; omega
        (repeat (first | (refine step_w1 rfl rfl ?_; conv => whnf) | (refine step_w2 rfl rfl ?_; conv => whnf) | (refine step_i (by kernel_rfl) ?_; conv => whnf) | (refine And.intro (by first | decide | omega | (simp only [tiB5, tiB22, tiB3, tiB2, tiB9, tiB55, tiB49, tiB28, tiB4, tiB66, tiB68]; omega)) ?_; conv => whnf) | (refine ⟨[], _, [], [], (by assumption), nil_fk, nil_new, nil_upd, ?_⟩; conv => whnf) | (refine ⟨[], _, [_], [], (by assumption), nil_fk, one_new rfl, nil_upd, ?_⟩; conv => whnf) | (refine ⟨[_], _, [], [], (by assumption), one_fk rfl, nil_new, nil_upd, ?_⟩; conv => whnf) | (refine ⟨[_, _], _, [], [], (by assumption), two_fk rfl rfl, nil_new, nil_upd, ?_⟩; conv => whnf) | (refine ⟨[_], _, [_], [], (by assumption), one_fk rfl, one_new rfl, nil_upd, ?_⟩; conv => whnf) | (refine ⟨[_], _, [], [_], (by assumption), one_fk rfl, nil_new, one_upd (List.mem_cons_self ..) rfl rfl rfl, ?_⟩; conv => whnf) | (refine ⟨[_, _], _, [], [_, _], (by assumption), two_fk rfl rfl, nil_new, two_upd (List.mem_cons_self ..) rfl rfl rfl (List.mem_cons_of_mem _ (List.mem_cons_self ..)) rfl rfl rfl, ?_⟩; conv => whnf) | (refine ⟨[_, _], _, [_, _], [], (by assumption), two_fk rfl rfl, two_new rfl rfl, nil_upd, ?_⟩; conv => whnf) | (refine ⟨_, [], [], [], op_pickT rfl (ev_ok rfl) (ev_ok rfl), nil_fk, nil_new, nil_upd, ?_⟩; conv => whnf) | (refine ⟨_, [], [], [], op_pickF rfl (ev_ok rfl) (ev_ok rfl), nil_fk, nil_new, nil_upd, ?_⟩; conv => whnf) | (rw [beq_self_eq_true]; conv => whnf) | (rw [bne_self_eq_false]; conv => whnf) | (rw [ew]; conv => whnf)))
        refine ⟨_, [(47, ⟨22, true, .ints .u32 (List.replicate ((wInts a).length + 1) 0)⟩), (1001, ⟨22, true, .ints .u32 (wArr a)⟩)], [], [(47, ⟨22, true, .ints .u32 (wInts a ++ [0])⟩)], op_copy (c := (wInts a).length) (n := (wInts a).length + 1) rfl rfl rfl (ev_ok rfl) (ev_ok rfl) (tabOK.get (t := 39) rfl) rfl (tabOK.get (t := 22) rfl) (List.mem_cons_self ..) (List.mem_cons_of_mem _ (List.mem_cons_self ..)) rfl rfl rfl rfl (by simp [dlen]) (by show 0 + _ ≤ (wArr a).length; have := wArr_len a; omega) (Nat.min_eq_left (Nat.le_succ _)).symm (dcopy_words a), two_fk rfl rfl, nil_new, one_upd (List.mem_cons_self ..) rfl rfl rfl, ?_⟩
        conv => whnf
        (repeat (first | (refine step_w1 rfl rfl ?_; conv => whnf) | (refine step_w2 rfl rfl ?_; conv => whnf) | (refine step_i (by kernel_rfl) ?_; conv => whnf) | (refine And.intro (by first | decide | omega | (simp only [tiB5, tiB22, tiB3, tiB2, tiB9, tiB55, tiB49, tiB28, tiB4, tiB66, tiB68]; omega)) ?_; conv => whnf) | (refine ⟨[], _, [], [], (by assumption), nil_fk, nil_new, nil_upd, ?_⟩; conv => whnf) | (refine ⟨[], _, [_], [], (by assumption), nil_fk, one_new rfl, nil_upd, ?_⟩; conv => whnf) | (refine ⟨[_], _, [], [], (by assumption), one_fk rfl, nil_new, nil_upd, ?_⟩; conv => whnf) | (refine ⟨[_, _], _, [], [], (by assumption), two_fk rfl rfl, nil_new, nil_upd, ?_⟩; conv => whnf) | (refine ⟨[_], _, [_], [], (by assumption), one_fk rfl, one_new rfl, nil_upd, ?_⟩; conv => whnf) | (refine ⟨[_], _, [], [_], (by assumption), one_fk rfl, nil_new, one_upd (List.mem_cons_self ..) rfl rfl rfl, ?_⟩; conv => whnf) | (refine ⟨[_, _], _, [], [_, _], (by assumption), two_fk rfl rfl, nil_new, two_upd (List.mem_cons_self ..) rfl rfl rfl (List.mem_cons_of_mem _ (List.mem_cons_self ..)) rfl rfl rfl, ?_⟩; conv => whnf) | (refine ⟨[_, _], _, [_, _], [], (by assumption), two_fk rfl rfl, two_new rfl rfl, nil_upd, ?_⟩; conv => whnf) | (refine ⟨_, [], [], [], op_pickT rfl (ev_ok rfl) (ev_ok rfl), nil_fk, nil_new, nil_upd, ?_⟩; conv => whnf) | (refine ⟨_, [], [], [], op_pickF rfl (ev_ok rfl) (ev_ok rfl), nil_fk, nil_new, nil_upd, ?_⟩; conv => whnf) | (rw [beq_self_eq_true]; conv => whnf) | (rw [bne_self_eq_false]; conv => whnf)))
        refine SW_loopN hE (fun k => k) [4, 8, 9, 10, 52, 53] [4, 1002, 47] (fun m fr hp => ∃ (i : Nat) (out : List Int) (c : Nat), m = (wInts a).length + 1 - i ∧ i ≤ (wInts a).length + 1 ∧ c ≤ 1 ∧ out.length = (wInts a).length + 1 ∧ W32 out ∧ (∀ j, i ≤ j → out.getD j 0 = (wInts a).getD j 0) ∧ valI out i + c * 4294967296 ^ i = valI (wInts a) i + valI (wInts b) i ∧
          fr = [(4, .ptr 4 0 0 0), (8, .slc 1002 1 0 (wInts b).length), (9, .slc 47 1 0 ((wInts a).length + 1)), (10, .val (.int .u32 c)), (52, .val (.int .i64 (((wInts a).length + 1 : Nat)))), (53, .val (.int .i64 i))] ∧ hp = [(4, ⟨45, true, .one [.nat 0]⟩), (1002, ⟨22, true, .ints .u32 (wArr b)⟩), (47, ⟨22, true, .ints .u32 out⟩)]) ((wInts a).length + 1) ?_ ?_ ?_
        · kernel_rfl
        · exact ⟨0, wInts a ++ [0], 0, by omega, by omega, by omega, by simp, w32_snoc (wInts_w32 a), (fun j _ => getD_snoc _ j), by simp [valI], rfl, rfl⟩
        rintro m _ _ ⟨i, out, c, rfl, hi, hc, hlen, hw, hrest, hval, rfl, rfl⟩
        by_cases hlt : i < (wInts a).length + 1
        · have t1 : decide ((i : Int) < (((wInts a).length + 1 : Nat) : Int)) = true := decide_eq_true (by omega)
          have e1 : 0 + (i : Int).toNat = i := by omega
          have e2 : IntKind.i64.wrap ((i : Int) + 1) = ((i + 1 : Nat) : Int) := by rw [wrap_i64 (by omega) (by omega)]; omega
          obtain ⟨o, ho⟩ := Int.eq_ofNat_of_zero_le (hw i).1
          obtain ⟨w, hww⟩ := Int.eq_ofNat_of_zero_le (wInts_w32 b i).1
          have ho2 := (hw i).2
          have hw2 := (wInts_w32 b i).2
          have k32 := c_Add32 o w c (by omega) (by omega) hc
          have hX : (wInts a).getD i 0 = o := by rw [← hrest i (Nat.le_refl _)]; exact ho
          have hstep := add_step (by omega) ho hX hww hval
          have hc' : (o + w + c) / 4294967296 ≤ 1 := by omega
          have hrest' : ∀ j, i + 1 ≤ j → (out.set i (((o + w + c) % 4294967296 : Nat) : Int)).getD j 0 = (wInts a).getD j 0 := fun j hj => by
            rw [getD_set, if_neg (by omega)]; exact hrest j (by omega)
          by_cases hy : i < (wInts b).length
          · have t2 : decide ((i : Int) < ((wInts b).length : Int)) = true := decide_eq_true (by omega)
            have hyl := wArr_len b
            have e3 : (wArr b).getD i 0 = (w : Int) := by rw [wArr_get hy]; exact hww
            conv => whnf
            (repeat (first | (refine step_w1 rfl rfl ?_; conv => whnf) | (refine step_w2 rfl rfl ?_; conv => whnf) | (refine step_i (by kernel_rfl) ?_; conv => whnf) | (refine And.intro (by first | decide | omega | (simp only [tiB5, tiB22, tiB3, tiB2, tiB9, tiB55, tiB49, tiB28, tiB4, tiB66, tiB68]; omega)) ?_; conv => whnf) | (refine ⟨[], _, [], [], (by assumption), nil_fk, nil_new, nil_upd, ?_⟩; conv => whnf) | (refine ⟨[], _, [_], [], (by assumption), nil_fk, one_new rfl, nil_upd, ?_⟩; conv => whnf) | (refine ⟨[_], _, [], [], (by assumption), one_fk rfl, nil_new, nil_upd, ?_⟩; conv => whnf) | (refine ⟨[_, _], _, [], [], (by assumption), two_fk rfl rfl, nil_new, nil_upd, ?_⟩; conv => whnf) | (refine ⟨[_], _, [_], [], (by assumption), one_fk rfl, one_new rfl, nil_upd, ?_⟩; conv => whnf) | (refine ⟨[_], _, [], [_], (by assumption), one_fk rfl, nil_new, one_upd (List.mem_cons_self ..) rfl rfl rfl, ?_⟩; conv => whnf) | (refine ⟨[_, _], _, [], [_, _], (by assumption), two_fk rfl rfl, nil_new, two_upd (List.mem_cons_self ..) rfl rfl rfl (List.mem_cons_of_mem _ (List.mem_cons_self ..)) rfl rfl rfl, ?_⟩; conv => whnf) | (refine ⟨[_, _], _, [_, _], [], (by assumption), two_fk rfl rfl, two_new rfl rfl, nil_upd, ?_⟩; conv => whnf) | (refine ⟨_, [], [], [], op_pickT rfl (ev_ok rfl) (ev_ok rfl), nil_fk, nil_new, nil_upd, ?_⟩; conv => whnf) | (refine ⟨_, [], [], [], op_pickF rfl (ev_ok rfl) (ev_ok rfl), nil_fk, nil_new, nil_upd, ?_⟩; conv => whnf) | (rw [beq_self_eq_true]; conv => whnf) | (rw [bne_self_eq_false]; conv => whnf) | (rw [t1]; conv => whnf) | (rw [t2]; conv => whnf) | (rw [e1]; conv => whnf) | (rw [e3]; conv => whnf) | (rw [ho]; conv => whnf)))
            rw [e2]
            exact ⟨(wInts a).length + 1 - (i + 1), fun k => k, [4, 8, 9, 10, 52, 53], [4, 1002, 47], by omega, by kernel_rfl, i + 1, _, _, rfl, by omega, hc', by simpa using hlen, hw.set (by omega) (by omega), hrest', hstep, rfl, rfl⟩
          · have t2 : decide ((i : Int) < ((wInts b).length : Int)) = false := decide_eq_false (by omega)
            have hw0 : w = 0 := by have := getD_ge (xs := wInts b) (i := i) (by omega); omega
            subst hw0
            conv => whnf
            (repeat (first | (refine step_w1 rfl rfl ?_; conv => whnf) | (refine step_w2 rfl rfl ?_; conv => whnf) | (refine step_i (by kernel_rfl) ?_; conv => whnf) | (refine And.intro (by first | decide | omega | (simp only [tiB5, tiB22, tiB3, tiB2, tiB9, tiB55, tiB49, tiB28, tiB4, tiB66, tiB68]; omega)) ?_; conv => whnf) | (refine ⟨[], _, [], [], (by assumption), nil_fk, nil_new, nil_upd, ?_⟩; conv => whnf) | (refine ⟨[], _, [_], [], (by assumption), nil_fk, one_new rfl, nil_upd, ?_⟩; conv => whnf) | (refine ⟨[_], _, [], [], (by assumption), one_fk rfl, nil_new, nil_upd, ?_⟩; conv => whnf) | (refine ⟨[_, _], _, [], [], (by assumption), two_fk rfl rfl, nil_new, nil_upd, ?_⟩; conv => whnf) | (refine ⟨[_], _, [_], [], (by assumption), one_fk rfl, one_new rfl, nil_upd, ?_⟩; conv => whnf) | (refine ⟨[_], _, [], [_], (by assumption), one_fk rfl, nil_new, one_upd (List.mem_cons_self ..) rfl rfl rfl, ?_⟩; conv => whnf) | (refine ⟨[_, _], _, [], [_, _], (by assumption), two_fk rfl rfl, nil_new, two_upd (List.mem_cons_self ..) rfl rfl rfl (List.mem_cons_of_mem _ (List.mem_cons_self ..)) rfl rfl rfl, ?_⟩; conv => whnf) | (refine ⟨[_, _], _, [_, _], [], (by assumption), two_fk rfl rfl, two_new rfl rfl, nil_upd, ?_⟩; conv => whnf) | (refine ⟨_, [], [], [], op_pickT rfl (ev_ok rfl) (ev_ok rfl), nil_fk, nil_new, nil_upd, ?_⟩; conv => whnf) | (refine ⟨_, [], [], [], op_pickF rfl (ev_ok rfl) (ev_ok rfl), nil_fk, nil_new, nil_upd, ?_⟩; conv => whnf) | (rw [beq_self_eq_true]; conv => whnf) | (rw [bne_self_eq_false]; conv => whnf) | (rw [t1]; conv => whnf) | (rw [t2]; conv => whnf) | (rw [e1]; conv => whnf) | (rw [ho]; conv => whnf)))
            rw [e2]
            exact ⟨(wInts a).length + 1 - (i + 1), fun k => k, [4, 8, 9, 10, 52, 53], [4, 1002, 47], by omega, by kernel_rfl, i + 1, _, _, rfl, by omega, hc', by simpa using hlen, hw.set (by omega) (by omega), hrest', hstep, rfl, rfl⟩
        · have hi' : i = (wInts a).length + 1 := by omega
          subst hi'
          have t1 : decide ((((wInts a).length + 1 : Nat) : Int) < (((wInts a).length + 1 : Nat) : Int)) = false := decide_eq_false (by omega)
          rw [wInts_valge a (by omega), wInts_valge b (by omega)] at hval
          have hsum : (valI out ((wInts a).length + 1)).toNat = a + b := by
            have := add_fin hc (valI_nonneg hw _) hval (lt_of_len a) (lt_of_len b) (by omega)
            omega
          have kof := c_of out ((wInts a).length + 1) (by omega) (by omega) hw 47 true
          rw [hsum] at kof
          conv => whnf
          (repeat (first | (refine step_w1 rfl rfl ?_; conv => whnf) | (refine step_w2 rfl rfl ?_; conv => whnf) | (refine step_i (by kernel_rfl) ?_; conv => whnf) | (refine And.intro (by first | decide | omega | (simp only [tiB5, tiB22, tiB3, tiB2, tiB9, tiB55, tiB49, tiB28, tiB4, tiB66, tiB68]; omega)) ?_; conv => whnf) | (refine ⟨[], _, [], [], (by assumption), nil_fk, nil_new, nil_upd, ?_⟩; conv => whnf) | (refine ⟨[], _, [_], [], (by assumption), nil_fk, one_new rfl, nil_upd, ?_⟩; conv => whnf) | (refine ⟨[_], _, [], [], (by assumption), one_fk rfl, nil_new, nil_upd, ?_⟩; conv => whnf) | (refine ⟨[_, _], _, [], [], (by assumption), two_fk rfl rfl, nil_new, nil_upd, ?_⟩; conv => whnf) | (refine ⟨[_], _, [_], [], (by assumption), one_fk rfl, one_new rfl, nil_upd, ?_⟩; conv => whnf) | (refine ⟨[_], _, [], [_], (by assumption), one_fk rfl, nil_new, one_upd (List.mem_cons_self ..) rfl rfl rfl, ?_⟩; conv => whnf) | (refine ⟨[_, _], _, [], [_, _], (by assumption), two_fk rfl rfl, nil_new, two_upd (List.mem_cons_self ..) rfl rfl rfl (List.mem_cons_of_mem _ (List.mem_cons_self ..)) rfl rfl rfl, ?_⟩; conv => whnf) | (refine ⟨[_, _], _, [_, _], [], (by assumption), two_fk rfl rfl, two_new rfl rfl, nil_upd, ?_⟩; conv => whnf) | (refine ⟨_, [], [], [], op_pickT rfl (ev_ok rfl) (ev_ok rfl), nil_fk, nil_new, nil_upd, ?_⟩; conv => whnf) | (refine ⟨_, [], [], [], op_pickF rfl (ev_ok rfl) (ev_ok rfl), nil_fk, nil_new, nil_upd, ?_⟩; conv => whnf) | (rw [beq_self_eq_true]; conv => whnf) | (rw [bne_self_eq_false]; conv => whnf) | (rw [t1]; conv => whnf)))
          exact Recast.refl _
end Go.Proofs.YtghdcjhlhcoijaaDoor

/- Contracts: nats.Sub. -/
namespace Go.Proofs.YtghdcjhlhcoijaaDoor
open Go.Sx
set_option linter.unusedSimpArgs false
set_option linter.unusedVariables false
set_option maxRecDepth 100000
set_option maxHeartbeats 4000000

theorem c_SubF (a b : Nat) (ha : (wInts a).length < 549755813888) (hb : (wInts b).length < 549755813888) (h : a < b) :
    CallOK Tryd.prog 72 [.nat a, .nat b] [] (.tup [.nat 0, .val (.bool false)]) [] [] := by
  have k1 := c_Cmp a b (by omega) (by omega)
  rw [Int.sign_eq_neg_one_of_neg (show (a : Int) - b < 0 by omega)] at k1
  refine callV (Z := []) tabOK mixedOK Tryd.func72 rfl (by kernel_rfl) rfl rfl (by kernel_rfl) rfl ?_
  intro W0 w0 ρ0 hE
  conv => whnf
  (repeat (first | (refine step_w1 rfl rfl ?_; conv => whnf) | (refine step_w2 rfl rfl ?_; conv => whnf) | (refine step_i (by kernel_rfl) ?_; conv => whnf) | (refine And.intro (by first | decide | omega | (simp only [tiB5, tiB22, tiB3, tiB2, tiB9, tiB55, tiB49, tiB28, tiB4, tiB66, tiB68]; omega)) ?_; conv => whnf) | (refine ⟨[], _, [], [], (by assumption), nil_fk, nil_new, nil_upd, ?_⟩; conv => whnf) | (refine ⟨[], _, [_], [], (by assumption), nil_fk, one_new rfl, nil_upd, ?_⟩; conv => whnf) | (refine ⟨[_], _, [], [], (by assumption), one_fk rfl, nil_new, nil_upd, ?_⟩; conv => whnf) | (refine ⟨[_, _], _, [], [], (by assumption), two_fk rfl rfl, nil_new, nil_upd, ?_⟩; conv => whnf) | (refine ⟨[_], _, [_], [], (by assumption), one_fk rfl, one_new rfl, nil_upd, ?_⟩; conv => whnf) | (refine ⟨[_], _, [], [_], (by assumption), one_fk rfl, nil_new, one_upd (List.mem_cons_self ..) rfl rfl rfl, ?_⟩; conv => whnf) | (refine ⟨[_, _], _, [], [_, _], (by assumption), two_fk rfl rfl, nil_new, two_upd (List.mem_cons_self ..) rfl rfl rfl (List.mem_cons_of_mem _ (List.mem_cons_self ..)) rfl rfl rfl, ?_⟩; conv => whnf) | (refine ⟨[_, _], _, [_, _], [], (by assumption), two_fk rfl rfl, two_new rfl rfl, nil_upd, ?_⟩; conv => whnf) | (refine ⟨_, [], [], [], op_pickT rfl (ev_ok rfl) (ev_ok rfl), nil_fk, nil_new, nil_upd, ?_⟩; conv => whnf) | (refine ⟨_, [], [], [], op_pickF rfl (ev_ok rfl) (ev_ok rfl), nil_fk, nil_new, nil_upd, ?_⟩; conv => whnf) | (rw [beq_self_eq_true]; conv => whnf) | (rw [bne_self_eq_false]; conv => whnf))); exact Recast.refl _

theorem sub_step {X Y out : List Int} {i o w c : Nat} (hi : i < out.length) (ho : out.getD i 0 = o) (hX : X.getD i 0 = o) (hY : Y.getD i 0 = w) (hv : valI out i - c * 4294967296 ^ i = valI X i - valI Y i)
    (hol : o < 4294967296) (hwl : w < 4294967296) (hc : c ≤ 1) :
    valI (out.set i (((o + 4294967296 - w - c) % 4294967296 : Nat) : Int)) (i + 1) - ((if o < w + c then 1 else 0 : Nat) : Int) * 4294967296 ^ (i + 1) = valI X (i + 1) - valI Y (i + 1) := by
  rw [valI, valI, valI, valI_set_ge (Nat.le_refl i), getD_set, if_pos ⟨rfl, hi⟩, hX, hY, Int.pow_succ]
  have hd : (((o + 4294967296 - w - c) % 4294967296 : Nat) : Int) = (o : Int) - w - c + ((if o < w + c then 1 else 0 : Nat) : Int) * 4294967296 := by
    split <;> omega
  rw [hd]
  generalize ((if o < w + c then 1 else 0 : Nat) : Int) = q
  generalize (4294967296 : Int) ^ i = P at *
  grind

theorem n_Sub (a b : Nat) (ha : (wInts a).length < 549755813888) (h : b ≤ a) :
    CallOK Tryd.prog 72 [.nat a, .nat b] [] (.tup [.nat (a - b), .val (.bool true)]) [] [] := by
  by_cases hs : a < 18446744073709551616
  · exact s_Sub a b hs h
  · have hlb : (wInts b).length ≤ (wInts a).length := len_le_of (Nat.lt_of_le_of_lt h (lt_of_len a))
    have k1 := c_Cmp a b (by omega) (by omega)
    have ht : decide (((a : Int) - b).sign < 0) = false := decide_eq_false (by have := Int.sign_nonneg_iff.2 (show 0 ≤ (a : Int) - b by omega); omega)
    have ka := c_words a 1001 (by omega)
    have kb := c_words b 1002 (by omega)
    refine callV (Z := []) tabOK mixedOK Tryd.func72 rfl (by kernel_rfl) rfl rfl (by kernel_rfl) rfl ?_
    intro W0 w0 ρ0 hE
    conv => whnf
    (repeat (first | (refine step_w1 rfl rfl ?_; conv => whnf) | (refine step_w2 rfl rfl ?_; conv => whnf) | (refine step_i (by kernel_rfl) ?_; conv => whnf) | (refine And.intro (by first | decide | omega | (simp only [tiB5, tiB22, tiB3, tiB2, tiB9, tiB55, tiB49, tiB28, tiB4, tiB66, tiB68]; omega)) ?_; conv => whnf) | (refine ⟨[], _, [], [], (by assumption), nil_fk, nil_new, nil_upd, ?_⟩; conv => whnf) | (refine ⟨[], _, [_], [], (by assumption), nil_fk, one_new rfl, nil_upd, ?_⟩; conv => whnf) | (refine ⟨[_], _, [], [], (by assumption), one_fk rfl, nil_new, nil_upd, ?_⟩; conv => whnf) | (refine ⟨[_, _], _, [], [], (by assumption), two_fk rfl rfl, nil_new, nil_upd, ?_⟩; conv => whnf) | (refine ⟨[_], _, [_], [], (by assumption), one_fk rfl, one_new rfl, nil_upd, ?_⟩; conv => whnf) | (refine ⟨[_], _, [], [_], (by assumption), one_fk rfl, nil_new, one_upd (List.mem_cons_self ..) rfl rfl rfl, ?_⟩; conv => whnf) | (refine ⟨[_, _], _, [], [_, _], (by assumption), two_fk rfl rfl, nil_new, two_upd (List.mem_cons_self ..) rfl rfl rfl (List.mem_cons_of_mem _ (List.mem_cons_self ..)) rfl rfl rfl, ?_⟩; conv => whnf) | (refine ⟨[_, _], _, [_, _], [], (by assumption), two_fk rfl rfl, two_new rfl rfl, nil_upd, ?_⟩; conv => whnf) | (refine ⟨_, [], [], [], op_pickT rfl (ev_ok rfl) (ev_ok rfl), nil_fk, nil_new, nil_upd, ?_⟩; conv => whnf) | (refine ⟨_, [], [], [], op_pickF rfl (ev_ok rfl) (ev_ok rfl), nil_fk, nil_new, nil_upd, ?_⟩; conv => whnf) | (rw [beq_self_eq_true]; conv => whnf) | (rw [bne_self_eq_false]; conv => whnf) | (rw [ht]; conv => whnf)))
    rw [big_eq, decide_eq_false hs]
    (repeat (first | (refine step_w1 rfl rfl ?_; conv => whnf) | (refine step_w2 rfl rfl ?_; conv => whnf) | (refine step_i (by kernel_rfl) ?_; conv => whnf) | (refine And.intro (by first | decide | omega | (simp only [tiB5, tiB22, tiB3, tiB2, tiB9, tiB55, tiB49, tiB28, tiB4, tiB66, tiB68]; omega)) ?_; conv => whnf) | (refine ⟨[], _, [], [], (by assumption), nil_fk, nil_new, nil_upd, ?_⟩; conv => whnf) | (refine ⟨[], _, [_], [], (by assumption), nil_fk, one_new rfl, nil_upd, ?_⟩; conv => whnf) | (refine ⟨[_], _, [], [], (by assumption), one_fk rfl, nil_new, nil_upd, ?_⟩; conv => whnf) | (refine ⟨[_, _], _, [], [], (by assumption), two_fk rfl rfl, nil_new, nil_upd, ?_⟩; conv => whnf) | (refine ⟨[_], _, [_], [], (by assumption), one_fk rfl, one_new rfl, nil_upd, ?_⟩; conv => whnf) | (refine ⟨[_], _, [], [_], (by assumption), one_fk rfl, nil_new, one_upd (List.mem_cons_self ..) rfl rfl rfl, ?_⟩; conv => whnf) | (refine ⟨[_, _], _, [], [_, _], (by assumption), two_fk rfl rfl, nil_new, two_upd (List.mem_cons_self ..) rfl rfl rfl (List.mem_cons_of_mem _ (List.mem_cons_self ..)) rfl rfl rfl, ?_⟩; conv => whnf) | (refine ⟨[_, _], _, [_, _], [], (by assumption), two_fk rfl rfl, two_new rfl rfl, nil_upd, ?_⟩; conv => whnf) | (refine ⟨_, [], [], [], op_pickT rfl (ev_ok rfl) (ev_ok rfl), nil_fk, nil_new, nil_upd, ?_⟩; conv => whnf) | (refine ⟨_, [], [], [], op_pickF rfl (ev_ok rfl) (ev_ok rfl), nil_fk, nil_new, nil_upd, ?_⟩; conv => whnf) | (rw [beq_self_eq_true]; conv => whnf) | (rw [bne_self_eq_false]; conv => whnf)))
    rw [show wArr a = wInts a from if_neg hs]
    refine SW_loopN hE (fun k => k) [4, 6, 7, 8, 30, 31] [4, 1001, 1002] (fun m fr hp => ∃ (i : Nat) (out : List Int) (c : Nat), m = (wInts a).length - i ∧ i ≤ (wInts a).length ∧ c ≤ 1 ∧ out.length = (wInts a).length ∧ W32 out ∧ (∀ j, i ≤ j → out.getD j 0 = (wInts a).getD j 0) ∧ valI out i - c * 4294967296 ^ i = valI (wInts a) i - valI (wInts b) i ∧
      fr = [(4, .ptr 4 0 0 0), (6, .slc 1001 1 0 (wInts a).length), (7, .slc 1002 1 0 (wInts b).length), (8, .val (.int .u32 c)), (30, .val (.int .i64 ((wInts a).length : Nat))), (31, .val (.int .i64 i))] ∧ hp = [(4, ⟨45, true, .one [.nat 0]⟩), (1001, ⟨22, true, .ints .u32 out⟩), (1002, ⟨22, true, .ints .u32 (wArr b)⟩)]) (wInts a).length ?_ ?_ ?_
    · kernel_rfl
    · exact ⟨0, wInts a, 0, by omega, by omega, by omega, rfl, wInts_w32 a, (fun j _ => rfl), by simp [valI], rfl, rfl⟩
    rintro m _ _ ⟨i, out, c, rfl, hi, hc, hlen, hw, hrest, hval, rfl, rfl⟩
    by_cases hlt : i < (wInts a).length
    · have t1 : decide ((i : Int) < ((wInts a).length : Int)) = true := decide_eq_true (by omega)
      have e1 : 0 + (i : Int).toNat = i := by omega
      have e2 : IntKind.i64.wrap ((i : Int) + 1) = ((i + 1 : Nat) : Int) := by rw [wrap_i64 (by omega) (by omega)]; omega
      obtain ⟨o, ho⟩ := Int.eq_ofNat_of_zero_le (hw i).1
      obtain ⟨w, hww⟩ := Int.eq_ofNat_of_zero_le (wInts_w32 b i).1
      have ho2 := (hw i).2
      have hw2 := (wInts_w32 b i).2
      have k32 := c_Sub32 o w c (by omega) (by omega) hc
      have hX : (wInts a).getD i 0 = o := by rw [← hrest i (Nat.le_refl _)]; exact ho
      have hstep := sub_step (by omega) ho hX hww hval (by omega) (by omega) hc
      have hc' : (if o < w + c then 1 else 0 : Nat) ≤ 1 := by split <;> omega
      have hrest' : ∀ j, i + 1 ≤ j → (out.set i (((o + 4294967296 - w - c) % 4294967296 : Nat) : Int)).getD j 0 = (wInts a).getD j 0 := fun j hj => by
        rw [getD_set, if_neg (by omega)]; exact hrest j (by omega)
      by_cases hy : i < (wInts b).length
      · have t2 : decide ((i : Int) < ((wInts b).length : Int)) = true := decide_eq_true (by omega)
        have hyl := wArr_len b
        have e3 : (wArr b).getD i 0 = (w : Int) := by rw [wArr_get hy]; exact hww
        conv => whnf
        (repeat (first | (refine step_w1 rfl rfl ?_; conv => whnf) | (refine step_w2 rfl rfl ?_; conv => whnf) | (refine step_i (by kernel_rfl) ?_; conv => whnf) | (refine And.intro (by first | decide | omega | (simp only [tiB5, tiB22, tiB3, tiB2, tiB9, tiB55, tiB49, tiB28, tiB4, tiB66, tiB68]; omega)) ?_; conv => whnf) | (refine ⟨[], _, [], [], (by assumption), nil_fk, nil_new, nil_upd, ?_⟩; conv => whnf) | (refine ⟨[], _, [_], [], (by assumption), nil_fk, one_new rfl, nil_upd, ?_⟩; conv => whnf) | (refine ⟨[_], _, [], [], (by assumption), one_fk rfl, nil_new, nil_upd, ?_⟩; conv => whnf) | (refine ⟨[_, _], _, [], [], (by assumption), two_fk rfl rfl, nil_new, nil_upd, ?_⟩; conv => whnf) | (refine ⟨[_], _, [_], [], (by assumption), one_fk rfl, one_new rfl, nil_upd, ?_⟩; conv => whnf) | (refine ⟨[_], _, [], [_], (by assumption), one_fk rfl, nil_new, one_upd (List.mem_cons_self ..) rfl rfl rfl, ?_⟩; conv => whnf) | (refine ⟨[_, _], _, [], [_, _], (by assumption), two_fk rfl rfl, nil_new, two_upd (List.mem_cons_self ..) rfl rfl rfl (List.mem_cons_of_mem _ (List.mem_cons_self ..)) rfl rfl rfl, ?_⟩; conv => whnf) | (refine ⟨[_, _], _, [_, _], [], (by assumption), two_fk rfl rfl, two_new rfl rfl, nil_upd, ?_⟩; conv => whnf) | (refine ⟨_, [], [], [], op_pickT rfl (ev_ok rfl) (ev_ok rfl), nil_fk, nil_new, nil_upd, ?_⟩; conv => whnf) | (refine ⟨_, [], [], [], op_pickF rfl (ev_ok rfl) (ev_ok rfl), nil_fk, nil_new, nil_upd, ?_⟩; conv => whnf) | (rw [beq_self_eq_true]; conv => whnf) | (rw [bne_self_eq_false]; conv => whnf) | (rw [t1]; conv => whnf) | (rw [t2]; conv => whnf) | (rw [e1]; conv => whnf) | (rw [e3]; conv => whnf) | (rw [ho]; conv => whnf)))
        rw [e2]
        exact ⟨(wInts a).length - (i + 1), fun k => k, [4, 6, 7, 8, 30, 31], [4, 1001, 1002], by omega, by kernel_rfl, i + 1, _, _, rfl, by omega, hc', by simpa using hlen, hw.set (by omega) (by omega), hrest', hstep, rfl, rfl⟩
      · have t2 : decide ((i : Int) < ((wInts b).length : Int)) = false := decide_eq_false (by omega)
        have hw0 : w = 0 := by have := getD_ge (xs := wInts b) (i := i) (by omega); omega
        subst hw0
        conv => whnf
        (repeat (first | (refine step_w1 rfl rfl ?_; conv => whnf) | (refine step_w2 rfl rfl ?_; conv => whnf) | (refine step_i (by kernel_rfl) ?_; conv => whnf) | (refine And.intro (by first | decide | omega | (simp only [tiB5, tiB22, tiB3, tiB2, tiB9, tiB55, tiB49, tiB28, tiB4, tiB66, tiB68]; omega)) ?_; conv => whnf) | (refine ⟨[], _, [], [], (by assumption), nil_fk, nil_new, nil_upd, ?_⟩; conv => whnf) | (refine ⟨[], _, [_], [], (by assumption), nil_fk, one_new rfl, nil_upd, ?_⟩; conv => whnf) | (refine ⟨[_], _, [], [], (by assumption), one_fk rfl, nil_new, nil_upd, ?_⟩; conv => whnf) | (refine ⟨[_, _], _, [], [], (by assumption), two_fk rfl rfl, nil_new, nil_upd, ?_⟩; conv => whnf) | (refine ⟨[_], _, [_], [], (by assumption), one_fk rfl, one_new rfl, nil_upd, ?_⟩; conv => whnf) | (refine ⟨[_], _, [], [_], (by assumption), one_fk rfl, nil_new, one_upd (List.mem_cons_self ..) rfl rfl rfl, ?_⟩; conv => whnf) | (refine ⟨[_, _], _, [], [_, _], (by assumption), two_fk rfl rfl, nil_new, two_upd (List.mem_cons_self ..) rfl rfl rfl (List.mem_cons_of_mem _ (List.mem_cons_self ..)) rfl rfl rfl, ?_⟩; conv => whnf) | (refine ⟨[_, _], _, [_, _], [], (by assumption), two_fk rfl rfl, two_new rfl rfl, nil_upd, ?_⟩; conv => whnf) | (refine ⟨_, [], [], [], op_pickT rfl (ev_ok rfl) (ev_ok rfl), nil_fk, nil_new, nil_upd, ?_⟩; conv => whnf) | (refine ⟨_, [], [], [], op_pickF rfl (ev_ok rfl) (ev_ok rfl), nil_fk, nil_new, nil_upd, ?_⟩; conv => whnf) | (rw [beq_self_eq_true]; conv => whnf) | (rw [bne_self_eq_false]; conv => whnf) | (rw [t1]; conv => whnf) | (rw [t2]; conv => whnf) | (rw [e1]; conv => whnf) | (rw [ho]; conv => whnf)))
        rw [e2]
        exact ⟨(wInts a).length - (i + 1), fun k => k, [4, 6, 7, 8, 30, 31], [4, 1001, 1002], by omega, by kernel_rfl, i + 1, _, _, rfl, by omega, hc', by simpa using hlen, hw.set (by omega) (by omega), hrest', hstep, rfl, rfl⟩
    · have hi' : i = (wInts a).length := by omega
      subst hi'
      have t1 : decide (((wInts a).length : Int) < ((wInts a).length : Int)) = false := decide_eq_false (by omega)
      rw [wInts_valge a (by omega), wInts_valge b (by omega)] at hval
      have hsum : (valI out (wInts a).length).toNat = a - b := by
        have h1 := valI_lt hw (wInts a).length
        have h2 := powW_pos (wInts a).length
        have hcc : c = 0 ∨ c = 1 := by omega
        rcases hcc with rfl | rfl <;> omega
      have kof := c_of out (wInts a).length (by omega) (by omega) hw 1001 true
      rw [hsum] at kof
      conv => whnf
      (repeat (first | (refine step_w1 rfl rfl ?_; conv => whnf) | (refine step_w2 rfl rfl ?_; conv => whnf) | (refine step_i (by kernel_rfl) ?_; conv => whnf) | (refine And.intro (by first | decide | omega | (simp only [tiB5, tiB22, tiB3, tiB2, tiB9, tiB55, tiB49, tiB28, tiB4, tiB66, tiB68]; omega)) ?_; conv => whnf) | (refine ⟨[], _, [], [], (by assumption), nil_fk, nil_new, nil_upd, ?_⟩; conv => whnf) | (refine ⟨[], _, [_], [], (by assumption), nil_fk, one_new rfl, nil_upd, ?_⟩; conv => whnf) | (refine ⟨[_], _, [], [], (by assumption), one_fk rfl, nil_new, nil_upd, ?_⟩; conv => whnf) | (refine ⟨[_, _], _, [], [], (by assumption), two_fk rfl rfl, nil_new, nil_upd, ?_⟩; conv => whnf) | (refine ⟨[_], _, [_], [], (by assumption), one_fk rfl, one_new rfl, nil_upd, ?_⟩; conv => whnf) | (refine ⟨[_], _, [], [_], (by assumption), one_fk rfl, nil_new, one_upd (List.mem_cons_self ..) rfl rfl rfl, ?_⟩; conv => whnf) | (refine ⟨[_, _], _, [], [_, _], (by assumption), two_fk rfl rfl, nil_new, two_upd (List.mem_cons_self ..) rfl rfl rfl (List.mem_cons_of_mem _ (List.mem_cons_self ..)) rfl rfl rfl, ?_⟩; conv => whnf) | (refine ⟨[_, _], _, [_, _], [], (by assumption), two_fk rfl rfl, two_new rfl rfl, nil_upd, ?_⟩; conv => whnf) | (refine ⟨_, [], [], [], op_pickT rfl (ev_ok rfl) (ev_ok rfl), nil_fk, nil_new, nil_upd, ?_⟩; conv => whnf) | (refine ⟨_, [], [], [], op_pickF rfl (ev_ok rfl) (ev_ok rfl), nil_fk, nil_new, nil_upd, ?_⟩; conv => whnf) | (rw [beq_self_eq_true]; conv => whnf) | (rw [bne_self_eq_false]; conv => whnf) | (rw [t1]; conv => whnf)))
      exact Recast.refl _
end Go.Proofs.YtghdcjhlhcoijaaDoor

/- Contracts: nats.Mul. -/
namespace Go.Proofs.YtghdcjhlhcoijaaDoor
open Go.Sx
set_option linter.unusedSimpArgs false
set_option linter.unusedVariables false
set_option maxRecDepth 100000
set_option maxHeartbeats 4000000

theorem four_words (p : Nat) (h : p < 340282366920938463463374607431768211456) :
    valI [((p % 18446744073709551616 % 4294967296 : Nat) : Int), ((p % 18446744073709551616 / 4294967296 : Nat) : Int), ((p / 18446744073709551616 % 4294967296 : Nat) : Int), ((p / 18446744073709551616 / 4294967296 : Nat) : Int)] 4 = p ∧
    W32 [((p % 18446744073709551616 % 4294967296 : Nat) : Int), ((p % 18446744073709551616 / 4294967296 : Nat) : Int), ((p / 18446744073709551616 % 4294967296 : Nat) : Int), ((p / 18446744073709551616 / 4294967296 : Nat) : Int)] := by
  constructor
  · simp only [valI, List.getD_cons_zero, List.getD_cons_succ, Int.pow_succ, Int.pow_zero]
    omega
  · refine W32_of fun x hx => ?_
    simp only [List.mem_cons, List.not_mem_nil, or_false] at hx
    rcases hx with rfl | rfl | rfl | rfl <;> omega

theorem c_Mul_s (a b : Nat) (ha : a < 18446744073709551616) (hb : b < 18446744073709551616) :
    CallOK Tryd.prog 60 [.nat a, .nat b] [] (.nat (a * b)) [] [] := by
  have k1 := c_Mul64 a b ha hb
  have hp : a * b < 340282366920938463463374607431768211456 := by
    have := Nat.mul_le_mul (show a ≤ 18446744073709551615 by omega) (show b ≤ 18446744073709551615 by omega)
    omega
  obtain ⟨h1, h2⟩ := four_words (a * b) hp
  have e1 : IntKind.u32.wrap ((a * b % 18446744073709551616 : Nat) : Int) = ((a * b % 18446744073709551616 % 4294967296 : Nat) : Int) := wu32m _
  have e2 : IntKind.u32.wrap (ishr .u64 ((a * b % 18446744073709551616 : Nat) : Int) 32) = ((a * b % 18446744073709551616 / 4294967296 : Nat) : Int) := by rw [ishr_hi, wu32 (by omega)]
  have e3 : IntKind.u32.wrap ((a * b / 18446744073709551616 : Nat) : Int) = ((a * b / 18446744073709551616 % 4294967296 : Nat) : Int) := wu32m _
  have e4 : IntKind.u32.wrap (ishr .u64 ((a * b / 18446744073709551616 : Nat) : Int) 32) = ((a * b / 18446744073709551616 / 4294967296 : Nat) : Int) := by rw [ishr_hi, wu32 (by omega)]
  have so := c_of _ 4 (by simp) (by simp) h2 41 true
  rw [h1, Int.toNat_natCast] at so
  refine callV (Z := []) tabOK mixedOK Tryd.func60 rfl (by kernel_rfl) rfl rfl (by kernel_rfl) rfl ?_
  intro W0 w0 ρ0 hE
  conv => whnf
  rw [big_eq, decide_eq_true ha]
  (repeat (first | (refine step_w1 rfl rfl ?_; conv => whnf) | (refine step_w2 rfl rfl ?_; conv => whnf) | (refine step_i (by kernel_rfl) ?_; conv => whnf) | (refine And.intro (by first | decide | omega | (simp only [tiB5, tiB22, tiB3, tiB2, tiB9, tiB55, tiB49, tiB28, tiB4, tiB66, tiB68]; omega)) ?_; conv => whnf) | (refine ⟨[], _, [], [], (by assumption), nil_fk, nil_new, nil_upd, ?_⟩; conv => whnf) | (refine ⟨[], _, [_], [], (by assumption), nil_fk, one_new rfl, nil_upd, ?_⟩; conv => whnf) | (refine ⟨[_], _, [], [], (by assumption), one_fk rfl, nil_new, nil_upd, ?_⟩; conv => whnf) | (refine ⟨[_, _], _, [], [], (by assumption), two_fk rfl rfl, nil_new, nil_upd, ?_⟩; conv => whnf) | (refine ⟨[_], _, [_], [], (by assumption), one_fk rfl, one_new rfl, nil_upd, ?_⟩; conv => whnf) | (refine ⟨[_], _, [], [_], (by assumption), one_fk rfl, nil_new, one_upd (List.mem_cons_self ..) rfl rfl rfl, ?_⟩; conv => whnf) | (refine ⟨[_, _], _, [], [_, _], (by assumption), two_fk rfl rfl, nil_new, two_upd (List.mem_cons_self ..) rfl rfl rfl (List.mem_cons_of_mem _ (List.mem_cons_self ..)) rfl rfl rfl, ?_⟩; conv => whnf) | (refine ⟨[_, _], _, [_, _], [], (by assumption), two_fk rfl rfl, two_new rfl rfl, nil_upd, ?_⟩; conv => whnf) | (refine ⟨_, [], [], [], op_pickT rfl (ev_ok rfl) (ev_ok rfl), nil_fk, nil_new, nil_upd, ?_⟩; conv => whnf) | (refine ⟨_, [], [], [], op_pickF rfl (ev_ok rfl) (ev_ok rfl), nil_fk, nil_new, nil_upd, ?_⟩; conv => whnf) | (rw [beq_self_eq_true]; conv => whnf) | (rw [bne_self_eq_false]; conv => whnf)))
  rw [big_eq, decide_eq_true hb]
  (repeat (first | (refine step_w1 rfl rfl ?_; conv => whnf) | (refine step_w2 rfl rfl ?_; conv => whnf) | (refine step_i (by kernel_rfl) ?_; conv => whnf) | (refine And.intro (by first | decide | omega | (simp only [tiB5, tiB22, tiB3, tiB2, tiB9, tiB55, tiB49, tiB28, tiB4, tiB66, tiB68]; omega)) ?_; conv => whnf) | (refine ⟨[], _, [], [], (by assumption), nil_fk, nil_new, nil_upd, ?_⟩; conv => whnf) | (refine ⟨[], _, [_], [], (by assumption), nil_fk, one_new rfl, nil_upd, ?_⟩; conv => whnf) | (refine ⟨[_], _, [], [], (by assumption), one_fk rfl, nil_new, nil_upd, ?_⟩; conv => whnf) | (refine ⟨[_, _], _, [], [], (by assumption), two_fk rfl rfl, nil_new, nil_upd, ?_⟩; conv => whnf) | (refine ⟨[_], _, [_], [], (by assumption), one_fk rfl, one_new rfl, nil_upd, ?_⟩; conv => whnf) | (refine ⟨[_], _, [], [_], (by assumption), one_fk rfl, nil_new, one_upd (List.mem_cons_self ..) rfl rfl rfl, ?_⟩; conv => whnf) | (refine ⟨[_, _], _, [], [_, _], (by assumption), two_fk rfl rfl, nil_new, two_upd (List.mem_cons_self ..) rfl rfl rfl (List.mem_cons_of_mem _ (List.mem_cons_self ..)) rfl rfl rfl, ?_⟩; conv => whnf) | (refine ⟨[_, _], _, [_, _], [], (by assumption), two_fk rfl rfl, two_new rfl rfl, nil_upd, ?_⟩; conv => whnf) | (refine ⟨_, [], [], [], op_pickT rfl (ev_ok rfl) (ev_ok rfl), nil_fk, nil_new, nil_upd, ?_⟩; conv => whnf) | (refine ⟨_, [], [], [], op_pickF rfl (ev_ok rfl) (ev_ok rfl), nil_fk, nil_new, nil_upd, ?_⟩; conv => whnf) | (rw [beq_self_eq_true]; conv => whnf) | (rw [bne_self_eq_false]; conv => whnf) | (rw [low_small ha]; conv => whnf) | (rw [low_small hb]; conv => whnf) | (rw [e1]; conv => whnf) | (rw [e2]; conv => whnf) | (rw [e3]; conv => whnf) | (rw [e4]; conv => whnf)))
  exact Recast.refl _

theorem mul_step {out o2 Y : List Int} {i k o w v c : Nat} (hi : i + k < o2.length) (ho : o2.getD (i + k) 0 = o) (hout : out.getD (i + k) 0 = o) (hY : Y.getD k 0 = v)
    (hv : valI o2 (i + k) + c * 4294967296 ^ (i + k) = valI out (i + k) + w * 4294967296 ^ i * valI Y k) :
    valI (o2.set (i + k) (((c + (w * v + o)) % 4294967296 : Nat) : Int)) (i + (k + 1)) + (((c + (w * v + o)) / 4294967296 : Nat) : Int) * 4294967296 ^ (i + (k + 1)) = valI out (i + (k + 1)) + w * 4294967296 ^ i * valI Y (k + 1) := by
  rw [show i + (k + 1) = (i + k) + 1 from by omega, valI, valI, valI, valI_set_ge (Nat.le_refl _), getD_set, if_pos ⟨rfl, hi⟩, hout, hY, Int.pow_succ]
  have hd : (((c + (w * v + o)) % 4294967296 : Nat) : Int) = (c : Int) + (w * v + o) - (((c + (w * v + o)) / 4294967296 : Nat) : Int) * 4294967296 := by
    have := Nat.div_add_mod (c + (w * v + o)) 4294967296
    have h2 : ((w * v : Nat) : Int) = (w : Int) * v := Int.natCast_mul _ _
    omega
  rw [hd]
  rw [Int.pow_add] at hv ⊢
  generalize (((c + (w * v + o)) / 4294967296 : Nat) : Int) = q
  generalize (4294967296 : Int) ^ i = P at *
  generalize (4294967296 : Int) ^ k = Q at *
  grind

theorem mul_row {out o2 X : List Int} {i l w c b : Nat} {Y : List Int} (hi : i + l < o2.length) (ho : o2.getD (i + l) 0 = 0) (hX : X.getD i 0 = w) (hY : valI Y l = b)
    (hval : valI out (i + l) = valI X i * b) (hv : valI o2 (i + l) + c * 4294967296 ^ (i + l) = valI out (i + l) + w * 4294967296 ^ i * valI Y l) :
    valI (o2.set (i + l) (c : Int)) (i + l + 1) = valI X (i + 1) * b := by
  rw [valI, valI, valI_set_ge (Nat.le_refl _), getD_set, if_pos ⟨rfl, hi⟩, hX, hv, hval, hY]
  generalize (4294967296 : Int) ^ i = P at *
  grind


theorem n_Mul (a b : Nat) (ha : (wInts a).length < 274877906944) (hb : (wInts b).length < 274877906944) :
    CallOK Tryd.prog 60 [.nat a, .nat b] [] (.nat (a * b)) [] [] := by
  by_cases hs : a < 18446744073709551616 ∧ b < 18446744073709551616
  · exact c_Mul_s a b hs.1 hs.2
  · have ka := c_words a 1001 (by omega)
    have kb := c_words b 1002 (by omega)
    have ew : IntKind.i64.wrap (((wInts a).length : Int) + ((wInts b).length : Int)) = (((wInts a).length + (wInts b).length : Nat) : Int) := by rw [wrap_i64 (by omega) (by omega)]; omega
    refine callV (Z := []) tabOK mixedOK Tryd.func60 rfl (by kernel_rfl) rfl rfl (by kernel_rfl) rfl ?_
    intro W0 w0 ρ0 hE
    conv => whnf
    by_cases h1 : a < 18446744073709551616
    · rw [big_eq, decide_eq_true h1]
      (repeat (first | (refine step_w1 rfl rfl ?_; conv => whnf) | (refine step_w2 rfl rfl ?_; conv => whnf) | (refine step_i (by kernel_rfl) ?_; conv => whnf) | (refine And.intro (by first | decide | omega | (simp only [tiB5, tiB22, tiB3, tiB2, tiB9, tiB55, tiB49, tiB28, tiB4, tiB66, tiB68]; omega)) ?_; conv => whnf) | (refine ⟨[], _, [], [], (by assumption), nil_fk, nil_new, nil_upd, ?_⟩; conv => whnf) | (refine ⟨[], _, [_], [], (by assumption), nil_fk, one_new rfl, nil_upd, ?_⟩; conv => whnf) | (refine ⟨[_], _, [], [], (by assumption), one_fk rfl, nil_new, nil_upd, ?_⟩; conv => whnf) | (refine ⟨[_, _], _, [], [], (by assumption), two_fk rfl rfl, nil_new, nil_upd, ?_⟩; conv => whnf) | (refine ⟨[_], _, [_], [], (by assumption), one_fk rfl, one_new rfl, nil_upd, ?_⟩; conv => whnf) | (refine ⟨[_], _, [], [_], (by assumption), one_fk rfl, nil_new, one_upd (List.mem_cons_self ..) rfl rfl rfl, ?_⟩; conv => whnf) | (refine ⟨[_, _], _, [], [_, _], (by assumption), two_fk rfl rfl, nil_new, two_upd (List.mem_cons_self ..) rfl rfl rfl (List.mem_cons_of_mem _ (List.mem_cons_self ..)) rfl rfl rfl, ?_⟩; conv => whnf) | (refine ⟨[_, _], _, [_, _], [], (by assumption), two_fk rfl rfl, two_new rfl rfl, nil_upd, ?_⟩; conv => whnf) | (refine ⟨_, [], [], [], op_pickT rfl (ev_ok rfl) (ev_ok rfl), nil_fk, nil_new, nil_upd, ?_⟩; conv => whnf) | (refine ⟨_, [], [], [], op_pickF rfl (ev_ok rfl) (ev_ok rfl), nil_fk, nil_new, nil_upd, ?_⟩; conv => whnf) | (rw [beq_self_eq_true]; conv => whnf) | (rw [bne_self_eq_false]; conv => whnf)))
      rw [big_eq, decide_eq_false (show ¬ b < 18446744073709551616 by omega)]
      (repeat (first | (refine step_w1 rfl rfl ?_; conv => whnf) | (refine step_w2 rfl rfl ?_; conv => whnf) | (refine step_i (by kernel_rfl) ?_; conv => whnf) | (refine And.intro (by first | decide | omega | (simp only [tiB5, tiB22, tiB3, tiB2, tiB9, tiB55, tiB49, tiB28, tiB4, tiB66, tiB68]; omega)) ?_; conv => whnf) | (refine ⟨[], _, [], [], (by assumption), nil_fk, nil_new, nil_upd, ?_⟩; conv => whnf) | (refine ⟨[], _, [_], [], (by assumption), nil_fk, one_new rfl, nil_upd, ?_⟩; conv => whnf) | (refine ⟨[_], _, [], [], (by assumption), one_fk rfl, nil_new, nil_upd, ?_⟩; conv => whnf) | (refine ⟨[_, _], _, [], [], (by assumption), two_fk rfl rfl, nil_new, nil_upd, ?_⟩; conv => whnf) | (refine ⟨[_], _, [_], [], (by assumption), one_fk rfl, one_new rfl, nil_upd, ?_⟩; conv => whnf) | (refine ⟨[_], _, [], [_], (by assumption), one_fk rfl, nil_new, one_upd (List.mem_cons_self ..) rfl rfl rfl, ?_⟩; conv => whnf) | (refine ⟨[_, _], _, [], [_, _], (by assumption), two_fk rfl rfl, nil_new, two_upd (List.mem_cons_self ..) rfl rfl rfl (List.mem_cons_of_mem _ (List.mem_cons_self ..)) rfl rfl rfl, ?_⟩; conv => whnf) | (refine ⟨[_, _], _, [_, _], [], (by assumption), two_fk rfl rfl, two_new rfl rfl, nil_upd, ?_⟩; conv => whnf) | (refine ⟨_, [], [], [], op_pickT rfl (ev_ok rfl) (ev_ok rfl), nil_fk, nil_new, nil_upd, ?_⟩; conv => whnf) | (refine ⟨_, [], [], [], op_pickF rfl (ev_ok rfl) (ev_ok rfl), nil_fk, nil_new, nil_upd, ?_⟩; conv => whnf) | (rw [beq_self_eq_true]; conv => whnf) | (rw [bne_self_eq_false]; conv => whnf) | (rw [ew]; conv => whnf)))
      refine SW_loopN hE (fun k => k) [4, 8, 9, 53, 54, 55] [4, 1001, 1002, 52] (fun m fr hp => ∃ (i : Nat) (out : List Int), m = (wInts a).length - i ∧ i ≤ (wInts a).length ∧ out.length = (wInts a).length + (wInts b).length ∧ W32 out ∧ (∀ j, i + (wInts b).length ≤ j → out.getD j 0 = 0) ∧ valI out (i + (wInts b).length) = valI (wInts a) i * b ∧
        fr = [(4, .ptr 4 0 0 0), (8, .slc 1002 1 0 (wInts b).length), (9, .slc 52 1 0 ((wInts a).length + (wInts b).length)), (53, .slc 1001 1 0 (wInts a).length), (54, .val (.int .i64 ((wInts a).length : Nat))), (55, .val (.int .i64 i))] ∧ hp = [(4, ⟨45, true, .one [.nat 0]⟩), (1001, ⟨22, true, .ints .u32 (wArr a)⟩), (1002, ⟨22, true, .ints .u32 (wArr b)⟩), (52, ⟨22, true, .ints .u32 out⟩)]) (wInts a).length ?_ ?_ ?_
      · kernel_rfl
      · exact ⟨0, List.replicate ((wInts a).length + (wInts b).length) 0, rfl, by omega, by simp, (fun i => by rw [getD_replicate]; decide), (fun j _ => getD_replicate), by rw [valI_zeros (k := 0) (fun i _ _ => getD_replicate) (by omega)]; simp [valI], rfl, rfl⟩
      rintro m _ _ ⟨i, out, rfl, hi, hlen, hw, hz, hval, rfl, rfl⟩
      by_cases hlt : i < (wInts a).length
      · have t1 : decide ((i : Int) < ((wInts a).length : Int)) = true := decide_eq_true (by omega)
        have e1 : 0 + (i : Int).toNat = i := by omega
        have e2 : IntKind.i64.wrap ((i : Int) + 1) = ((i + 1 : Nat) : Int) := by rw [wrap_i64 (by omega) (by omega)]; omega
        obtain ⟨w, hww⟩ := Int.eq_ofNat_of_zero_le (wInts_w32 a i).1
        have hw2 := (wInts_w32 a i).2
        have hal := wArr_len a
        have e3 : (wArr a).getD i 0 = (w : Int) := by rw [wArr_get hlt]; exact hww
        conv => whnf
        (repeat (first | (refine step_w1 rfl rfl ?_; conv => whnf) | (refine step_w2 rfl rfl ?_; conv => whnf) | (refine step_i (by kernel_rfl) ?_; conv => whnf) | (refine And.intro (by first | decide | omega | (simp only [tiB5, tiB22, tiB3, tiB2, tiB9, tiB55, tiB49, tiB28, tiB4, tiB66, tiB68]; omega)) ?_; conv => whnf) | (refine ⟨[], _, [], [], (by assumption), nil_fk, nil_new, nil_upd, ?_⟩; conv => whnf) | (refine ⟨[], _, [_], [], (by assumption), nil_fk, one_new rfl, nil_upd, ?_⟩; conv => whnf) | (refine ⟨[_], _, [], [], (by assumption), one_fk rfl, nil_new, nil_upd, ?_⟩; conv => whnf) | (refine ⟨[_, _], _, [], [], (by assumption), two_fk rfl rfl, nil_new, nil_upd, ?_⟩; conv => whnf) | (refine ⟨[_], _, [_], [], (by assumption), one_fk rfl, one_new rfl, nil_upd, ?_⟩; conv => whnf) | (refine ⟨[_], _, [], [_], (by assumption), one_fk rfl, nil_new, one_upd (List.mem_cons_self ..) rfl rfl rfl, ?_⟩; conv => whnf) | (refine ⟨[_, _], _, [], [_, _], (by assumption), two_fk rfl rfl, nil_new, two_upd (List.mem_cons_self ..) rfl rfl rfl (List.mem_cons_of_mem _ (List.mem_cons_self ..)) rfl rfl rfl, ?_⟩; conv => whnf) | (refine ⟨[_, _], _, [_, _], [], (by assumption), two_fk rfl rfl, two_new rfl rfl, nil_upd, ?_⟩; conv => whnf) | (refine ⟨_, [], [], [], op_pickT rfl (ev_ok rfl) (ev_ok rfl), nil_fk, nil_new, nil_upd, ?_⟩; conv => whnf) | (refine ⟨_, [], [], [], op_pickF rfl (ev_ok rfl) (ev_ok rfl), nil_fk, nil_new, nil_upd, ?_⟩; conv => whnf) | (rw [beq_self_eq_true]; conv => whnf) | (rw [bne_self_eq_false]; conv => whnf) | (rw [t1]; conv => whnf) | (rw [e1]; conv => whnf) | (rw [e3]; conv => whnf)))
        refine SW_loopN hE (fun k => k) [4, 8, 9, 10, 11, 12, 53, 54, 55, 60, 61, 62] [4, 1001, 1002, 52] (fun m fr hp => ∃ (k : Nat) (o2 : List Int) (c : Nat), m = (wInts b).length - k ∧ k ≤ (wInts b).length ∧ c < 4294967296 ∧ o2.length = (wInts a).length + (wInts b).length ∧ W32 o2 ∧ (∀ j, i + k ≤ j → o2.getD j 0 = out.getD j 0) ∧ valI o2 (i + k) + c * 4294967296 ^ (i + k) = valI out (i + k) + w * 4294967296 ^ i * valI (wInts b) k ∧
          fr = [(4, .ptr 4 0 0 0), (8, .slc 1002 1 0 (wInts b).length), (9, .slc 52 1 0 ((wInts a).length + (wInts b).length)), (10, .val (.int .i64 i)), (11, .val (.int .u32 w)), (12, .val (.int .u64 c)), (53, .slc 1001 1 0 (wInts a).length), (54, .val (.int .i64 ((wInts a).length : Nat))), (55, .val (.int .i64 i)), (60, .slc 1002 1 0 (wInts b).length), (61, .val (.int .i64 ((wInts b).length : Nat))), (62, .val (.int .i64 k))] ∧ hp = [(4, ⟨45, true, .one [.nat 0]⟩), (1001, ⟨22, true, .ints .u32 (wArr a)⟩), (1002, ⟨22, true, .ints .u32 (wArr b)⟩), (52, ⟨22, true, .ints .u32 o2⟩)]) (wInts b).length ?_ ?_ ?_
        · kernel_rfl
        · exact ⟨0, out, 0, rfl, by omega, by omega, hlen, hw, (fun j _ => rfl), by simp [valI], rfl, rfl⟩
        rintro m _ _ ⟨k, o2, c, rfl, hk, hc, hlen2, hw2', hrest, hval2, rfl, rfl⟩
        have e4 : IntKind.i64.wrap ((k : Int) + 1) = ((k + 1 : Nat) : Int) := by rw [wrap_i64 (by omega) (by omega)]; omega
        have hbl := wArr_len b
        by_cases hklt : k < (wInts b).length
        · have t2 : decide ((k : Int) < ((wInts b).length : Int)) = true := decide_eq_true (by omega)
          have e5 : 0 + (k : Int).toNat = k := by omega
          have e6 : IntKind.i64.wrap ((i : Int) + k) = ((i + k : Nat) : Int) := by rw [wrap_i64 (by omega) (by omega)]; omega
          have e7 : 0 + ((i + k : Nat) : Int).toNat = i + k := by omega
          obtain ⟨v, hvv⟩ := Int.eq_ofNat_of_zero_le (wInts_w32 b k).1
          have hv2 := (wInts_w32 b k).2
          obtain ⟨o, ho⟩ := Int.eq_ofNat_of_zero_le (hw2' (i + k)).1
          have ho2 := (hw2' (i + k)).2
          have e8 : (wArr b).getD k 0 = (v : Int) := by rw [wArr_get hklt]; exact hvv
          have hpv : w * v ≤ 4294967295 * 4294967295 := Nat.mul_le_mul (by omega) (by omega)
          have e9 : IntKind.u64.wrap ((c : Int) + IntKind.u64.wrap (IntKind.u64.wrap (IntKind.u64.wrap (w : Int) * IntKind.u64.wrap (v : Int)) + IntKind.u64.wrap (o : Int))) = ((c + (w * v + o) : Nat) : Int) := by
            rw [wu64 (n := w) (by omega), wu64 (n := v) (by omega), wu64 (n := o) (by omega), ← Int.natCast_mul, wu64 (n := w * v) (by omega), ← Int.natCast_add, wu64 (n := w * v + o) (by omega), ← Int.natCast_add, wu64 (by omega)]
          have e10 : IntKind.u32.wrap ((c + (w * v + o) : Nat) : Int) = (((c + (w * v + o)) % 4294967296 : Nat) : Int) := wu32m _
          have e11 : ishr .u64 ((c + (w * v + o) : Nat) : Int) 32 = (((c + (w * v + o)) / 4294967296 : Nat) : Int) := ishr_hi _
          have hc' : (c + (w * v + o)) / 4294967296 < 4294967296 := by omega
          have hstep := mul_step (i := i) (k := k) (Y := wInts b) (by omega) ho (by rw [← hrest (i + k) (Nat.le_refl _)]; exact ho) hvv hval2
          conv => whnf
          (repeat (first | (refine step_w1 rfl rfl ?_; conv => whnf) | (refine step_w2 rfl rfl ?_; conv => whnf) | (refine step_i (by kernel_rfl) ?_; conv => whnf) | (refine And.intro (by first | decide | omega | (simp only [tiB5, tiB22, tiB3, tiB2, tiB9, tiB55, tiB49, tiB28, tiB4, tiB66, tiB68]; omega)) ?_; conv => whnf) | (refine ⟨[], _, [], [], (by assumption), nil_fk, nil_new, nil_upd, ?_⟩; conv => whnf) | (refine ⟨[], _, [_], [], (by assumption), nil_fk, one_new rfl, nil_upd, ?_⟩; conv => whnf) | (refine ⟨[_], _, [], [], (by assumption), one_fk rfl, nil_new, nil_upd, ?_⟩; conv => whnf) | (refine ⟨[_, _], _, [], [], (by assumption), two_fk rfl rfl, nil_new, nil_upd, ?_⟩; conv => whnf) | (refine ⟨[_], _, [_], [], (by assumption), one_fk rfl, one_new rfl, nil_upd, ?_⟩; conv => whnf) | (refine ⟨[_], _, [], [_], (by assumption), one_fk rfl, nil_new, one_upd (List.mem_cons_self ..) rfl rfl rfl, ?_⟩; conv => whnf) | (refine ⟨[_, _], _, [], [_, _], (by assumption), two_fk rfl rfl, nil_new, two_upd (List.mem_cons_self ..) rfl rfl rfl (List.mem_cons_of_mem _ (List.mem_cons_self ..)) rfl rfl rfl, ?_⟩; conv => whnf) | (refine ⟨[_, _], _, [_, _], [], (by assumption), two_fk rfl rfl, two_new rfl rfl, nil_upd, ?_⟩; conv => whnf) | (refine ⟨_, [], [], [], op_pickT rfl (ev_ok rfl) (ev_ok rfl), nil_fk, nil_new, nil_upd, ?_⟩; conv => whnf) | (refine ⟨_, [], [], [], op_pickF rfl (ev_ok rfl) (ev_ok rfl), nil_fk, nil_new, nil_upd, ?_⟩; conv => whnf) | (rw [beq_self_eq_true]; conv => whnf) | (rw [bne_self_eq_false]; conv => whnf) | (rw [t2]; conv => whnf) | (rw [e5]; conv => whnf) | (rw [e8]; conv => whnf) | (rw [e6]; conv => whnf) | (rw [e7]; conv => whnf) | (rw [ho]; conv => whnf) | (rw [e9]; conv => whnf) | (rw [e10]; conv => whnf) | (rw [e11]; conv => whnf) | (rw [e4]; conv => whnf)))
          exact ⟨(wInts b).length - (k + 1), fun k => k, [4, 8, 9, 10, 11, 12, 53, 54, 55, 60, 61, 62], [4, 1001, 1002, 52], by omega, by kernel_rfl, k + 1, _, _, rfl, by omega, hc', by simpa using hlen2, hw2'.set (by omega) (by omega), (fun j hj => by rw [getD_set, if_neg (by omega)]; exact hrest j (by omega)), hstep, rfl, rfl⟩
        · have hk' : k = (wInts b).length := by omega
          subst hk'
          have t2 : decide (((wInts b).length : Int) < ((wInts b).length : Int)) = false := decide_eq_false (by omega)
          have e6 : IntKind.i64.wrap ((i : Int) + ((wInts b).length : Int)) = ((i + (wInts b).length : Nat) : Int) := by rw [wrap_i64 (by omega) (by omega)]; omega
          have e7 : 0 + ((i + (wInts b).length : Nat) : Int).toNat = i + (wInts b).length := by omega
          have e8 : IntKind.u32.wrap (c : Int) = (c : Int) := wu32 hc
          have hfin := mul_row (X := wInts a) (o2 := o2) (by omega) (by rw [hrest _ (Nat.le_refl _)]; exact hz _ (Nat.le_refl _)) hww (wInts_val b) hval hval2
          conv => whnf
          (repeat (first | (refine step_w1 rfl rfl ?_; conv => whnf) | (refine step_w2 rfl rfl ?_; conv => whnf) | (refine step_i (by kernel_rfl) ?_; conv => whnf) | (refine And.intro (by first | decide | omega | (simp only [tiB5, tiB22, tiB3, tiB2, tiB9, tiB55, tiB49, tiB28, tiB4, tiB66, tiB68]; omega)) ?_; conv => whnf) | (refine ⟨[], _, [], [], (by assumption), nil_fk, nil_new, nil_upd, ?_⟩; conv => whnf) | (refine ⟨[], _, [_], [], (by assumption), nil_fk, one_new rfl, nil_upd, ?_⟩; conv => whnf) | (refine ⟨[_], _, [], [], (by assumption), one_fk rfl, nil_new, nil_upd, ?_⟩; conv => whnf) | (refine ⟨[_, _], _, [], [], (by assumption), two_fk rfl rfl, nil_new, nil_upd, ?_⟩; conv => whnf) | (refine ⟨[_], _, [_], [], (by assumption), one_fk rfl, one_new rfl, nil_upd, ?_⟩; conv => whnf) | (refine ⟨[_], _, [], [_], (by assumption), one_fk rfl, nil_new, one_upd (List.mem_cons_self ..) rfl rfl rfl, ?_⟩; conv => whnf) | (refine ⟨[_, _], _, [], [_, _], (by assumption), two_fk rfl rfl, nil_new, two_upd (List.mem_cons_self ..) rfl rfl rfl (List.mem_cons_of_mem _ (List.mem_cons_self ..)) rfl rfl rfl, ?_⟩; conv => whnf) | (refine ⟨[_, _], _, [_, _], [], (by assumption), two_fk rfl rfl, two_new rfl rfl, nil_upd, ?_⟩; conv => whnf) | (refine ⟨_, [], [], [], op_pickT rfl (ev_ok rfl) (ev_ok rfl), nil_fk, nil_new, nil_upd, ?_⟩; conv => whnf) | (refine ⟨_, [], [], [], op_pickF rfl (ev_ok rfl) (ev_ok rfl), nil_fk, nil_new, nil_upd, ?_⟩; conv => whnf) | (rw [beq_self_eq_true]; conv => whnf) | (rw [bne_self_eq_false]; conv => whnf) | (rw [t2]; conv => whnf) | (rw [e6]; conv => whnf) | (rw [e7]; conv => whnf) | (rw [e8]; conv => whnf) | (rw [e2]; conv => whnf)))
          exact ⟨(wInts a).length - (i + 1), fun k => k, [4, 8, 9, 53, 54, 55], [4, 1001, 1002, 52], by omega, by kernel_rfl, i + 1, _, rfl, by omega, by simpa using hlen2, hw2'.set (by omega) (by omega), (fun j hj => by rw [getD_set, if_neg (by omega), hrest j (by omega)]; exact hz j (by omega)), by rw [show i + 1 + (wInts b).length = i + (wInts b).length + 1 from by omega]; exact hfin, rfl, rfl⟩
      · have hi' : i = (wInts a).length := by omega
        subst hi'
        have t1 : decide (((wInts a).length : Int) < ((wInts a).length : Int)) = false := decide_eq_false (by omega)
        rw [wInts_val] at hval
        have hsum : (valI out ((wInts a).length + (wInts b).length)).toNat = a * b := by
          rw [hval, ← Int.natCast_mul, Int.toNat_natCast]
        have kof := c_of out ((wInts a).length + (wInts b).length) (by omega) (by omega) hw 52 true
        rw [hsum] at kof
        conv => whnf
        (repeat (first | (refine step_w1 rfl rfl ?_; conv => whnf) | (refine step_w2 rfl rfl ?_; conv => whnf) | (refine step_i (by kernel_rfl) ?_; conv => whnf) | (refine And.intro (by first | decide | omega | (simp only [tiB5, tiB22, tiB3, tiB2, tiB9, tiB55, tiB49, tiB28, tiB4, tiB66, tiB68]; omega)) ?_; conv => whnf) | (refine ⟨[], _, [], [], (by assumption), nil_fk, nil_new, nil_upd, ?_⟩; conv => whnf) | (refine ⟨[], _, [_], [], (by assumption), nil_fk, one_new rfl, nil_upd, ?_⟩; conv => whnf) | (refine ⟨[_], _, [], [], (by assumption), one_fk rfl, nil_new, nil_upd, ?_⟩; conv => whnf) | (refine ⟨[_, _], _, [], [], (by assumption), two_fk rfl rfl, nil_new, nil_upd, ?_⟩; conv => whnf) | (refine ⟨[_], _, [_], [], (by assumption), one_fk rfl, one_new rfl, nil_upd, ?_⟩; conv => whnf) | (refine ⟨[_], _, [], [_], (by assumption), one_fk rfl, nil_new, one_upd (List.mem_cons_self ..) rfl rfl rfl, ?_⟩; conv => whnf) | (refine ⟨[_, _], _, [], [_, _], (by assumption), two_fk rfl rfl, nil_new, two_upd (List.mem_cons_self ..) rfl rfl rfl (List.mem_cons_of_mem _ (List.mem_cons_self ..)) rfl rfl rfl, ?_⟩; conv => whnf) | (refine ⟨[_, _], _, [_, _], [], (by assumption), two_fk rfl rfl, two_new rfl rfl, nil_upd, ?_⟩; conv => whnf) | (refine ⟨_, [], [], [], op_pickT rfl (ev_ok rfl) (ev_ok rfl), nil_fk, nil_new, nil_upd, ?_⟩; conv => whnf) | (refine ⟨_, [], [], [], op_pickF rfl (ev_ok rfl) (ev_ok rfl), nil_fk, nil_new, nil_upd, ?_⟩; conv => whnf) | (rw [beq_self_eq_true]; conv => whnf) | (rw [bne_self_eq_false]; conv => whnf) | (rw [t1]; conv => whnf)))
        exact Recast.refl _
    · rw [big_eq, decide_eq_false h1]
      (repeat (first | (refine step_w1 rfl rfl ?_; conv => whnf) | (refine step_w2 rfl rfl ?_; conv => whnf) | (refine step_i (by kernel_rfl) ?_; conv => whnf) | (refine And.intro (by first | decide | omega | (simp only [tiB5, tiB22, tiB3, tiB2, tiB9, tiB55, tiB49, tiB28, tiB4, tiB66, tiB68]; omega)) ?_; conv => whnf) | (refine ⟨[], _, [], [], (by assumption), nil_fk, nil_new, nil_upd, ?_⟩; conv => whnf) | (refine ⟨[], _, [_], [], (by assumption), nil_fk, one_new rfl, nil_upd, ?_⟩; conv => whnf) | (refine ⟨[_], _, [], [], (by assumption), one_fk rfl, nil_new, nil_upd, ?_⟩; conv => whnf) | (refine ⟨[_, _], _, [], [], (by assumption), two_fk rfl rfl, nil_new, nil_upd, ?_⟩; conv => whnf) | (refine ⟨[_], _, [_], [], (by assumption), one_fk rfl, one_new rfl, nil_upd, ?_⟩; conv => whnf) | (refine ⟨[_], _, [], [_], (by assumption), one_fk rfl, nil_new, one_upd (List.mem_cons_self ..) rfl rfl rfl, ?_⟩; conv => whnf) | (refine ⟨[_, _], _, [], [_, _], (by assumption), two_fk rfl rfl, nil_new, two_upd (List.mem_cons_self ..) rfl rfl rfl (List.mem_cons_of_mem _ (List.mem_cons_self ..)) rfl rfl rfl, ?_⟩; conv => whnf) | (refine ⟨[_, _], _, [_, _], [], (by assumption), two_fk rfl rfl, two_new rfl rfl, nil_upd, ?_⟩; conv => whnf) | (refine ⟨_, [], [], [], op_pickT rfl (ev_ok rfl) (ev_ok rfl), nil_fk, nil_new, nil_upd, ?_⟩; conv => whnf) | (refine ⟨_, [], [], [], op_pickF rfl (ev_ok rfl) (ev_ok rfl), nil_fk, nil_new, nil_upd, ?_⟩; conv => whnf) | (rw [beq_self_eq_true]; conv => whnf) | (rw [bne_self_eq_false]; conv => whnf) | (rw [ew]; conv => whnf)))
      refine SW_loopN hE (fun k => k) [4, 8, 9, 53, 54, 55] [4, 1001, 1002, 52] (fun m fr hp => ∃ (i : Nat) (out : List Int), m = (wInts a).length - i ∧ i ≤ (wInts a).length ∧ out.length = (wInts a).length + (wInts b).length ∧ W32 out ∧ (∀ j, i + (wInts b).length ≤ j → out.getD j 0 = 0) ∧ valI out (i + (wInts b).length) = valI (wInts a) i * b ∧
        fr = [(4, .ptr 4 0 0 0), (8, .slc 1002 1 0 (wInts b).length), (9, .slc 52 1 0 ((wInts a).length + (wInts b).length)), (53, .slc 1001 1 0 (wInts a).length), (54, .val (.int .i64 ((wInts a).length : Nat))), (55, .val (.int .i64 i))] ∧ hp = [(4, ⟨45, true, .one [.nat 0]⟩), (1001, ⟨22, true, .ints .u32 (wArr a)⟩), (1002, ⟨22, true, .ints .u32 (wArr b)⟩), (52, ⟨22, true, .ints .u32 out⟩)]) (wInts a).length ?_ ?_ ?_
      · kernel_rfl
      · exact ⟨0, List.replicate ((wInts a).length + (wInts b).length) 0, rfl, by omega, by simp, (fun i => by rw [getD_replicate]; decide), (fun j _ => getD_replicate), by rw [valI_zeros (k := 0) (fun i _ _ => getD_replicate) (by omega)]; simp [valI], rfl, rfl⟩
      rintro m _ _ ⟨i, out, rfl, hi, hlen, hw, hz, hval, rfl, rfl⟩
      by_cases hlt : i < (wInts a).length
      · have t1 : decide ((i : Int) < ((wInts a).length : Int)) = true := decide_eq_true (by omega)
        have e1 : 0 + (i : Int).toNat = i := by omega
        have e2 : IntKind.i64.wrap ((i : Int) + 1) = ((i + 1 : Nat) : Int) := by rw [wrap_i64 (by omega) (by omega)]; omega
        obtain ⟨w, hww⟩ := Int.eq_ofNat_of_zero_le (wInts_w32 a i).1
        have hw2 := (wInts_w32 a i).2
        have hal := wArr_len a
        have e3 : (wArr a).getD i 0 = (w : Int) := by rw [wArr_get hlt]; exact hww
        conv => whnf
        (repeat (first | (refine step_w1 rfl rfl ?_; conv => whnf) | (refine step_w2 rfl rfl ?_; conv => whnf) | (refine step_i (by kernel_rfl) ?_; conv => whnf) | (refine And.intro (by first | decide | omega | (simp only [tiB5, tiB22, tiB3, tiB2, tiB9, tiB55, tiB49, tiB28, tiB4, tiB66, tiB68]; omega)) ?_; conv => whnf) | (refine ⟨[], _, [], [], (by assumption), nil_fk, nil_new, nil_upd, ?_⟩; conv => whnf) | (refine ⟨[], _, [_], [], (by assumption), nil_fk, one_new rfl, nil_upd, ?_⟩; conv => whnf) | (refine ⟨[_], _, [], [], (by assumption), one_fk rfl, nil_new, nil_upd, ?_⟩; conv => whnf) | (refine ⟨[_, _], _, [], [], (by assumption), two_fk rfl rfl, nil_new, nil_upd, ?_⟩; conv => whnf) | (refine ⟨[_], _, [_], [], (by assumption), one_fk rfl, one_new rfl, nil_upd, ?_⟩; conv => whnf) | (refine ⟨[_], _, [], [_], (by assumption), one_fk rfl, nil_new, one_upd (List.mem_cons_self ..) rfl rfl rfl, ?_⟩; conv => whnf) | (refine ⟨[_, _], _, [], [_, _], (by assumption), two_fk rfl rfl, nil_new, two_upd (List.mem_cons_self ..) rfl rfl rfl (List.mem_cons_of_mem _ (List.mem_cons_self ..)) rfl rfl rfl, ?_⟩; conv => whnf) | (refine ⟨[_, _], _, [_, _], [], (by assumption), two_fk rfl rfl, two_new rfl rfl, nil_upd, ?_⟩; conv => whnf) | (refine ⟨_, [], [], [], op_pickT rfl (ev_ok rfl) (ev_ok rfl), nil_fk, nil_new, nil_upd, ?_⟩; conv => whnf) | (refine ⟨_, [], [], [], op_pickF rfl (ev_ok rfl) (ev_ok rfl), nil_fk, nil_new, nil_upd, ?_⟩; conv => whnf) | (rw [beq_self_eq_true]; conv => whnf) | (rw [bne_self_eq_false]; conv => whnf) | (rw [t1]; conv => whnf) | (rw [e1]; conv => whnf) | (rw [e3]; conv => whnf)))
        refine SW_loopN hE (fun k => k) [4, 8, 9, 10, 11, 12, 53, 54, 55, 60, 61, 62] [4, 1001, 1002, 52] (fun m fr hp => ∃ (k : Nat) (o2 : List Int) (c : Nat), m = (wInts b).length - k ∧ k ≤ (wInts b).length ∧ c < 4294967296 ∧ o2.length = (wInts a).length + (wInts b).length ∧ W32 o2 ∧ (∀ j, i + k ≤ j → o2.getD j 0 = out.getD j 0) ∧ valI o2 (i + k) + c * 4294967296 ^ (i + k) = valI out (i + k) + w * 4294967296 ^ i * valI (wInts b) k ∧
          fr = [(4, .ptr 4 0 0 0), (8, .slc 1002 1 0 (wInts b).length), (9, .slc 52 1 0 ((wInts a).length + (wInts b).length)), (10, .val (.int .i64 i)), (11, .val (.int .u32 w)), (12, .val (.int .u64 c)), (53, .slc 1001 1 0 (wInts a).length), (54, .val (.int .i64 ((wInts a).length : Nat))), (55, .val (.int .i64 i)), (60, .slc 1002 1 0 (wInts b).length), (61, .val (.int .i64 ((wInts b).length : Nat))), (62, .val (.int .i64 k))] ∧ hp = [(4, ⟨45, true, .one [.nat 0]⟩), (1001, ⟨22, true, .ints .u32 (wArr a)⟩), (1002, ⟨22, true, .ints .u32 (wArr b)⟩), (52, ⟨22, true, .ints .u32 o2⟩)]) (wInts b).length ?_ ?_ ?_
        · kernel_rfl
        · exact ⟨0, out, 0, rfl, by omega, by omega, hlen, hw, (fun j _ => rfl), by simp [valI], rfl, rfl⟩
        rintro m _ _ ⟨k, o2, c, rfl, hk, hc, hlen2, hw2', hrest, hval2, rfl, rfl⟩
        have e4 : IntKind.i64.wrap ((k : Int) + 1) = ((k + 1 : Nat) : Int) := by rw [wrap_i64 (by omega) (by omega)]; omega
        have hbl := wArr_len b
        by_cases hklt : k < (wInts b).length
        · have t2 : decide ((k : Int) < ((wInts b).length : Int)) = true := decide_eq_true (by omega)
          have e5 : 0 + (k : Int).toNat = k := by omega
          have e6 : IntKind.i64.wrap ((i : Int) + k) = ((i + k : Nat) : Int) := by rw [wrap_i64 (by omega) (by omega)]; omega
          have e7 : 0 + ((i + k : Nat) : Int).toNat = i + k := by omega
          obtain ⟨v, hvv⟩ := Int.eq_ofNat_of_zero_le (wInts_w32 b k).1
          have hv2 := (wInts_w32 b k).2
          obtain ⟨o, ho⟩ := Int.eq_ofNat_of_zero_le (hw2' (i + k)).1
          have ho2 := (hw2' (i + k)).2
          have e8 : (wArr b).getD k 0 = (v : Int) := by rw [wArr_get hklt]; exact hvv
          have hpv : w * v ≤ 4294967295 * 4294967295 := Nat.mul_le_mul (by omega) (by omega)
          have e9 : IntKind.u64.wrap ((c : Int) + IntKind.u64.wrap (IntKind.u64.wrap (IntKind.u64.wrap (w : Int) * IntKind.u64.wrap (v : Int)) + IntKind.u64.wrap (o : Int))) = ((c + (w * v + o) : Nat) : Int) := by
            rw [wu64 (n := w) (by omega), wu64 (n := v) (by omega), wu64 (n := o) (by omega), ← Int.natCast_mul, wu64 (n := w * v) (by omega), ← Int.natCast_add, wu64 (n := w * v + o) (by omega), ← Int.natCast_add, wu64 (by omega)]
          have e10 : IntKind.u32.wrap ((c + (w * v + o) : Nat) : Int) = (((c + (w * v + o)) % 4294967296 : Nat) : Int) := wu32m _
          have e11 : ishr .u64 ((c + (w * v + o) : Nat) : Int) 32 = (((c + (w * v + o)) / 4294967296 : Nat) : Int) := ishr_hi _
          have hc' : (c + (w * v + o)) / 4294967296 < 4294967296 := by omega
          have hstep := mul_step (i := i) (k := k) (Y := wInts b) (by omega) ho (by rw [← hrest (i + k) (Nat.le_refl _)]; exact ho) hvv hval2
          conv => whnf
          (repeat (first | (refine step_w1 rfl rfl ?_; conv => whnf) | (refine step_w2 rfl rfl ?_; conv => whnf) | (refine step_i (by kernel_rfl) ?_; conv => whnf) | (refine And.intro (by first | decide | omega | (simp only [tiB5, tiB22, tiB3, tiB2, tiB9, tiB55, tiB49, tiB28, tiB4, tiB66, tiB68]; omega)) ?_; conv => whnf) | (refine ⟨[], _, [], [], (by assumption), nil_fk, nil_new, nil_upd, ?_⟩; conv => whnf) | (refine ⟨[], _, [_], [], (by assumption), nil_fk, one_new rfl, nil_upd, ?_⟩; conv => whnf) | (refine ⟨[_], _, [], [], (by assumption), one_fk rfl, nil_new, nil_upd, ?_⟩; conv => whnf) | (refine ⟨[_, _], _, [], [], (by assumption), two_fk rfl rfl, nil_new, nil_upd, ?_⟩; conv => whnf) | (refine ⟨[_], _, [_], [], (by assumption), one_fk rfl, one_new rfl, nil_upd, ?_⟩; conv => whnf) | (refine ⟨[_], _, [], [_], (by assumption), one_fk rfl, nil_new, one_upd (List.mem_cons_self ..) rfl rfl rfl, ?_⟩; conv => whnf) | (refine ⟨[_, _], _, [], [_, _], (by assumption), two_fk rfl rfl, nil_new, two_upd (List.mem_cons_self ..) rfl rfl rfl (List.mem_cons_of_mem _ (List.mem_cons_self ..)) rfl rfl rfl, ?_⟩; conv => whnf) | (refine ⟨[_, _], _, [_, _], [], (by assumption), two_fk rfl rfl, two_new rfl rfl, nil_upd, ?_⟩; conv => whnf) | (refine ⟨_, [], [], [], op_pickT rfl (ev_ok rfl) (ev_ok rfl), nil_fk, nil_new, nil_upd, ?_⟩; conv => whnf) | (refine ⟨_, [], [], [], op_pickF rfl (ev_ok rfl) (ev_ok rfl), nil_fk, nil_new, nil_upd, ?_⟩; conv => whnf) | (rw [beq_self_eq_true]; conv => whnf) | (rw [bne_self_eq_false]; conv => whnf) | (rw [t2]; conv => whnf) | (rw [e5]; conv => whnf) | (rw [e8]; conv => whnf) | (rw [e6]; conv => whnf) | (rw [e7]; conv => whnf) | (rw [ho]; conv => whnf) | (rw [e9]; conv => whnf) | (rw [e10]; conv => whnf) | (rw [e11]; conv => whnf) | (rw [e4]; conv => whnf)))
          exact ⟨(wInts b).length - (k + 1), fun k => k, [4, 8, 9, 10, 11, 12, 53, 54, 55, 60, 61, 62], [4, 1001, 1002, 52], by omega, by kernel_rfl, k + 1, _, _, rfl, by omega, hc', by simpa using hlen2, hw2'.set (by omega) (by omega), (fun j hj => by rw [getD_set, if_neg (by omega)]; exact hrest j (by omega)), hstep, rfl, rfl⟩
        · have hk' : k = (wInts b).length := by omega
          subst hk'
          have t2 : decide (((wInts b).length : Int) < ((wInts b).length : Int)) = false := decide_eq_false (by omega)
          have e6 : IntKind.i64.wrap ((i : Int) + ((wInts b).length : Int)) = ((i + (wInts b).length : Nat) : Int) := by rw [wrap_i64 (by omega) (by omega)]; omega
          have e7 : 0 + ((i + (wInts b).length : Nat) : Int).toNat = i + (wInts b).length := by omega
          have e8 : IntKind.u32.wrap (c : Int) = (c : Int) := wu32 hc
          have hfin := mul_row (X := wInts a) (o2 := o2) (by omega) (by rw [hrest _ (Nat.le_refl _)]; exact hz _ (Nat.le_refl _)) hww (wInts_val b) hval hval2
          conv => whnf
          (repeat (first | (refine step_w1 rfl rfl ?_; conv => whnf) | (refine step_w2 rfl rfl ?_; conv => whnf) | (refine step_i (by kernel_rfl) ?_; conv => whnf) | (refine And.intro (by first | decide | omega | (simp only [tiB5, tiB22, tiB3, tiB2, tiB9, tiB55, tiB49, tiB28, tiB4, tiB66, tiB68]; omega)) ?_; conv => whnf) | (refine ⟨[], _, [], [], (by assumption), nil_fk, nil_new, nil_upd, ?_⟩; conv => whnf) | (refine ⟨[], _, [_], [], (by assumption), nil_fk, one_new rfl, nil_upd, ?_⟩; conv => whnf) | (refine ⟨[_], _, [], [], (by assumption), one_fk rfl, nil_new, nil_upd, ?_⟩; conv => whnf) | (refine ⟨[_, _], _, [], [], (by assumption), two_fk rfl rfl, nil_new, nil_upd, ?_⟩; conv => whnf) | (refine ⟨[_], _, [_], [], (by assumption), one_fk rfl, one_new rfl, nil_upd, ?_⟩; conv => whnf) | (refine ⟨[_], _, [], [_], (by assumption), one_fk rfl, nil_new, one_upd (List.mem_cons_self ..) rfl rfl rfl, ?_⟩; conv => whnf) | (refine ⟨[_, _], _, [], [_, _], (by assumption), two_fk rfl rfl, nil_new, two_upd (List.mem_cons_self ..) rfl rfl rfl (List.mem_cons_of_mem _ (List.mem_cons_self ..)) rfl rfl rfl, ?_⟩; conv => whnf) | (refine ⟨[_, _], _, [_, _], [], (by assumption), two_fk rfl rfl, two_new rfl rfl, nil_upd, ?_⟩; conv => whnf) | (refine ⟨_, [], [], [], op_pickT rfl (ev_ok rfl) (ev_ok rfl), nil_fk, nil_new, nil_upd, ?_⟩; conv => whnf) | (refine ⟨_, [], [], [], op_pickF rfl (ev_ok rfl) (ev_ok rfl), nil_fk, nil_new, nil_upd, ?_⟩; conv => whnf) | (rw [beq_self_eq_true]; conv => whnf) | (rw [bne_self_eq_false]; conv => whnf) | (rw [t2]; conv => whnf) | (rw [e6]; conv => whnf) | (rw [e7]; conv => whnf) | (rw [e8]; conv => whnf) | (rw [e2]; conv => whnf)))
          exact ⟨(wInts a).length - (i + 1), fun k => k, [4, 8, 9, 53, 54, 55], [4, 1001, 1002, 52], by omega, by kernel_rfl, i + 1, _, rfl, by omega, by simpa using hlen2, hw2'.set (by omega) (by omega), (fun j hj => by rw [getD_set, if_neg (by omega), hrest j (by omega)]; exact hz j (by omega)), by rw [show i + 1 + (wInts b).length = i + (wInts b).length + 1 from by omega]; exact hfin, rfl, rfl⟩
      · have hi' : i = (wInts a).length := by omega
        subst hi'
        have t1 : decide (((wInts a).length : Int) < ((wInts a).length : Int)) = false := decide_eq_false (by omega)
        rw [wInts_val] at hval
        have hsum : (valI out ((wInts a).length + (wInts b).length)).toNat = a * b := by
          rw [hval, ← Int.natCast_mul, Int.toNat_natCast]
        have kof := c_of out ((wInts a).length + (wInts b).length) (by omega) (by omega) hw 52 true
        rw [hsum] at kof
        conv => whnf
        (repeat (first | (refine step_w1 rfl rfl ?_; conv => whnf) | (refine step_w2 rfl rfl ?_; conv => whnf) | (refine step_i (by kernel_rfl) ?_; conv => whnf) | (refine And.intro (by first | decide | omega | (simp only [tiB5, tiB22, tiB3, tiB2, tiB9, tiB55, tiB49, tiB28, tiB4, tiB66, tiB68]; omega)) ?_; conv => whnf) | (refine ⟨[], _, [], [], (by assumption), nil_fk, nil_new, nil_upd, ?_⟩; conv => whnf) | (refine ⟨[], _, [_], [], (by assumption), nil_fk, one_new rfl, nil_upd, ?_⟩; conv => whnf) | (refine ⟨[_], _, [], [], (by assumption), one_fk rfl, nil_new, nil_upd, ?_⟩; conv => whnf) | (refine ⟨[_, _], _, [], [], (by assumption), two_fk rfl rfl, nil_new, nil_upd, ?_⟩; conv => whnf) | (refine ⟨[_], _, [_], [], (by assumption), one_fk rfl, one_new rfl, nil_upd, ?_⟩; conv => whnf) | (refine ⟨[_], _, [], [_], (by assumption), one_fk rfl, nil_new, one_upd (List.mem_cons_self ..) rfl rfl rfl, ?_⟩; conv => whnf) | (refine ⟨[_, _], _, [], [_, _], (by assumption), two_fk rfl rfl, nil_new, two_upd (List.mem_cons_self ..) rfl rfl rfl (List.mem_cons_of_mem _ (List.mem_cons_self ..)) rfl rfl rfl, ?_⟩; conv => whnf) | (refine ⟨[_, _], _, [_, _], [], (by assumption), two_fk rfl rfl, two_new rfl rfl, nil_upd, ?_⟩; conv => whnf) | (refine ⟨_, [], [], [], op_pickT rfl (ev_ok rfl) (ev_ok rfl), nil_fk, nil_new, nil_upd, ?_⟩; conv => whnf) | (refine ⟨_, [], [], [], op_pickF rfl (ev_ok rfl) (ev_ok rfl), nil_fk, nil_new, nil_upd, ?_⟩; conv => whnf) | (rw [beq_self_eq_true]; conv => whnf) | (rw [bne_self_eq_false]; conv => whnf) | (rw [t1]; conv => whnf)))
        exact Recast.refl _
end Go.Proofs.YtghdcjhlhcoijaaDoor

/- Small numbers meet what is asked of nats; the examples of the chapter. -/
namespace Go.Proofs.YtghdcjhlhcoijaaDoor
open Go.Sx
set_option linter.unusedSimpArgs false
set_option linter.unusedVariables false
set_option maxRecDepth 100000
set_option maxHeartbeats 4000000

theorem sz64 {n : Nat} (h : sz n ≤ 64) : n < 18446744073709551616 := sz_le.1 h

theorem nat64 : NatOK 64 where
  big := Nat.le_refl _
  cmp a b ha hb := s_Cmp a b (sz64 ha) (sz64 hb)
  add a b h := s_Add a b (sz64 h)
  sub a b ha h := s_Sub a b (sz64 ha) h
  subF a b hb h := s_SubF a b (Nat.lt_trans h (sz64 hb)) (sz64 hb) h
  mul a b h := c_Mul_s a b (sz64 (by omega)) (sz64 (by omega))
  div a b ha hb h0 := s_Div a b (sz64 ha) (sz64 hb) h0
  divZ a := c_DivZ a
  gcd a b ha hb := s_Gcd a b (sz64 ha) (sz64 hb)

theorem k_prime (n : Nat) (b : Bool) (hn : n < 4294967296) (e : primeF n = b) : CallOK Tryd.prog 10 [.val (.int .u32 n)] [] (.val (.bool b)) [] [] := e ▸ c_Prime n hn
theorem k_next (n : Nat) (q e : Int) (hn : n < 4294967296) (h : nextF (2147483648 - (n + 1)) (n + 1) = (q, e)) : CallOK Tryd.prog 8 [.val (.int .u32 n)] [] (.tup [.val (.int .u32 q), .val (.int .i64 e)]) [] [] := by
  have := c_Next n hn; rwa [h] at this
theorem k_inv (a p : Nat) (q : Int) (b : Bool) (ha : a < 4294967296) (hp : p < 4294967296) (h : invF a p = (q, b)) : CallOK Tryd.prog 13 [.val (.int .u32 a), .val (.int .u32 p)] [] (.tup [.val (.int .u32 q), .val (.bool b)]) [] [] := by
  have := c_Inv a p ha hp; rwa [h] at this
theorem k_frac (a : Rat) (p : Nat) (q : Int) (b : Bool) (ha : fsz a < 64) (hp : p < 4294967296) (h : ofFracF a p = (q, b)) : CallOK Tryd.prog 29 [.frac a, .val (.int .u32 p)] [] (.tup [.val (.int .u32 q), .val (.bool b)]) [] [] := by
  have := c_OfFrac nat64 a p ha hp; rwa [h] at this

theorem c_works : CallOK Tryd.prog 12 [] [] (.val (.bool true)) [] [] := by
  have n1 := k_next 0 2 0 (by decide) (by kernel_rfl)
  have n2 := k_next 2 3 0 (by decide) (by kernel_rfl)
  have n3 := k_next 2147483646 2147483647 0 (by decide) (by kernel_rfl)
  have n4 := k_next 2147483647 0 3 (by decide) (by kernel_rfl)
  have p1 := k_prime 2 true (by decide) (by kernel_rfl)
  have p2 := k_prime 1 false (by decide) (by kernel_rfl)
  have p3 := k_prime 561 false (by decide) (by kernel_rfl)
  have p4 := k_prime 2147483647 true (by decide) (by kernel_rfl)
  have p5 := k_prime 4294967291 true (by decide) (by kernel_rfl)
  have i1 := k_inv 3 7 5 true (by decide) (by decide) (by kernel_rfl)
  have i2 := k_inv 2 4 0 false (by decide) (by decide) (by kernel_rfl)
  have i3 := k_inv 0 1 0 true (by decide) (by decide) (by kernel_rfl)
  have i4 := k_inv 5 0 0 false (by decide) (by decide) (by kernel_rfl)
  have a1 := (c_Sub 3 5 7 (by decide) (by decide) (by decide) (by decide) (by decide) (by decide)).res (d := .val (.int .u32 5)) (by kernel_rfl)
  have a2 := (c_Mul 4294967295 4294967295 4294967291 (by decide) (by decide) (by decide) (by decide) (by decide) (by decide)).res (d := .val (.int .u32 16)) (by kernel_rfl)
  have a3 := (c_Pow 2 1000 10 (by decide) (by decide) (by decide) (by decide) (by decide)).res (d := .val (.int .u32 24)) (by kernel_rfl)
  have a4 := (c_Pow 0 5 0 (by decide) (by decide) (by decide) (by decide) (by decide)).res (d := .val (.int .u32 1)) (by kernel_rfl)
  have a5 := (c_Add 3 4 0 (by decide) (by decide) (by decide) (by decide) (by decide) (by decide)).res (d := .val (.int .u32 0)) (by kernel_rfl)
  have f1 := c_lawOf nat64 1 2 (of_decide_eq_true (by kernel_rfl)) (by decide) (by decide) (by decide) (by decide) (by decide)
  have f2 := c_lawOf nat64 1 7 (of_decide_eq_true (by kernel_rfl)) (by decide) (by decide) (by decide) (by decide) (by decide)
  have f3 := c_lawOf nat64 7 2 (of_decide_eq_true (by kernel_rfl)) (by decide) (by decide) (by decide) (by decide) (by decide)
  have g1 := k_frac (((1 : Int) : Rat) / ((2 : Int) : Rat)) 7 4 true (of_decide_eq_true (by kernel_rfl)) (by decide) (by kernel_rfl)
  have g2 := k_frac (((1 : Int) : Rat) / ((7 : Int) : Rat)) 7 0 false (of_decide_eq_true (by kernel_rfl)) (by decide) (by kernel_rfl)
  have g3 := k_frac (((7 : Int) : Rat) / ((2 : Int) : Rat)) 7 0 true (of_decide_eq_true (by kernel_rfl)) (by decide) (by kernel_rfl)
  have z1 := c_iOf (-1) (by decide) (by decide)
  have z2 := (c_OfInt nat64 (-1) 7 (of_decide_eq_true (by kernel_rfl)) (by decide) (by decide)).res (d := .val (.int .u32 6)) (by kernel_rfl)
  refine callV (Z := []) tabOK mixedOK Tryd.func12 rfl (by kernel_rfl) rfl rfl (by kernel_rfl) rfl ?_
  intro W0 w0 ρ0 hE
  conv => whnf
  (repeat (first | (refine step_w1 rfl rfl ?_; conv => whnf) | (refine step_w2 rfl rfl ?_; conv => whnf) | (refine step_i (by kernel_rfl) ?_; conv => whnf) | (refine And.intro (by first | decide | omega | (simp only [tiB5, tiB22, tiB3, tiB2, tiB9, tiB55, tiB49, tiB28, tiB4, tiB66, tiB68]; omega)) ?_; conv => whnf) | (refine ⟨[], _, [], [], (by assumption), nil_fk, nil_new, nil_upd, ?_⟩; conv => whnf) | (refine ⟨[], _, [_], [], (by assumption), nil_fk, one_new rfl, nil_upd, ?_⟩; conv => whnf) | (refine ⟨[_], _, [], [], (by assumption), one_fk rfl, nil_new, nil_upd, ?_⟩; conv => whnf) | (refine ⟨[_, _], _, [], [], (by assumption), two_fk rfl rfl, nil_new, nil_upd, ?_⟩; conv => whnf) | (refine ⟨[_], _, [_], [], (by assumption), one_fk rfl, one_new rfl, nil_upd, ?_⟩; conv => whnf) | (refine ⟨[_], _, [], [_], (by assumption), one_fk rfl, nil_new, one_upd (List.mem_cons_self ..) rfl rfl rfl, ?_⟩; conv => whnf) | (refine ⟨[_, _], _, [], [_, _], (by assumption), two_fk rfl rfl, nil_new, two_upd (List.mem_cons_self ..) rfl rfl rfl (List.mem_cons_of_mem _ (List.mem_cons_self ..)) rfl rfl rfl, ?_⟩; conv => whnf) | (refine ⟨[_, _], _, [_, _], [], (by assumption), two_fk rfl rfl, two_new rfl rfl, nil_upd, ?_⟩; conv => whnf) | (refine ⟨_, [], [], [], op_pickT rfl (ev_ok rfl) (ev_ok rfl), nil_fk, nil_new, nil_upd, ?_⟩; conv => whnf) | (refine ⟨_, [], [], [], op_pickF rfl (ev_ok rfl) (ev_ok rfl), nil_fk, nil_new, nil_upd, ?_⟩; conv => whnf) | (rw [beq_self_eq_true]; conv => whnf) | (rw [bne_self_eq_false]; conv => whnf))); exact Recast.refl _
end Go.Proofs.YtghdcjhlhcoijaaDoor

/- The law ModsPowers, for all arguments. -/
namespace Go.Proofs.YtghdcjhlhcoijaaDoor
open Go.Sx
set_option linter.unusedSimpArgs false
set_option linter.unusedVariables false
set_option maxRecDepth 100000
set_option maxHeartbeats 4000000

theorem md_mul (x y p : Int) : md (md x p * md y p) p = md (x * y) p := by
  unfold md
  by_cases h : p = 0
  · simp [h]
  · simp only [h, if_false]; rw [← Int.mul_emod]
theorem md_pow (x p : Int) (n : Nat) : md (md x p ^ n) p = md (x ^ n) p := by
  unfold md
  by_cases h : p = 0
  · simp [h]
  · simp only [h, if_false]
    exact pow_cong (emod_cong _ _) n
theorem md_bds {n p : Int} (h3 : 0 ≤ p) (h4 : p < 4294967296) : 0 ≤ md n p ∧ md n p < 4294967296 := by
  have := md_bd (n := n) h3; omega

theorem ishr_u32 (m : Nat) : ishr .u32 (m : Int) 1 = ((m / 2 : Nat) : Int) := ishr_nat .u32 (s := 1) (by decide)

theorem c_ModsPowers (a b p : Int) (m n : Nat) (ha : 0 ≤ a) (ha' : a < 4294967296) (hb : 0 ≤ b) (hb' : b < 4294967296) (h3 : 0 ≤ p) (h4 : p < 4294967296) (hm : m < 4294967296) (hn : n < 4294967296) :
    CallOK Tryd.prog 6 [.val (.int .u32 a), .val (.int .u32 b), .val (.int .u32 p), .val (.int .u32 m), .val (.int .u32 n)] [] (.val (.bool true)) [] [] := by
  have e1 : IntKind.u64.wrap ((m / 2 : Nat) : Int) = ((m / 2 : Nat) : Int) := wrap_u64 (by omega) (by omega)
  have e2 : IntKind.u64.wrap ((n / 2 : Nat) : Int) = ((n / 2 : Nat) : Int) := wrap_u64 (by omega) (by omega)
  have hx : m / 2 < 2147483648 := by omega
  have hy : n / 2 < 2147483648 := by omega
  have f1 := ishr_u32 m
  have f2 := ishr_u32 n
  generalize m / 2 = x at *
  generalize n / 2 = y at *
  have e3 : IntKind.u64.wrap ((x : Int) + y) = ((x + y : Nat) : Int) := wrap_u64 (by omega) (by omega)
  have hxy : x * y < 4611686018427387904 := by
    have := Nat.mul_le_mul (show x ≤ 2147483647 by omega) (show y ≤ 2147483647 by omega); omega
  have e4 : IntKind.u64.wrap ((x : Int) * y) = ((x * y : Nat) : Int) := by rw [← Int.natCast_mul]; exact wrap_u64 (by omega) (by omega)
  have b1 := md_bds (n := a ^ x) h3 h4
  have b2 := md_bds (n := a ^ y) h3 h4
  have b3 := md_bds (n := b ^ x) h3 h4
  have b4 := md_bds (n := a * b) h3 h4
  have k1 := (c_Pow a p (x + y) ha ha' (by omega) h3 h4)
  have k2 := c_Pow a p x ha ha' (by omega) h3 h4
  have k3 := c_Pow a p y ha ha' (by omega) h3 h4
  have k4 := (c_Mul (md (a ^ x) p) (md (a ^ y) p) p b1.1 b1.2 b2.1 b2.2 h3 h4).res (d := .val (.int .u32 (md (a ^ (x + y)) p))) (by rw [md_mul, Int.pow_add])
  have k5 := c_Mul a b p ha ha' hb hb' h3 h4
  have k6 := (c_Pow (md (a * b) p) p x b4.1 b4.2 (by omega) h3 h4).res (d := .val (.int .u32 (md ((a * b) ^ x) p))) (by rw [md_pow])
  have k7 := c_Pow b p x hb hb' (by omega) h3 h4
  have k8 := (c_Mul (md (a ^ x) p) (md (b ^ x) p) p b1.1 b1.2 b3.1 b3.2 h3 h4).res (d := .val (.int .u32 (md ((a * b) ^ x) p))) (by rw [md_mul, Int.mul_pow])
  have k9 := (c_Pow (md (a ^ x) p) p y b1.1 b1.2 (by omega) h3 h4).res (d := .val (.int .u32 (md (a ^ (x * y)) p))) (by rw [md_pow, Int.pow_mul])
  have k10 := (c_Pow a p (x * y) ha ha' (by omega) h3 h4)
  have k11 := c_works
  refine callV (Z := []) tabOK mixedOK Tryd.func6 rfl (by kernel_rfl) rfl rfl (by kernel_rfl) rfl ?_
  intro W0 w0 ρ0 hE
  conv => whnf
  (repeat (first | (refine step_w1 rfl rfl ?_; conv => whnf) | (refine step_w2 rfl rfl ?_; conv => whnf) | (refine step_i (by kernel_rfl) ?_; conv => whnf) | (refine And.intro (by first | decide | omega | (simp only [tiB5, tiB22, tiB3, tiB2, tiB9, tiB55, tiB49, tiB28, tiB4, tiB66, tiB68]; omega)) ?_; conv => whnf) | (refine ⟨[], _, [], [], (by assumption), nil_fk, nil_new, nil_upd, ?_⟩; conv => whnf) | (refine ⟨[], _, [_], [], (by assumption), nil_fk, one_new rfl, nil_upd, ?_⟩; conv => whnf) | (refine ⟨[_], _, [], [], (by assumption), one_fk rfl, nil_new, nil_upd, ?_⟩; conv => whnf) | (refine ⟨[_, _], _, [], [], (by assumption), two_fk rfl rfl, nil_new, nil_upd, ?_⟩; conv => whnf) | (refine ⟨[_], _, [_], [], (by assumption), one_fk rfl, one_new rfl, nil_upd, ?_⟩; conv => whnf) | (refine ⟨[_], _, [], [_], (by assumption), one_fk rfl, nil_new, one_upd (List.mem_cons_self ..) rfl rfl rfl, ?_⟩; conv => whnf) | (refine ⟨[_, _], _, [], [_, _], (by assumption), two_fk rfl rfl, nil_new, two_upd (List.mem_cons_self ..) rfl rfl rfl (List.mem_cons_of_mem _ (List.mem_cons_self ..)) rfl rfl rfl, ?_⟩; conv => whnf) | (refine ⟨[_, _], _, [_, _], [], (by assumption), two_fk rfl rfl, two_new rfl rfl, nil_upd, ?_⟩; conv => whnf) | (refine ⟨_, [], [], [], op_pickT rfl (ev_ok rfl) (ev_ok rfl), nil_fk, nil_new, nil_upd, ?_⟩; conv => whnf) | (refine ⟨_, [], [], [], op_pickF rfl (ev_ok rfl) (ev_ok rfl), nil_fk, nil_new, nil_upd, ?_⟩; conv => whnf) | (rw [beq_self_eq_true]; conv => whnf) | (rw [bne_self_eq_false]; conv => whnf)))
  rw [f1, f2, e1, e2, e3]
  (repeat (first | (refine step_w1 rfl rfl ?_; conv => whnf) | (refine step_w2 rfl rfl ?_; conv => whnf) | (refine step_i (by kernel_rfl) ?_; conv => whnf) | (refine And.intro (by first | decide | omega | (simp only [tiB5, tiB22, tiB3, tiB2, tiB9, tiB55, tiB49, tiB28, tiB4, tiB66, tiB68]; omega)) ?_; conv => whnf) | (refine ⟨[], _, [], [], (by assumption), nil_fk, nil_new, nil_upd, ?_⟩; conv => whnf) | (refine ⟨[], _, [_], [], (by assumption), nil_fk, one_new rfl, nil_upd, ?_⟩; conv => whnf) | (refine ⟨[_], _, [], [], (by assumption), one_fk rfl, nil_new, nil_upd, ?_⟩; conv => whnf) | (refine ⟨[_, _], _, [], [], (by assumption), two_fk rfl rfl, nil_new, nil_upd, ?_⟩; conv => whnf) | (refine ⟨[_], _, [_], [], (by assumption), one_fk rfl, one_new rfl, nil_upd, ?_⟩; conv => whnf) | (refine ⟨[_], _, [], [_], (by assumption), one_fk rfl, nil_new, one_upd (List.mem_cons_self ..) rfl rfl rfl, ?_⟩; conv => whnf) | (refine ⟨[_, _], _, [], [_, _], (by assumption), two_fk rfl rfl, nil_new, two_upd (List.mem_cons_self ..) rfl rfl rfl (List.mem_cons_of_mem _ (List.mem_cons_self ..)) rfl rfl rfl, ?_⟩; conv => whnf) | (refine ⟨[_, _], _, [_, _], [], (by assumption), two_fk rfl rfl, two_new rfl rfl, nil_upd, ?_⟩; conv => whnf) | (refine ⟨_, [], [], [], op_pickT rfl (ev_ok rfl) (ev_ok rfl), nil_fk, nil_new, nil_upd, ?_⟩; conv => whnf) | (refine ⟨_, [], [], [], op_pickF rfl (ev_ok rfl) (ev_ok rfl), nil_fk, nil_new, nil_upd, ?_⟩; conv => whnf) | (rw [beq_self_eq_true]; conv => whnf) | (rw [bne_self_eq_false]; conv => whnf)))
  rw [e4]
  (repeat (first | (refine step_w1 rfl rfl ?_; conv => whnf) | (refine step_w2 rfl rfl ?_; conv => whnf) | (refine step_i (by kernel_rfl) ?_; conv => whnf) | (refine And.intro (by first | decide | omega | (simp only [tiB5, tiB22, tiB3, tiB2, tiB9, tiB55, tiB49, tiB28, tiB4, tiB66, tiB68]; omega)) ?_; conv => whnf) | (refine ⟨[], _, [], [], (by assumption), nil_fk, nil_new, nil_upd, ?_⟩; conv => whnf) | (refine ⟨[], _, [_], [], (by assumption), nil_fk, one_new rfl, nil_upd, ?_⟩; conv => whnf) | (refine ⟨[_], _, [], [], (by assumption), one_fk rfl, nil_new, nil_upd, ?_⟩; conv => whnf) | (refine ⟨[_, _], _, [], [], (by assumption), two_fk rfl rfl, nil_new, nil_upd, ?_⟩; conv => whnf) | (refine ⟨[_], _, [_], [], (by assumption), one_fk rfl, one_new rfl, nil_upd, ?_⟩; conv => whnf) | (refine ⟨[_], _, [], [_], (by assumption), one_fk rfl, nil_new, one_upd (List.mem_cons_self ..) rfl rfl rfl, ?_⟩; conv => whnf) | (refine ⟨[_, _], _, [], [_, _], (by assumption), two_fk rfl rfl, nil_new, two_upd (List.mem_cons_self ..) rfl rfl rfl (List.mem_cons_of_mem _ (List.mem_cons_self ..)) rfl rfl rfl, ?_⟩; conv => whnf) | (refine ⟨[_, _], _, [_, _], [], (by assumption), two_fk rfl rfl, two_new rfl rfl, nil_upd, ?_⟩; conv => whnf) | (refine ⟨_, [], [], [], op_pickT rfl (ev_ok rfl) (ev_ok rfl), nil_fk, nil_new, nil_upd, ?_⟩; conv => whnf) | (refine ⟨_, [], [], [], op_pickF rfl (ev_ok rfl) (ev_ok rfl), nil_fk, nil_new, nil_upd, ?_⟩; conv => whnf) | (rw [beq_self_eq_true]; conv => whnf) | (rw [bne_self_eq_false]; conv => whnf))); exact Recast.refl _

theorem law_ModsPowers (a b p m n : Int) (ha : 0 ≤ a ∧ a < 4294967296) (hb : 0 ≤ b ∧ b < 4294967296) (hp : 0 ≤ p ∧ p < 4294967296) (hm : 0 ≤ m ∧ m < 4294967296) (hn : 0 ≤ n ∧ n < 4294967296) :
    CallOK Tryd.prog 6 [.val (.int .u32 a), .val (.int .u32 b), .val (.int .u32 p), .val (.int .u32 m), .val (.int .u32 n)] [] (.val (.bool true)) [] [] := by
  obtain ⟨m, rfl⟩ := Int.eq_ofNat_of_zero_le hm.1
  obtain ⟨n, rfl⟩ := Int.eq_ofNat_of_zero_le hn.1
  exact c_ModsPowers a b p m n ha.1 ha.2 hb.1 hb.2 hp.1 hp.2 (by omega) (by omega)
end Go.Proofs.YtghdcjhlhcoijaaDoor

/- The primes of the law's list. -/
namespace Go.Proofs.YtghdcjhlhcoijaaDoor
open Go.Sx
set_option linter.unusedSimpArgs false
set_option linter.unusedVariables false
set_option maxRecDepth 100000
set_option maxHeartbeats 4000000

/-- The primes that P takes. -/
def plist : List Int := [2, 3, 5, 7, 11, 101, 257, 10007, 65537, 1000003, 16777259, 2147483629, 2147483647]

theorem prime_chk {p b k r : Nat} (h : (decide (2 ≤ p) && (decide (p < r * r) && (decide (r ≤ 2 + k * b) && noDivB p b k 2))) = true) : PrimeN p := by
  simp only [Bool.and_eq_true, decide_eq_true_eq] at h
  exact prime_of h.1 h.2.1 (fun e h1 _ => noDivB_spec h.2.2.2 e h1 (by omega))

theorem plist_prime : ∀ p ∈ plist, ∃ q : Nat, p = q ∧ PrimeN q ∧ q < 4294967296 := by
  intro p hp
  simp only [plist, List.mem_cons, List.not_mem_nil, or_false] at hp
  rcases hp with rfl | rfl | rfl | rfl | rfl | rfl | rfl | rfl | rfl | rfl | rfl | rfl | rfl
  · exact ⟨2, rfl, prime_of (r := 2) (by decide) (by decide) (fun e _ _ => by omega), by decide⟩
  · exact ⟨3, rfl, prime_of (r := 2) (by decide) (by decide) (fun e _ _ => by omega), by decide⟩
  · exact ⟨5, rfl, prime_chk (r := 3) (k := 1) (b := 1) (by kernel_rfl), by decide⟩
  · exact ⟨7, rfl, prime_chk (r := 3) (k := 1) (b := 1) (by kernel_rfl), by decide⟩
  · exact ⟨11, rfl, prime_chk (r := 4) (k := 2) (b := 1) (by kernel_rfl), by decide⟩
  · exact ⟨101, rfl, prime_chk (r := 11) (k := 3) (b := 3) (by kernel_rfl), by decide⟩
  · exact ⟨257, rfl, prime_chk (r := 17) (k := 3) (b := 5) (by kernel_rfl), by decide⟩
  · exact ⟨10007, rfl, prime_chk (r := 102) (k := 10) (b := 10) (by kernel_rfl), by decide⟩
  · exact ⟨65537, rfl, prime_chk (r := 257) (k := 15) (b := 17) (by kernel_rfl), by decide⟩
  · exact ⟨1000003, rfl, prime_chk (r := 1001) (k := 27) (b := 37) (by kernel_rfl), by decide⟩
  · exact ⟨16777259, rfl, prime_chk (r := 4097) (k := 63) (b := 65) (by kernel_rfl), by decide⟩
  · exact ⟨2147483629, rfl, prime_chk (r := 46341) (k := 215) (b := 216) (by kernel_rfl), by decide⟩
  · exact ⟨2147483647, rfl, prime_chk (r := 46341) (k := 215) (b := 216) (by kernel_rfl), by decide⟩

theorem c_P (i : Int) (h0 : 0 ≤ i) : CallOK Tryd.prog 22 [.val (.int .u32 i)] [] (.val (.int .u32 (plist.getD (i % 13).toNat 0))) [] [] := by
  refine callV (Z := []) tabOK mixedOK Tryd.func22 rfl (by kernel_rfl) rfl rfl (by kernel_rfl) rfl ?_
  intro W0 w0 ρ0 hE
  conv => whnf
  (repeat (first | (refine step_w1 rfl rfl ?_; conv => whnf) | (refine step_w2 rfl rfl ?_; conv => whnf) | (refine step_i (by kernel_rfl) ?_; conv => whnf) | (refine And.intro (by first | decide | omega | (simp only [tiB5, tiB22, tiB3, tiB2, tiB9, tiB55, tiB49, tiB28, tiB4, tiB66, tiB68]; omega)) ?_; conv => whnf) | (refine ⟨[], _, [], [], (by assumption), nil_fk, nil_new, nil_upd, ?_⟩; conv => whnf) | (refine ⟨[], _, [_], [], (by assumption), nil_fk, one_new rfl, nil_upd, ?_⟩; conv => whnf) | (refine ⟨[_], _, [], [], (by assumption), one_fk rfl, nil_new, nil_upd, ?_⟩; conv => whnf) | (refine ⟨[_, _], _, [], [], (by assumption), two_fk rfl rfl, nil_new, nil_upd, ?_⟩; conv => whnf) | (refine ⟨[_], _, [_], [], (by assumption), one_fk rfl, one_new rfl, nil_upd, ?_⟩; conv => whnf) | (refine ⟨[_], _, [], [_], (by assumption), one_fk rfl, nil_new, one_upd (List.mem_cons_self ..) rfl rfl rfl, ?_⟩; conv => whnf) | (refine ⟨[_, _], _, [], [_, _], (by assumption), two_fk rfl rfl, nil_new, two_upd (List.mem_cons_self ..) rfl rfl rfl (List.mem_cons_of_mem _ (List.mem_cons_self ..)) rfl rfl rfl, ?_⟩; conv => whnf) | (refine ⟨[_, _], _, [_, _], [], (by assumption), two_fk rfl rfl, two_new rfl rfl, nil_upd, ?_⟩; conv => whnf) | (refine ⟨_, [], [], [], op_pickT rfl (ev_ok rfl) (ev_ok rfl), nil_fk, nil_new, nil_upd, ?_⟩; conv => whnf) | (refine ⟨_, [], [], [], op_pickF rfl (ev_ok rfl) (ev_ok rfl), nil_fk, nil_new, nil_upd, ?_⟩; conv => whnf) | (rw [beq_self_eq_true]; conv => whnf) | (rw [bne_self_eq_false]; conv => whnf)))
  rw [show IntKind.u32.wrap ((13 : Nat) : Int) = 13 from rfl, Int.tmod_eq_emod_of_nonneg h0]
  (repeat (first | (refine step_w1 rfl rfl ?_; conv => whnf) | (refine step_w2 rfl rfl ?_; conv => whnf) | (refine step_i (by kernel_rfl) ?_; conv => whnf) | (refine And.intro (by first | decide | omega | (simp only [tiB5, tiB22, tiB3, tiB2, tiB9, tiB55, tiB49, tiB28, tiB4, tiB66, tiB68]; omega)) ?_; conv => whnf) | (refine ⟨[], _, [], [], (by assumption), nil_fk, nil_new, nil_upd, ?_⟩; conv => whnf) | (refine ⟨[], _, [_], [], (by assumption), nil_fk, one_new rfl, nil_upd, ?_⟩; conv => whnf) | (refine ⟨[_], _, [], [], (by assumption), one_fk rfl, nil_new, nil_upd, ?_⟩; conv => whnf) | (refine ⟨[_, _], _, [], [], (by assumption), two_fk rfl rfl, nil_new, nil_upd, ?_⟩; conv => whnf) | (refine ⟨[_], _, [_], [], (by assumption), one_fk rfl, one_new rfl, nil_upd, ?_⟩; conv => whnf) | (refine ⟨[_], _, [], [_], (by assumption), one_fk rfl, nil_new, one_upd (List.mem_cons_self ..) rfl rfl rfl, ?_⟩; conv => whnf) | (refine ⟨[_, _], _, [], [_, _], (by assumption), two_fk rfl rfl, nil_new, two_upd (List.mem_cons_self ..) rfl rfl rfl (List.mem_cons_of_mem _ (List.mem_cons_self ..)) rfl rfl rfl, ?_⟩; conv => whnf) | (refine ⟨[_, _], _, [_, _], [], (by assumption), two_fk rfl rfl, two_new rfl rfl, nil_upd, ?_⟩; conv => whnf) | (refine ⟨_, [], [], [], op_pickT rfl (ev_ok rfl) (ev_ok rfl), nil_fk, nil_new, nil_upd, ?_⟩; conv => whnf) | (refine ⟨_, [], [], [], op_pickF rfl (ev_ok rfl) (ev_ok rfl), nil_fk, nil_new, nil_upd, ?_⟩; conv => whnf) | (rw [beq_self_eq_true]; conv => whnf) | (rw [bne_self_eq_false]; conv => whnf)))
  refine ⟨by show 0 + (i % 13).toNat < 13; omega, ?_⟩
  conv => whnf
  rw [Nat.zero_add]
  (repeat (first | (refine step_w1 rfl rfl ?_; conv => whnf) | (refine step_w2 rfl rfl ?_; conv => whnf) | (refine step_i (by kernel_rfl) ?_; conv => whnf) | (refine And.intro (by first | decide | omega | (simp only [tiB5, tiB22, tiB3, tiB2, tiB9, tiB55, tiB49, tiB28, tiB4, tiB66, tiB68]; omega)) ?_; conv => whnf) | (refine ⟨[], _, [], [], (by assumption), nil_fk, nil_new, nil_upd, ?_⟩; conv => whnf) | (refine ⟨[], _, [_], [], (by assumption), nil_fk, one_new rfl, nil_upd, ?_⟩; conv => whnf) | (refine ⟨[_], _, [], [], (by assumption), one_fk rfl, nil_new, nil_upd, ?_⟩; conv => whnf) | (refine ⟨[_, _], _, [], [], (by assumption), two_fk rfl rfl, nil_new, nil_upd, ?_⟩; conv => whnf) | (refine ⟨[_], _, [_], [], (by assumption), one_fk rfl, one_new rfl, nil_upd, ?_⟩; conv => whnf) | (refine ⟨[_], _, [], [_], (by assumption), one_fk rfl, nil_new, one_upd (List.mem_cons_self ..) rfl rfl rfl, ?_⟩; conv => whnf) | (refine ⟨[_, _], _, [], [_, _], (by assumption), two_fk rfl rfl, nil_new, two_upd (List.mem_cons_self ..) rfl rfl rfl (List.mem_cons_of_mem _ (List.mem_cons_self ..)) rfl rfl rfl, ?_⟩; conv => whnf) | (refine ⟨[_, _], _, [_, _], [], (by assumption), two_fk rfl rfl, two_new rfl rfl, nil_upd, ?_⟩; conv => whnf) | (refine ⟨_, [], [], [], op_pickT rfl (ev_ok rfl) (ev_ok rfl), nil_fk, nil_new, nil_upd, ?_⟩; conv => whnf) | (refine ⟨_, [], [], [], op_pickF rfl (ev_ok rfl) (ev_ok rfl), nil_fk, nil_new, nil_upd, ?_⟩; conv => whnf) | (rw [beq_self_eq_true]; conv => whnf) | (rw [bne_self_eq_false]; conv => whnf))); exact Recast.refl _

end Go.Proofs.YtghdcjhlhcoijaaDoor

/- The law ModsField, for all arguments. -/
namespace Go.Proofs.YtghdcjhlhcoijaaDoor
open Go.Sx
set_option linter.unusedSimpArgs false
set_option linter.unusedVariables false
set_option maxRecDepth 100000
set_option maxHeartbeats 4000000

theorem eu_spec (a p : Int) (x y : Nat) (u v : Int) (h1 : p ∣ a * u - x) (h2 : p ∣ a * v - y) : (eu x y u v).1 = Nat.gcd x y ∧ p ∣ a * (eu x y u v).2 - (eu x y u v).1 := by
  induction y using Nat.strongRecOn generalizing x u v with
  | _ y ih =>
    rw [eu]
    split
    · rename_i h; subst h; exact ⟨by rw [Nat.gcd_zero_right], h1⟩
    · rename_i h
      have := ih (x % y) (Nat.mod_lt _ (Nat.pos_of_ne_zero h)) y v (u - (x / y : Nat) * v) h2 (by
        have e : a * (u - ((x / y : Nat) : Int) * v) - ((x % y : Nat) : Int) = (a * u - x) - ((x / y : Nat) : Int) * (a * v - y) := by
          have hd : (x : Int) = (y : Int) * ((x / y : Nat) : Int) + ((x % y : Nat) : Int) := by rw [← Int.natCast_mul, ← Int.natCast_add, Nat.div_add_mod]
          rw [Int.mul_sub, Int.mul_sub, Int.mul_left_comm a, Int.mul_comm ((x / y : Nat) : Int) y]
          omega
        rw [e]
        exact Int.dvd_sub h1 (Int.dvd_mul_of_dvd_right h2))
      refine ⟨?_, this.2⟩
      rw [this.1, Nat.gcd_comm y, ← Nat.gcd_rec, Nat.gcd_comm]

/-- What Inv gives. -/
theorem invF_spec {a p : Nat} (hp : p ≠ 0) : (Nat.gcd p (a % p) = 1 → (invF a p).2 = true ∧ 0 ≤ (invF a p).1 ∧ (invF a p).1 < p ∧ (a * (invF a p).1) % (p : Int) = 1 % (p : Int)) ∧ (Nat.gcd p (a % p) ≠ 1 → invF a p = (0, false)) := by
  obtain ⟨h1, h2⟩ := eu_spec a p p (a % p) 0 1 (by rw [Int.mul_zero, Int.zero_sub]; exact Int.dvd_neg.2 (Int.dvd_refl _)) (by
    rw [Int.mul_one]
    have := Nat.div_add_mod a p
    exact ⟨((a / p : Nat) : Int), by rw [← Int.natCast_mul]; omega⟩)
  unfold invF
  rw [if_neg hp]
  simp only []
  rw [h1] at h2 ⊢
  constructor
  · intro hg
    rw [hg] at h2 ⊢
    rw [if_pos rfl]
    have hpp : (0 : Int) < p := by omega
    refine ⟨rfl, Int.emod_nonneg _ (by omega), Int.emod_lt_of_pos _ hpp, ?_⟩
    rw [Int.mul_emod, Int.emod_emod_of_dvd _ (Int.dvd_refl _), ← Int.mul_emod]
    obtain ⟨c, hc⟩ := h2
    rw [show (a : Int) * (eu p (a % p) 0 1).2 = 1 + p * c from by omega, Int.add_mul_emod_self_left]
  · intro hg
    rw [if_neg hg]

theorem md_nat' {n p : Int} (hp : p ≠ 0) : md n p = n % p := by simp [md, hp]

theorem md_add (x y p : Int) : md (md x p + y) p = md (x + y) p := by
  unfold md
  by_cases h : p = 0
  · simp [h]
  · simp only [h, if_false]; rw [Int.emod_add_emod]
theorem md_add' (x y p : Int) : md (x + md y p) p = md (x + y) p := by rw [Int.add_comm, md_add, Int.add_comm]
theorem md_mulL (x y p : Int) : md (md x p * y) p = md (x * y) p := by
  unfold md
  by_cases h : p = 0
  · simp [h]
  · simp only [h, if_false]; rw [Int.mul_emod, emod_cong, ← Int.mul_emod]
theorem md_mulR (x y p : Int) : md (x * md y p) p = md (x * y) p := by rw [Int.mul_comm, md_mulL, Int.mul_comm]

theorem c_ModsField (a : Nat) (b c i : Int) (p : Nat) (hp : plist.getD (i % 13).toNat 0 = p) (hpr : PrimeN p) (hp4 : p < 4294967296)
    (ha : a < 4294967296) (hb : 0 ≤ b ∧ b < 4294967296) (hc : 0 ≤ c ∧ c < 4294967296) (hi : 0 ≤ i ∧ i < 4294967296) :
    CallOK Tryd.prog 5 [.val (.int .u32 a), .val (.int .u32 b), .val (.int .u32 c), .val (.int .u32 i)] [] (.val (.bool true)) [] [] := by
  have h2 := hpr.two
  have hp0 : (p : Int) ≠ 0 := by omega
  have k0 := c_P i hi.1
  rw [hp] at k0
  have bd : ∀ n : Int, 0 ≤ md n p ∧ md n p < 4294967296 := fun n => md_bds (by omega) (by omega)
  have A := fun x y hx hx' hy hy' => c_Add x y p hx hx' hy hy' (by omega) (by omega)
  have X := fun x y hx hx' hy hy' => c_Mul x y p hx hx' hy hy' (by omega) (by omega)
  have a0 : (0 : Int) ≤ a := by omega
  have a1 : (a : Int) < 4294967296 := by omega
  have k1 := A a b a0 a1 hb.1 hb.2
  have k2 := (A b a hb.1 hb.2 a0 a1).res (d := .val (.int .u32 (md (a + b) p))) (by rw [Int.add_comm])
  have k3 := X a b a0 a1 hb.1 hb.2
  have k4 := (X b a hb.1 hb.2 a0 a1).res (d := .val (.int .u32 (md (a * b) p))) (by rw [Int.mul_comm])
  have k5 := (A (md (a + b) p) c (bd _).1 (bd _).2 hc.1 hc.2).res (d := .val (.int .u32 (md (a + b + c) p))) (by rw [md_add])
  have k6 := A b c hb.1 hb.2 hc.1 hc.2
  have k7 := (A a (md (b + c) p) a0 a1 (bd _).1 (bd _).2).res (d := .val (.int .u32 (md (a + b + c) p))) (by rw [md_add', Int.add_assoc])
  have k8 := (X (md (a * b) p) c (bd _).1 (bd _).2 hc.1 hc.2).res (d := .val (.int .u32 (md (a * b * c) p))) (by rw [md_mulL])
  have k9 := X b c hb.1 hb.2 hc.1 hc.2
  have k10 := (X a (md (b * c) p) a0 a1 (bd _).1 (bd _).2).res (d := .val (.int .u32 (md (a * b * c) p))) (by rw [md_mulR, Int.mul_assoc])
  have k11 := (X a (md (b + c) p) a0 a1 (bd _).1 (bd _).2).res (d := .val (.int .u32 (md (a * b + a * c) p))) (by rw [md_mulR, Int.mul_add])
  have k12 := X a c a0 a1 hc.1 hc.2
  have k13 := (A (md (a * b) p) (md (a * c) p) (bd _).1 (bd _).2 (bd _).1 (bd _).2).res (d := .val (.int .u32 (md (a * b + a * c) p))) (by rw [md_add, md_add'])
  have k14 := c_Sub a b p a0 a1 hb.1 hb.2 (by omega) (by omega)
  have k15 := (A (md (md a p + p - md b p) p) b (bd _).1 (bd _).2 hb.1 hb.2).res (d := .val (.int .u32 ((a % p : Nat) : Int))) (by
    rw [md_add, md_nat' hp0, md_nat' hp0, md_nat' hp0, Int.natCast_emod]
    have e1 := Int.emod_add_mul_ediv (a : Int) p
    have e2 := Int.emod_add_mul_ediv b p
    rw [show (a : Int) % p + p - b % p + b = (a : Int) + p * (1 + b / p - (a : Int) / p) from by
      rw [Int.mul_sub, Int.mul_add, Int.mul_one]; omega, Int.add_mul_emod_self_left])
  have k16 := (c_Sub a a p a0 a1 a0 a1 (by omega) (by omega)).res (d := .val (.int .u32 0)) (by
    rw [show md a p + p - md a p = p from by omega, md_nat' hp0, Int.emod_self])
  have k17 := c_Inv a p ha hp4
  have k18 := c_works
  have hrem : (a : Int).tmod p = ((a % p : Nat) : Int) := by rw [Int.tmod_eq_emod_of_nonneg a0, Int.natCast_emod]
  have w1 : IntKind.u64.wrap (IntKind.u32.wrap ((p : Int) - 1)) = ((p - 1 : Nat) : Int) := by rw [wrap_u32 (by omega) (by omega), wrap_u64 (by omega) (by omega)]; omega
  have w2 : IntKind.u64.wrap (IntKind.u32.wrap ((p : Int) - 2)) = ((p - 2 : Nat) : Int) := by rw [wrap_u32 (by omega) (by omega), wrap_u64 (by omega) (by omega)]; omega
  obtain ⟨i1, i2⟩ := invF_spec (a := a) (p := p) (by omega)
  by_cases hd : a % p = 0
  · have hg : Nat.gcd p (a % p) ≠ 1 := by rw [hd, Nat.gcd_zero_right]; omega
    rw [i2 hg] at k17
    have k19 := (c_Pow a p (p - 1) a0 a1 (by omega) (by omega) (by omega)).res (d := .val (.int .u32 0)) (by
      rw [md_nat' hp0, ← Int.natCast_pow, ← Int.natCast_emod, Nat.pow_mod, hd, Nat.zero_pow (by omega), Nat.zero_mod]; rfl)
    refine callV (Z := []) tabOK mixedOK Tryd.func5 rfl (by kernel_rfl) rfl rfl (by kernel_rfl) rfl ?_
    intro W0 w0 ρ0 hE
    conv => whnf
    (repeat (first | (refine step_w1 rfl rfl ?_; conv => whnf) | (refine step_w2 rfl rfl ?_; conv => whnf) | (refine step_i (by kernel_rfl) ?_; conv => whnf) | (refine And.intro (by first | decide | omega | (simp only [tiB5, tiB22, tiB3, tiB2, tiB9, tiB55, tiB49, tiB28, tiB4, tiB66, tiB68]; omega)) ?_; conv => whnf) | (refine ⟨[], _, [], [], (by assumption), nil_fk, nil_new, nil_upd, ?_⟩; conv => whnf) | (refine ⟨[], _, [_], [], (by assumption), nil_fk, one_new rfl, nil_upd, ?_⟩; conv => whnf) | (refine ⟨[_], _, [], [], (by assumption), one_fk rfl, nil_new, nil_upd, ?_⟩; conv => whnf) | (refine ⟨[_, _], _, [], [], (by assumption), two_fk rfl rfl, nil_new, nil_upd, ?_⟩; conv => whnf) | (refine ⟨[_], _, [_], [], (by assumption), one_fk rfl, one_new rfl, nil_upd, ?_⟩; conv => whnf) | (refine ⟨[_], _, [], [_], (by assumption), one_fk rfl, nil_new, one_upd (List.mem_cons_self ..) rfl rfl rfl, ?_⟩; conv => whnf) | (refine ⟨[_, _], _, [], [_, _], (by assumption), two_fk rfl rfl, nil_new, two_upd (List.mem_cons_self ..) rfl rfl rfl (List.mem_cons_of_mem _ (List.mem_cons_self ..)) rfl rfl rfl, ?_⟩; conv => whnf) | (refine ⟨[_, _], _, [_, _], [], (by assumption), two_fk rfl rfl, two_new rfl rfl, nil_upd, ?_⟩; conv => whnf) | (refine ⟨_, [], [], [], op_pickT rfl (ev_ok rfl) (ev_ok rfl), nil_fk, nil_new, nil_upd, ?_⟩; conv => whnf) | (refine ⟨_, [], [], [], op_pickF rfl (ev_ok rfl) (ev_ok rfl), nil_fk, nil_new, nil_upd, ?_⟩; conv => whnf) | (rw [beq_self_eq_true]; conv => whnf) | (rw [bne_self_eq_false]; conv => whnf)))
    rw [hrem]
    (repeat (first | (refine step_w1 rfl rfl ?_; conv => whnf) | (refine step_w2 rfl rfl ?_; conv => whnf) | (refine step_i (by kernel_rfl) ?_; conv => whnf) | (refine And.intro (by first | decide | omega | (simp only [tiB5, tiB22, tiB3, tiB2, tiB9, tiB55, tiB49, tiB28, tiB4, tiB66, tiB68]; omega)) ?_; conv => whnf) | (refine ⟨[], _, [], [], (by assumption), nil_fk, nil_new, nil_upd, ?_⟩; conv => whnf) | (refine ⟨[], _, [_], [], (by assumption), nil_fk, one_new rfl, nil_upd, ?_⟩; conv => whnf) | (refine ⟨[_], _, [], [], (by assumption), one_fk rfl, nil_new, nil_upd, ?_⟩; conv => whnf) | (refine ⟨[_, _], _, [], [], (by assumption), two_fk rfl rfl, nil_new, nil_upd, ?_⟩; conv => whnf) | (refine ⟨[_], _, [_], [], (by assumption), one_fk rfl, one_new rfl, nil_upd, ?_⟩; conv => whnf) | (refine ⟨[_], _, [], [_], (by assumption), one_fk rfl, nil_new, one_upd (List.mem_cons_self ..) rfl rfl rfl, ?_⟩; conv => whnf) | (refine ⟨[_, _], _, [], [_, _], (by assumption), two_fk rfl rfl, nil_new, two_upd (List.mem_cons_self ..) rfl rfl rfl (List.mem_cons_of_mem _ (List.mem_cons_self ..)) rfl rfl rfl, ?_⟩; conv => whnf) | (refine ⟨[_, _], _, [_, _], [], (by assumption), two_fk rfl rfl, two_new rfl rfl, nil_upd, ?_⟩; conv => whnf) | (refine ⟨_, [], [], [], op_pickT rfl (ev_ok rfl) (ev_ok rfl), nil_fk, nil_new, nil_upd, ?_⟩; conv => whnf) | (refine ⟨_, [], [], [], op_pickF rfl (ev_ok rfl) (ev_ok rfl), nil_fk, nil_new, nil_upd, ?_⟩; conv => whnf) | (rw [beq_self_eq_true]; conv => whnf) | (rw [bne_self_eq_false]; conv => whnf)))
    rw [hrem, hd]
    (repeat (first | (refine step_w1 rfl rfl ?_; conv => whnf) | (refine step_w2 rfl rfl ?_; conv => whnf) | (refine step_i (by kernel_rfl) ?_; conv => whnf) | (refine And.intro (by first | decide | omega | (simp only [tiB5, tiB22, tiB3, tiB2, tiB9, tiB55, tiB49, tiB28, tiB4, tiB66, tiB68]; omega)) ?_; conv => whnf) | (refine ⟨[], _, [], [], (by assumption), nil_fk, nil_new, nil_upd, ?_⟩; conv => whnf) | (refine ⟨[], _, [_], [], (by assumption), nil_fk, one_new rfl, nil_upd, ?_⟩; conv => whnf) | (refine ⟨[_], _, [], [], (by assumption), one_fk rfl, nil_new, nil_upd, ?_⟩; conv => whnf) | (refine ⟨[_, _], _, [], [], (by assumption), two_fk rfl rfl, nil_new, nil_upd, ?_⟩; conv => whnf) | (refine ⟨[_], _, [_], [], (by assumption), one_fk rfl, one_new rfl, nil_upd, ?_⟩; conv => whnf) | (refine ⟨[_], _, [], [_], (by assumption), one_fk rfl, nil_new, one_upd (List.mem_cons_self ..) rfl rfl rfl, ?_⟩; conv => whnf) | (refine ⟨[_, _], _, [], [_, _], (by assumption), two_fk rfl rfl, nil_new, two_upd (List.mem_cons_self ..) rfl rfl rfl (List.mem_cons_of_mem _ (List.mem_cons_self ..)) rfl rfl rfl, ?_⟩; conv => whnf) | (refine ⟨[_, _], _, [_, _], [], (by assumption), two_fk rfl rfl, two_new rfl rfl, nil_upd, ?_⟩; conv => whnf) | (refine ⟨_, [], [], [], op_pickT rfl (ev_ok rfl) (ev_ok rfl), nil_fk, nil_new, nil_upd, ?_⟩; conv => whnf) | (refine ⟨_, [], [], [], op_pickF rfl (ev_ok rfl) (ev_ok rfl), nil_fk, nil_new, nil_upd, ?_⟩; conv => whnf) | (rw [beq_self_eq_true]; conv => whnf) | (rw [bne_self_eq_false]; conv => whnf)))
    rw [w1]
    (repeat (first | (refine step_w1 rfl rfl ?_; conv => whnf) | (refine step_w2 rfl rfl ?_; conv => whnf) | (refine step_i (by kernel_rfl) ?_; conv => whnf) | (refine And.intro (by first | decide | omega | (simp only [tiB5, tiB22, tiB3, tiB2, tiB9, tiB55, tiB49, tiB28, tiB4, tiB66, tiB68]; omega)) ?_; conv => whnf) | (refine ⟨[], _, [], [], (by assumption), nil_fk, nil_new, nil_upd, ?_⟩; conv => whnf) | (refine ⟨[], _, [_], [], (by assumption), nil_fk, one_new rfl, nil_upd, ?_⟩; conv => whnf) | (refine ⟨[_], _, [], [], (by assumption), one_fk rfl, nil_new, nil_upd, ?_⟩; conv => whnf) | (refine ⟨[_, _], _, [], [], (by assumption), two_fk rfl rfl, nil_new, nil_upd, ?_⟩; conv => whnf) | (refine ⟨[_], _, [_], [], (by assumption), one_fk rfl, one_new rfl, nil_upd, ?_⟩; conv => whnf) | (refine ⟨[_], _, [], [_], (by assumption), one_fk rfl, nil_new, one_upd (List.mem_cons_self ..) rfl rfl rfl, ?_⟩; conv => whnf) | (refine ⟨[_, _], _, [], [_, _], (by assumption), two_fk rfl rfl, nil_new, two_upd (List.mem_cons_self ..) rfl rfl rfl (List.mem_cons_of_mem _ (List.mem_cons_self ..)) rfl rfl rfl, ?_⟩; conv => whnf) | (refine ⟨[_, _], _, [_, _], [], (by assumption), two_fk rfl rfl, two_new rfl rfl, nil_upd, ?_⟩; conv => whnf) | (refine ⟨_, [], [], [], op_pickT rfl (ev_ok rfl) (ev_ok rfl), nil_fk, nil_new, nil_upd, ?_⟩; conv => whnf) | (refine ⟨_, [], [], [], op_pickF rfl (ev_ok rfl) (ev_ok rfl), nil_fk, nil_new, nil_upd, ?_⟩; conv => whnf) | (rw [beq_self_eq_true]; conv => whnf) | (rw [bne_self_eq_false]; conv => whnf))); exact Recast.refl _
  · have hg : Nat.gcd p (a % p) = 1 := hpr.coprime (fun h => hd (by
      have := Nat.le_of_dvd (by omega) h
      have := Nat.mod_lt a (show 0 < p by omega)
      omega))
    have hnd : ¬ p ∣ a := fun h => hd (Nat.mod_eq_zero_of_dvd h)
    obtain ⟨j1, j2, j3, j4⟩ := i1 hg
    generalize invF a p = iv at *
    obtain ⟨v, ok⟩ := iv
    simp only [] at j1 j2 j3 j4
    subst j1
    have hfer := fermat hpr hnd
    have h11 : (1 : Int) % p = 1 := Int.emod_eq_of_lt (by decide) (by omega)
    have k19 := (c_Pow a p (p - 1) a0 a1 (by omega) (by omega) (by omega)).res (d := .val (.int .u32 1)) (by
      rw [md_nat' hp0, ← Int.natCast_pow, ← Int.natCast_emod, hfer]; rfl)
    have k20 := (X a v a0 a1 j2 (by omega)).res (d := .val (.int .u32 1)) (by rw [md_nat' hp0, j4, h11])
    have k21 := (c_Pow a p (p - 2) a0 a1 (by omega) (by omega) (by omega)).res (d := .val (.int .u32 v)) (by
      rw [md_nat' hp0]
      have e1 : (a : Int) ^ (p - 2) * a % p = 1 := by
        have : (a : Int) ^ (p - 2) * a = ((a ^ (p - 1) : Nat) : Int) := by
          rw [← Int.pow_succ, Int.natCast_pow, show (p - 2).succ = p - 1 from by omega]
        rw [this, ← Int.natCast_emod, hfer]; rfl
      have e2 : (a : Int) ^ (p - 2) % p = ((a : Int) ^ (p - 2) * (a * v)) % p := by
        rw [Int.mul_emod, j4, ← Int.mul_emod, Int.mul_one]
      rw [e2, ← Int.mul_assoc, Int.mul_emod, e1, Int.one_mul, Int.emod_emod_of_dvd _ (Int.dvd_refl _), Int.emod_eq_of_lt j2 j3])
    have hlt : decide (v < (p : Int)) = true := decide_eq_true j3
    have hne : (((a % p : Nat) : Int) == 0) = false := beq_eq_false_iff_ne.2 (fun h => hd (Int.ofNat.inj h))
    refine callV (Z := []) tabOK mixedOK Tryd.func5 rfl (by kernel_rfl) rfl rfl (by kernel_rfl) rfl ?_
    intro W0 w0 ρ0 hE
    conv => whnf
    (repeat (first | (refine step_w1 rfl rfl ?_; conv => whnf) | (refine step_w2 rfl rfl ?_; conv => whnf) | (refine step_i (by kernel_rfl) ?_; conv => whnf) | (refine And.intro (by first | decide | omega | (simp only [tiB5, tiB22, tiB3, tiB2, tiB9, tiB55, tiB49, tiB28, tiB4, tiB66, tiB68]; omega)) ?_; conv => whnf) | (refine ⟨[], _, [], [], (by assumption), nil_fk, nil_new, nil_upd, ?_⟩; conv => whnf) | (refine ⟨[], _, [_], [], (by assumption), nil_fk, one_new rfl, nil_upd, ?_⟩; conv => whnf) | (refine ⟨[_], _, [], [], (by assumption), one_fk rfl, nil_new, nil_upd, ?_⟩; conv => whnf) | (refine ⟨[_, _], _, [], [], (by assumption), two_fk rfl rfl, nil_new, nil_upd, ?_⟩; conv => whnf) | (refine ⟨[_], _, [_], [], (by assumption), one_fk rfl, one_new rfl, nil_upd, ?_⟩; conv => whnf) | (refine ⟨[_], _, [], [_], (by assumption), one_fk rfl, nil_new, one_upd (List.mem_cons_self ..) rfl rfl rfl, ?_⟩; conv => whnf) | (refine ⟨[_, _], _, [], [_, _], (by assumption), two_fk rfl rfl, nil_new, two_upd (List.mem_cons_self ..) rfl rfl rfl (List.mem_cons_of_mem _ (List.mem_cons_self ..)) rfl rfl rfl, ?_⟩; conv => whnf) | (refine ⟨[_, _], _, [_, _], [], (by assumption), two_fk rfl rfl, two_new rfl rfl, nil_upd, ?_⟩; conv => whnf) | (refine ⟨_, [], [], [], op_pickT rfl (ev_ok rfl) (ev_ok rfl), nil_fk, nil_new, nil_upd, ?_⟩; conv => whnf) | (refine ⟨_, [], [], [], op_pickF rfl (ev_ok rfl) (ev_ok rfl), nil_fk, nil_new, nil_upd, ?_⟩; conv => whnf) | (rw [beq_self_eq_true]; conv => whnf) | (rw [bne_self_eq_false]; conv => whnf)))
    rw [hrem]
    (repeat (first | (refine step_w1 rfl rfl ?_; conv => whnf) | (refine step_w2 rfl rfl ?_; conv => whnf) | (refine step_i (by kernel_rfl) ?_; conv => whnf) | (refine And.intro (by first | decide | omega | (simp only [tiB5, tiB22, tiB3, tiB2, tiB9, tiB55, tiB49, tiB28, tiB4, tiB66, tiB68]; omega)) ?_; conv => whnf) | (refine ⟨[], _, [], [], (by assumption), nil_fk, nil_new, nil_upd, ?_⟩; conv => whnf) | (refine ⟨[], _, [_], [], (by assumption), nil_fk, one_new rfl, nil_upd, ?_⟩; conv => whnf) | (refine ⟨[_], _, [], [], (by assumption), one_fk rfl, nil_new, nil_upd, ?_⟩; conv => whnf) | (refine ⟨[_, _], _, [], [], (by assumption), two_fk rfl rfl, nil_new, nil_upd, ?_⟩; conv => whnf) | (refine ⟨[_], _, [_], [], (by assumption), one_fk rfl, one_new rfl, nil_upd, ?_⟩; conv => whnf) | (refine ⟨[_], _, [], [_], (by assumption), one_fk rfl, nil_new, one_upd (List.mem_cons_self ..) rfl rfl rfl, ?_⟩; conv => whnf) | (refine ⟨[_, _], _, [], [_, _], (by assumption), two_fk rfl rfl, nil_new, two_upd (List.mem_cons_self ..) rfl rfl rfl (List.mem_cons_of_mem _ (List.mem_cons_self ..)) rfl rfl rfl, ?_⟩; conv => whnf) | (refine ⟨[_, _], _, [_, _], [], (by assumption), two_fk rfl rfl, two_new rfl rfl, nil_upd, ?_⟩; conv => whnf) | (refine ⟨_, [], [], [], op_pickT rfl (ev_ok rfl) (ev_ok rfl), nil_fk, nil_new, nil_upd, ?_⟩; conv => whnf) | (refine ⟨_, [], [], [], op_pickF rfl (ev_ok rfl) (ev_ok rfl), nil_fk, nil_new, nil_upd, ?_⟩; conv => whnf) | (rw [beq_self_eq_true]; conv => whnf) | (rw [bne_self_eq_false]; conv => whnf)))
    rw [hrem, hne]
    (repeat (first | (refine step_w1 rfl rfl ?_; conv => whnf) | (refine step_w2 rfl rfl ?_; conv => whnf) | (refine step_i (by kernel_rfl) ?_; conv => whnf) | (refine And.intro (by first | decide | omega | (simp only [tiB5, tiB22, tiB3, tiB2, tiB9, tiB55, tiB49, tiB28, tiB4, tiB66, tiB68]; omega)) ?_; conv => whnf) | (refine ⟨[], _, [], [], (by assumption), nil_fk, nil_new, nil_upd, ?_⟩; conv => whnf) | (refine ⟨[], _, [_], [], (by assumption), nil_fk, one_new rfl, nil_upd, ?_⟩; conv => whnf) | (refine ⟨[_], _, [], [], (by assumption), one_fk rfl, nil_new, nil_upd, ?_⟩; conv => whnf) | (refine ⟨[_, _], _, [], [], (by assumption), two_fk rfl rfl, nil_new, nil_upd, ?_⟩; conv => whnf) | (refine ⟨[_], _, [_], [], (by assumption), one_fk rfl, one_new rfl, nil_upd, ?_⟩; conv => whnf) | (refine ⟨[_], _, [], [_], (by assumption), one_fk rfl, nil_new, one_upd (List.mem_cons_self ..) rfl rfl rfl, ?_⟩; conv => whnf) | (refine ⟨[_, _], _, [], [_, _], (by assumption), two_fk rfl rfl, nil_new, two_upd (List.mem_cons_self ..) rfl rfl rfl (List.mem_cons_of_mem _ (List.mem_cons_self ..)) rfl rfl rfl, ?_⟩; conv => whnf) | (refine ⟨[_, _], _, [_, _], [], (by assumption), two_fk rfl rfl, two_new rfl rfl, nil_upd, ?_⟩; conv => whnf) | (refine ⟨_, [], [], [], op_pickT rfl (ev_ok rfl) (ev_ok rfl), nil_fk, nil_new, nil_upd, ?_⟩; conv => whnf) | (refine ⟨_, [], [], [], op_pickF rfl (ev_ok rfl) (ev_ok rfl), nil_fk, nil_new, nil_upd, ?_⟩; conv => whnf) | (rw [beq_self_eq_true]; conv => whnf) | (rw [bne_self_eq_false]; conv => whnf)))
    rw [hlt]
    (repeat (first | (refine step_w1 rfl rfl ?_; conv => whnf) | (refine step_w2 rfl rfl ?_; conv => whnf) | (refine step_i (by kernel_rfl) ?_; conv => whnf) | (refine And.intro (by first | decide | omega | (simp only [tiB5, tiB22, tiB3, tiB2, tiB9, tiB55, tiB49, tiB28, tiB4, tiB66, tiB68]; omega)) ?_; conv => whnf) | (refine ⟨[], _, [], [], (by assumption), nil_fk, nil_new, nil_upd, ?_⟩; conv => whnf) | (refine ⟨[], _, [_], [], (by assumption), nil_fk, one_new rfl, nil_upd, ?_⟩; conv => whnf) | (refine ⟨[_], _, [], [], (by assumption), one_fk rfl, nil_new, nil_upd, ?_⟩; conv => whnf) | (refine ⟨[_, _], _, [], [], (by assumption), two_fk rfl rfl, nil_new, nil_upd, ?_⟩; conv => whnf) | (refine ⟨[_], _, [_], [], (by assumption), one_fk rfl, one_new rfl, nil_upd, ?_⟩; conv => whnf) | (refine ⟨[_], _, [], [_], (by assumption), one_fk rfl, nil_new, one_upd (List.mem_cons_self ..) rfl rfl rfl, ?_⟩; conv => whnf) | (refine ⟨[_, _], _, [], [_, _], (by assumption), two_fk rfl rfl, nil_new, two_upd (List.mem_cons_self ..) rfl rfl rfl (List.mem_cons_of_mem _ (List.mem_cons_self ..)) rfl rfl rfl, ?_⟩; conv => whnf) | (refine ⟨[_, _], _, [_, _], [], (by assumption), two_fk rfl rfl, two_new rfl rfl, nil_upd, ?_⟩; conv => whnf) | (refine ⟨_, [], [], [], op_pickT rfl (ev_ok rfl) (ev_ok rfl), nil_fk, nil_new, nil_upd, ?_⟩; conv => whnf) | (refine ⟨_, [], [], [], op_pickF rfl (ev_ok rfl) (ev_ok rfl), nil_fk, nil_new, nil_upd, ?_⟩; conv => whnf) | (rw [beq_self_eq_true]; conv => whnf) | (rw [bne_self_eq_false]; conv => whnf)))
    rw [w1]
    (repeat (first | (refine step_w1 rfl rfl ?_; conv => whnf) | (refine step_w2 rfl rfl ?_; conv => whnf) | (refine step_i (by kernel_rfl) ?_; conv => whnf) | (refine And.intro (by first | decide | omega | (simp only [tiB5, tiB22, tiB3, tiB2, tiB9, tiB55, tiB49, tiB28, tiB4, tiB66, tiB68]; omega)) ?_; conv => whnf) | (refine ⟨[], _, [], [], (by assumption), nil_fk, nil_new, nil_upd, ?_⟩; conv => whnf) | (refine ⟨[], _, [_], [], (by assumption), nil_fk, one_new rfl, nil_upd, ?_⟩; conv => whnf) | (refine ⟨[_], _, [], [], (by assumption), one_fk rfl, nil_new, nil_upd, ?_⟩; conv => whnf) | (refine ⟨[_, _], _, [], [], (by assumption), two_fk rfl rfl, nil_new, nil_upd, ?_⟩; conv => whnf) | (refine ⟨[_], _, [_], [], (by assumption), one_fk rfl, one_new rfl, nil_upd, ?_⟩; conv => whnf) | (refine ⟨[_], _, [], [_], (by assumption), one_fk rfl, nil_new, one_upd (List.mem_cons_self ..) rfl rfl rfl, ?_⟩; conv => whnf) | (refine ⟨[_, _], _, [], [_, _], (by assumption), two_fk rfl rfl, nil_new, two_upd (List.mem_cons_self ..) rfl rfl rfl (List.mem_cons_of_mem _ (List.mem_cons_self ..)) rfl rfl rfl, ?_⟩; conv => whnf) | (refine ⟨[_, _], _, [_, _], [], (by assumption), two_fk rfl rfl, two_new rfl rfl, nil_upd, ?_⟩; conv => whnf) | (refine ⟨_, [], [], [], op_pickT rfl (ev_ok rfl) (ev_ok rfl), nil_fk, nil_new, nil_upd, ?_⟩; conv => whnf) | (refine ⟨_, [], [], [], op_pickF rfl (ev_ok rfl) (ev_ok rfl), nil_fk, nil_new, nil_upd, ?_⟩; conv => whnf) | (rw [beq_self_eq_true]; conv => whnf) | (rw [bne_self_eq_false]; conv => whnf)))
    rw [w2]
    (repeat (first | (refine step_w1 rfl rfl ?_; conv => whnf) | (refine step_w2 rfl rfl ?_; conv => whnf) | (refine step_i (by kernel_rfl) ?_; conv => whnf) | (refine And.intro (by first | decide | omega | (simp only [tiB5, tiB22, tiB3, tiB2, tiB9, tiB55, tiB49, tiB28, tiB4, tiB66, tiB68]; omega)) ?_; conv => whnf) | (refine ⟨[], _, [], [], (by assumption), nil_fk, nil_new, nil_upd, ?_⟩; conv => whnf) | (refine ⟨[], _, [_], [], (by assumption), nil_fk, one_new rfl, nil_upd, ?_⟩; conv => whnf) | (refine ⟨[_], _, [], [], (by assumption), one_fk rfl, nil_new, nil_upd, ?_⟩; conv => whnf) | (refine ⟨[_, _], _, [], [], (by assumption), two_fk rfl rfl, nil_new, nil_upd, ?_⟩; conv => whnf) | (refine ⟨[_], _, [_], [], (by assumption), one_fk rfl, one_new rfl, nil_upd, ?_⟩; conv => whnf) | (refine ⟨[_], _, [], [_], (by assumption), one_fk rfl, nil_new, one_upd (List.mem_cons_self ..) rfl rfl rfl, ?_⟩; conv => whnf) | (refine ⟨[_, _], _, [], [_, _], (by assumption), two_fk rfl rfl, nil_new, two_upd (List.mem_cons_self ..) rfl rfl rfl (List.mem_cons_of_mem _ (List.mem_cons_self ..)) rfl rfl rfl, ?_⟩; conv => whnf) | (refine ⟨[_, _], _, [_, _], [], (by assumption), two_fk rfl rfl, two_new rfl rfl, nil_upd, ?_⟩; conv => whnf) | (refine ⟨_, [], [], [], op_pickT rfl (ev_ok rfl) (ev_ok rfl), nil_fk, nil_new, nil_upd, ?_⟩; conv => whnf) | (refine ⟨_, [], [], [], op_pickF rfl (ev_ok rfl) (ev_ok rfl), nil_fk, nil_new, nil_upd, ?_⟩; conv => whnf) | (rw [beq_self_eq_true]; conv => whnf) | (rw [bne_self_eq_false]; conv => whnf))); exact Recast.refl _

theorem law_ModsField (a b c i : Int) (ha : 0 ≤ a ∧ a < 4294967296) (hb : 0 ≤ b ∧ b < 4294967296) (hc : 0 ≤ c ∧ c < 4294967296) (hi : 0 ≤ i ∧ i < 4294967296) :
    CallOK Tryd.prog 5 [.val (.int .u32 a), .val (.int .u32 b), .val (.int .u32 c), .val (.int .u32 i)] [] (.val (.bool true)) [] [] := by
  obtain ⟨a, rfl⟩ := Int.eq_ofNat_of_zero_le ha.1
  have hj : (i % 13).toNat < plist.length := by show (i % 13).toNat < 13; omega
  have hm : plist.getD (i % 13).toNat 0 ∈ plist := by
    rw [List.getD_eq_getElem?_getD, List.getElem?_eq_getElem hj]
    exact List.getElem_mem hj
  obtain ⟨p, h1, h2, h3⟩ := plist_prime _ hm
  exact c_ModsField a b c i p h1 h2 h3 (by omega) hb hc hi
end Go.Proofs.YtghdcjhlhcoijaaDoor

/- Contracts: nats.short, shifted, half. -/
namespace Go.Proofs.YtghdcjhlhcoijaaDoor
open Go.Sx
set_option linter.unusedSimpArgs false
set_option linter.unusedVariables false
set_option maxRecDepth 100000
set_option maxHeartbeats 4000000

theorem c_short (xs : List Int) (n : Nat) (hn : n ≤ xs.length) (hl : xs.length < 1099511627776) (hx : W32 xs) (y : Nat) (hy0 : y ≠ 0) (hy : y < 4294967296) (K Q : Nat) (hKQ : Q ≠ K) (wr : Bool) (X : Nat) (hX : valI xs n = X) :
    CallOK Tryd.prog 87 [.slc K 1 0 n, .val (.int .u32 y)] [(K, ⟨22, wr, .ints .u32 xs⟩)] (.tup [.slc Q 1 0 n, .val (.int .u32 (X % y : Nat))]) [(Q, ⟨22, true, .ints .u32 (digs (X / y) n)⟩)] [] := by
  refine CallOK.anyWr ?_
  refine callK (Z := []) tabOK mixedOK Tryd.func87 rfl (by kernel_rfl) (args := [.slc 0 1 0 n, .val (.int .u32 y)]) (fk := [(0, ⟨22, false, .ints .u32 xs⟩)]) (c := .tup [.slc 9 1 0 n, .val (.int .u32 (X % y : Nat))]) (new := [(9, ⟨22, true, .ints .u32 (digs (X / y) n)⟩)]) (upd := []) (ShapeOK.of rfl rfl rfl rfl rfl rfl rfl rfl rfl rfl rfl) rfl (renBy [(0, K), (9, Q)]) (NamesOK.roNew rfl (fun q hq => by simp [keysOf] at hq; subst hq; exact hKQ)) ?_
  intro W0 w0 ρ0 hE
  conv => whnf
  have e0 : IntKind.i64.wrap ((n : Int) - 1) = (n : Int) - 1 := wrap_i64 (by omega) (by omega)
  (repeat (first | (refine step_w1 rfl rfl ?_; conv => whnf) | (refine step_w2 rfl rfl ?_; conv => whnf) | (refine step_i (by kernel_rfl) ?_; conv => whnf) | (refine And.intro (by first | decide | omega | (simp only [tiB5, tiB22, tiB3, tiB2, tiB9, tiB55, tiB49, tiB28, tiB4, tiB66, tiB68]; omega)) ?_; conv => whnf) | (refine ⟨[], _, [], [], (by assumption), nil_fk, nil_new, nil_upd, ?_⟩; conv => whnf) | (refine ⟨[], _, [_], [], (by assumption), nil_fk, one_new rfl, nil_upd, ?_⟩; conv => whnf) | (refine ⟨[_], _, [], [], (by assumption), one_fk rfl, nil_new, nil_upd, ?_⟩; conv => whnf) | (refine ⟨[_, _], _, [], [], (by assumption), two_fk rfl rfl, nil_new, nil_upd, ?_⟩; conv => whnf) | (refine ⟨[_], _, [_], [], (by assumption), one_fk rfl, one_new rfl, nil_upd, ?_⟩; conv => whnf) | (refine ⟨[_], _, [], [_], (by assumption), one_fk rfl, nil_new, one_upd (List.mem_cons_self ..) rfl rfl rfl, ?_⟩; conv => whnf) | (refine ⟨[_, _], _, [], [_, _], (by assumption), two_fk rfl rfl, nil_new, two_upd (List.mem_cons_self ..) rfl rfl rfl (List.mem_cons_of_mem _ (List.mem_cons_self ..)) rfl rfl rfl, ?_⟩; conv => whnf) | (refine ⟨[_, _], _, [_, _], [], (by assumption), two_fk rfl rfl, two_new rfl rfl, nil_upd, ?_⟩; conv => whnf) | (refine ⟨_, [], [], [], op_pickT rfl (ev_ok rfl) (ev_ok rfl), nil_fk, nil_new, nil_upd, ?_⟩; conv => whnf) | (refine ⟨_, [], [], [], op_pickF rfl (ev_ok rfl) (ev_ok rfl), nil_fk, nil_new, nil_upd, ?_⟩; conv => whnf) | (rw [beq_self_eq_true]; conv => whnf) | (rw [bne_self_eq_false]; conv => whnf) | (rw [e0]; conv => whnf)))
  refine SW_loopN hE (fun k => k) [0, 1, 4, 5, 6] [0, 9] (fun j fr hp => ∃ (q : List Int) (r : Nat), j ≤ n ∧ q.length = n ∧ W32 q ∧ (∀ i, i < j → q.getD i 0 = 0) ∧ r < y ∧ valI q n * y + r * 4294967296 ^ j = X - valI xs j ∧
    fr = [(0, .slc 0 1 0 n), (1, .val (.int .u32 y)), (4, .slc 9 1 0 n), (5, .val (.int .u32 r)), (6, .val (.int .i64 ((j : Int) - 1)))] ∧ hp = [(0, ⟨22, false, .ints .u32 xs⟩), (9, ⟨22, true, .ints .u32 q⟩)]) n ?_ ?_ ?_
  · kernel_rfl
  · exact ⟨List.replicate n 0, 0, by omega, by simp, (fun i => by rw [getD_replicate]; decide), (fun i _ => getD_replicate), by omega, by rw [valI_zeros (k := 0) (fun i _ _ => getD_replicate) (by omega), hX]; simp [valI], rfl, rfl⟩
  rintro j _ _ ⟨q, r, hj, hql, hq, hq0, hr, hval, rfl, rfl⟩
  by_cases h0 : j = 0
  · subst h0
    have t2 : decide (((0 : Nat) : Int) - 1 ≥ 0) = false := rfl
    obtain ⟨Qv, hQ⟩ := Int.eq_ofNat_of_zero_le (valI_nonneg hq n)
    have hX2 : Qv * y + r = X := by
      rw [hQ, Int.pow_zero, Int.mul_one, valI, Int.sub_zero, ← Int.natCast_mul] at hval
      omega
    have hdiv : X / y = Qv := by rw [← hX2, Nat.add_comm, Nat.add_mul_div_right _ _ (by omega), Nat.div_eq_of_lt hr, Nat.zero_add]
    have hmod : X % y = r := by rw [← hX2, Nat.add_comm, Nat.add_mul_mod_self_right, Nat.mod_eq_of_lt hr]
    rw [hdiv, hmod, ← digs_of' hql hq hQ]
    conv => whnf
    (repeat (first | (refine step_w1 rfl rfl ?_; conv => whnf) | (refine step_w2 rfl rfl ?_; conv => whnf) | (refine step_i (by kernel_rfl) ?_; conv => whnf) | (refine And.intro (by first | decide | omega | (simp only [tiB5, tiB22, tiB3, tiB2, tiB9, tiB55, tiB49, tiB28, tiB4, tiB66, tiB68]; omega)) ?_; conv => whnf) | (refine ⟨[], _, [], [], (by assumption), nil_fk, nil_new, nil_upd, ?_⟩; conv => whnf) | (refine ⟨[], _, [_], [], (by assumption), nil_fk, one_new rfl, nil_upd, ?_⟩; conv => whnf) | (refine ⟨[_], _, [], [], (by assumption), one_fk rfl, nil_new, nil_upd, ?_⟩; conv => whnf) | (refine ⟨[_, _], _, [], [], (by assumption), two_fk rfl rfl, nil_new, nil_upd, ?_⟩; conv => whnf) | (refine ⟨[_], _, [_], [], (by assumption), one_fk rfl, one_new rfl, nil_upd, ?_⟩; conv => whnf) | (refine ⟨[_], _, [], [_], (by assumption), one_fk rfl, nil_new, one_upd (List.mem_cons_self ..) rfl rfl rfl, ?_⟩; conv => whnf) | (refine ⟨[_, _], _, [], [_, _], (by assumption), two_fk rfl rfl, nil_new, two_upd (List.mem_cons_self ..) rfl rfl rfl (List.mem_cons_of_mem _ (List.mem_cons_self ..)) rfl rfl rfl, ?_⟩; conv => whnf) | (refine ⟨[_, _], _, [_, _], [], (by assumption), two_fk rfl rfl, two_new rfl rfl, nil_upd, ?_⟩; conv => whnf) | (refine ⟨_, [], [], [], op_pickT rfl (ev_ok rfl) (ev_ok rfl), nil_fk, nil_new, nil_upd, ?_⟩; conv => whnf) | (refine ⟨_, [], [], [], op_pickF rfl (ev_ok rfl) (ev_ok rfl), nil_fk, nil_new, nil_upd, ?_⟩; conv => whnf) | (rw [beq_self_eq_true]; conv => whnf) | (rw [bne_self_eq_false]; conv => whnf) | (rw [t2]; conv => whnf)))
    exact ⟨Recast.refl _, one_get rfl, (fun _ _ h => by cases h)⟩
  · obtain ⟨i, rfl⟩ : ∃ i, j = i + 1 := ⟨j - 1, by omega⟩
    have ei : (((i + 1 : Nat) : Int) - 1) = (i : Int) := by omega
    rw [ei]
    have t2 : decide ((i : Int) ≥ 0) = true := decide_eq_true (by omega)
    have e1 : 0 + (i : Int).toNat = i := by omega
    have e2 : IntKind.i64.wrap ((i : Int) - 1) = (i : Int) - 1 := wrap_i64 (by omega) (by omega)
    obtain ⟨w, hww⟩ := Int.eq_ofNat_of_zero_le (hx i).1
    have hw2 := (hx i).2
    have kd := c_Div32 r w y hr (by omega) hy
    have hrl : (r * 4294967296 + w) % y < y := Nat.mod_lt _ (by omega)
    have hqd : (r * 4294967296 + w) / y < 4294967296 := Nat.div_lt_of_lt_mul (by
      have := Nat.mul_le_mul_right 4294967296 (show r + 1 ≤ y by omega)
      rw [Nat.mul_comm y]; omega)
    have hstep : valI (q.set i (((r * 4294967296 + w) / y : Nat) : Int)) n * y + (((r * 4294967296 + w) % y : Nat) : Int) * 4294967296 ^ i = X - valI xs i := by
      rw [valI_set (by omega) (by omega), hq0 i (by omega), Int.sub_zero]
      have hdm : ((y : Int) * (((r * 4294967296 + w) / y : Nat) : Int) + (((r * 4294967296 + w) % y : Nat) : Int)) = (r : Int) * 4294967296 + w := by
        have := Nat.div_add_mod (r * 4294967296 + w) y
        rw [← Int.natCast_mul, ← Int.natCast_add, this]; omega
      rw [Int.pow_succ, valI, hww] at hval
      generalize (((r * 4294967296 + w) / y : Nat) : Int) = d at *
      generalize (((r * 4294967296 + w) % y : Nat) : Int) = e at *
      generalize (4294967296 : Int) ^ i = P at *
      grind
    conv => whnf
    (repeat (first | (refine step_w1 rfl rfl ?_; conv => whnf) | (refine step_w2 rfl rfl ?_; conv => whnf) | (refine step_i (by kernel_rfl) ?_; conv => whnf) | (refine And.intro (by first | decide | omega | (simp only [tiB5, tiB22, tiB3, tiB2, tiB9, tiB55, tiB49, tiB28, tiB4, tiB66, tiB68]; omega)) ?_; conv => whnf) | (refine ⟨[], _, [], [], (by assumption), nil_fk, nil_new, nil_upd, ?_⟩; conv => whnf) | (refine ⟨[], _, [_], [], (by assumption), nil_fk, one_new rfl, nil_upd, ?_⟩; conv => whnf) | (refine ⟨[_], _, [], [], (by assumption), one_fk rfl, nil_new, nil_upd, ?_⟩; conv => whnf) | (refine ⟨[_, _], _, [], [], (by assumption), two_fk rfl rfl, nil_new, nil_upd, ?_⟩; conv => whnf) | (refine ⟨[_], _, [_], [], (by assumption), one_fk rfl, one_new rfl, nil_upd, ?_⟩; conv => whnf) | (refine ⟨[_], _, [], [_], (by assumption), one_fk rfl, nil_new, one_upd (List.mem_cons_self ..) rfl rfl rfl, ?_⟩; conv => whnf) | (refine ⟨[_, _], _, [], [_, _], (by assumption), two_fk rfl rfl, nil_new, two_upd (List.mem_cons_self ..) rfl rfl rfl (List.mem_cons_of_mem _ (List.mem_cons_self ..)) rfl rfl rfl, ?_⟩; conv => whnf) | (refine ⟨[_, _], _, [_, _], [], (by assumption), two_fk rfl rfl, two_new rfl rfl, nil_upd, ?_⟩; conv => whnf) | (refine ⟨_, [], [], [], op_pickT rfl (ev_ok rfl) (ev_ok rfl), nil_fk, nil_new, nil_upd, ?_⟩; conv => whnf) | (refine ⟨_, [], [], [], op_pickF rfl (ev_ok rfl) (ev_ok rfl), nil_fk, nil_new, nil_upd, ?_⟩; conv => whnf) | (rw [beq_self_eq_true]; conv => whnf) | (rw [bne_self_eq_false]; conv => whnf) | (rw [t2]; conv => whnf) | (rw [e1]; conv => whnf) | (rw [hww]; conv => whnf) | (rw [e2]; conv => whnf)))
    exact ⟨i, fun k => k, [0, 1, 4, 5, 6], [0, 9], by omega, by kernel_rfl, _, _, by omega, by simpa using hql, hq.set (Int.natCast_nonneg _) (Int.ofNat_lt.2 hqd), (fun j hj => by rw [getD_set, if_neg (by omega)]; exact hq0 j (by omega)), hrl, hstep, rfl, rfl⟩

theorem shl_or {w s c : Nat} (hs : s < 32) (hc : c < 2 ^ s) (hw : w < 4294967296) :
    ior .u32 (ishl .u32 (w : Int) (s : Int)) (c : Int) = ((w * 2 ^ s % 4294967296 + c : Nat) : Int) ∧ w * 2 ^ s % 4294967296 + c < 4294967296 := by
  have hmin : min (s : Int).toNat IntKind.u32.bits = s := by simp [IntKind.bits]; omega
  have e : ishl .u32 (w : Int) (s : Int) = ((w * 2 ^ s % 4294967296 : Nat) : Int) := by
    rw [ishl, hmin, show (w : Int) * 2 ^ s = ((w * 2 ^ s : Nat) : Int) from by rw [Int.natCast_mul, Int.natCast_pow]; rfl]
    exact wu32m _
  have hW : 4294967296 = 2 ^ (32 - s) * 2 ^ s := by rw [← Nat.pow_add, show 32 - s + s = 32 from by omega]
  have e2 : w * 2 ^ s % 4294967296 = 2 ^ s * (w % 2 ^ (32 - s)) := by
    rw [hW, Nat.mul_mod_mul_right, Nat.mul_comm]
  have hm : w * 2 ^ s % 4294967296 < 4294967296 := Nat.mod_lt _ (by decide)
  have hlt : w % 2 ^ (32 - s) < 2 ^ (32 - s) := Nat.mod_lt _ (Nat.two_pow_pos _)
  have hsum : w * 2 ^ s % 4294967296 + c < 4294967296 := by
    rw [e2]
    have := Nat.mul_le_mul_left (2 ^ s) (show w % 2 ^ (32 - s) + 1 ≤ 2 ^ (32 - s) from hlt)
    rw [Nat.mul_comm (2 ^ s) (2 ^ (32 - s)), ← hW, Nat.mul_add, Nat.mul_one] at this
    omega
  refine ⟨?_, hsum⟩
  rw [e, ior_u32 hm (by omega)]
  congr 1
  rw [e2, ← Nat.two_pow_add_eq_or_of_lt hc]

theorem c_shifted (xs : List Int) (n : Nat) (hn : n ≤ xs.length) (hl : xs.length < 1099511627776) (hx : W32 xs) (s : Nat) (hs : s < 32) (K Q : Nat) (hKQ : Q ≠ K) (wr : Bool) (X : Nat) (hX : valI xs n = X) :
    CallOK Tryd.prog 101 [.slc K 1 0 n, .val (.int .i64 s)] [(K, ⟨22, wr, .ints .u32 xs⟩)] (.slc Q 1 0 (n + 1)) [(Q, ⟨22, true, .ints .u32 (digs (X * 2 ^ s) (n + 1))⟩)] [] := by
  refine CallOK.anyWr ?_
  refine callK (Z := []) tabOK mixedOK Tryd.func101 rfl (by kernel_rfl) (args := [.slc 0 1 0 n, .val (.int .i64 s)]) (fk := [(0, ⟨22, false, .ints .u32 xs⟩)]) (c := .slc 12 1 0 (n + 1)) (new := [(12, ⟨22, true, .ints .u32 (digs (X * 2 ^ s) (n + 1))⟩)]) (upd := []) (ShapeOK.of rfl rfl rfl rfl rfl rfl rfl rfl rfl rfl rfl) rfl (renBy [(0, K), (12, Q)]) (NamesOK.roNew rfl (fun q hq => by simp [keysOf] at hq; subst hq; exact hKQ)) ?_
  intro W0 w0 ρ0 hE
  conv => whnf
  have ew : IntKind.i64.wrap ((n : Int) + 1) = ((n + 1 : Nat) : Int) := by rw [wrap_i64 (by omega) (by omega)]; omega
  (repeat (first | (refine step_w1 rfl rfl ?_; conv => whnf) | (refine step_w2 rfl rfl ?_; conv => whnf) | (refine step_i (by kernel_rfl) ?_; conv => whnf) | (refine And.intro (by first | decide | omega | (simp only [tiB5, tiB22, tiB3, tiB2, tiB9, tiB55, tiB49, tiB28, tiB4, tiB66, tiB68]; omega)) ?_; conv => whnf) | (refine ⟨[], _, [], [], (by assumption), nil_fk, nil_new, nil_upd, ?_⟩; conv => whnf) | (refine ⟨[], _, [_], [], (by assumption), nil_fk, one_new rfl, nil_upd, ?_⟩; conv => whnf) | (refine ⟨[_], _, [], [], (by assumption), one_fk rfl, nil_new, nil_upd, ?_⟩; conv => whnf) | (refine ⟨[_, _], _, [], [], (by assumption), two_fk rfl rfl, nil_new, nil_upd, ?_⟩; conv => whnf) | (refine ⟨[_], _, [_], [], (by assumption), one_fk rfl, one_new rfl, nil_upd, ?_⟩; conv => whnf) | (refine ⟨[_], _, [], [_], (by assumption), one_fk rfl, nil_new, one_upd (List.mem_cons_self ..) rfl rfl rfl, ?_⟩; conv => whnf) | (refine ⟨[_, _], _, [], [_, _], (by assumption), two_fk rfl rfl, nil_new, two_upd (List.mem_cons_self ..) rfl rfl rfl (List.mem_cons_of_mem _ (List.mem_cons_self ..)) rfl rfl rfl, ?_⟩; conv => whnf) | (refine ⟨[_, _], _, [_, _], [], (by assumption), two_fk rfl rfl, two_new rfl rfl, nil_upd, ?_⟩; conv => whnf) | (refine ⟨_, [], [], [], op_pickT rfl (ev_ok rfl) (ev_ok rfl), nil_fk, nil_new, nil_upd, ?_⟩; conv => whnf) | (refine ⟨_, [], [], [], op_pickF rfl (ev_ok rfl) (ev_ok rfl), nil_fk, nil_new, nil_upd, ?_⟩; conv => whnf) | (rw [beq_self_eq_true]; conv => whnf) | (rw [bne_self_eq_false]; conv => whnf) | (rw [ew]; conv => whnf)))
  refine SW_loopN hE (fun k => k) [0, 1, 5, 6, 13, 14, 15] [0, 12] (fun m fr hp => ∃ (i : Nat) (out : List Int) (c : Nat), m = n - i ∧ i ≤ n ∧ out.length = n + 1 ∧ W32 out ∧ c < 2 ^ s ∧ valI out i + c * 4294967296 ^ i = valI xs i * 2 ^ s ∧
    fr = [(0, .slc 0 1 0 n), (1, .val (.int .i64 s)), (5, .slc 12 1 0 (n + 1)), (6, .val (.int .u32 c)), (13, .slc 0 1 0 n), (14, .val (.int .i64 n)), (15, .val (.int .i64 i))] ∧ hp = [(0, ⟨22, false, .ints .u32 xs⟩), (12, ⟨22, true, .ints .u32 out⟩)]) n ?_ ?_ ?_
  · kernel_rfl
  · exact ⟨0, List.replicate (n + 1) 0, 0, by omega, by omega, by simp, (fun i => by rw [getD_replicate]; decide), Nat.two_pow_pos s, by simp [valI], rfl, rfl⟩
  rintro m _ _ ⟨i, out, c, rfl, hi, hlen, hw, hc, hval, rfl, rfl⟩
  have hs64 : 2 ^ s ≤ 2147483648 := Nat.le_trans (Nat.pow_le_pow_right (by decide) (show s ≤ 31 by omega)) (by decide)
  by_cases hlt : i < n
  · have t1 : decide ((i : Int) < (n : Int)) = true := decide_eq_true (by omega)
    have e1 : 0 + (i : Int).toNat = i := by omega
    have e2 : IntKind.i64.wrap ((i : Int) + 1) = ((i + 1 : Nat) : Int) := by rw [wrap_i64 (by omega) (by omega)]; omega
    obtain ⟨w, hww⟩ := Int.eq_ofNat_of_zero_le (hx i).1
    have hw2 := (hx i).2
    obtain ⟨f1, f2⟩ := shl_or (w := w) hs hc (by omega)
    have hws : w * 2 ^ s ≤ 4294967295 * 2147483648 := Nat.mul_le_mul (by omega) hs64
    have f3 : IntKind.u32.wrap (ishr .u64 (ishl .u64 (IntKind.u64.wrap (w : Int)) (s : Int)) 32) = ((w * 2 ^ s / 4294967296 : Nat) : Int) := by
      have hmin : min (s : Int).toNat IntKind.u64.bits = s := by simp [IntKind.bits]; omega
      rw [wu64 (n := w) (by omega), ishl, hmin, show (w : Int) * 2 ^ s = ((w * 2 ^ s : Nat) : Int) from by rw [Int.natCast_mul, Int.natCast_pow]; rfl, wu64 (by omega), ishr_hi, wu32 (by omega)]
    have hc' : w * 2 ^ s / 4294967296 < 2 ^ s := Nat.div_lt_of_lt_mul (by
      exact Nat.mul_lt_mul_of_pos_right (by omega) (Nat.two_pow_pos s))
    have hstep : valI (out.set i ((w * 2 ^ s % 4294967296 + c : Nat) : Int)) (i + 1) + ((w * 2 ^ s / 4294967296 : Nat) : Int) * 4294967296 ^ (i + 1) = valI xs (i + 1) * 2 ^ s := by
      rw [valI, valI, valI_set_ge (Nat.le_refl _), getD_set, if_pos ⟨rfl, by omega⟩, hww, Int.pow_succ]
      have hd : ((w * 2 ^ s % 4294967296 + c : Nat) : Int) = (w : Int) * 2 ^ s + c - ((w * 2 ^ s / 4294967296 : Nat) : Int) * 4294967296 := by
        have := Nat.div_add_mod (w * 2 ^ s) 4294967296
        have h2 : ((w * 2 ^ s : Nat) : Int) = (w : Int) * 2 ^ s := by rw [Int.natCast_mul, Int.natCast_pow]; rfl
        omega
      rw [hd]
      generalize ((w * 2 ^ s / 4294967296 : Nat) : Int) = q
      generalize (4294967296 : Int) ^ i = P at *
      generalize (2 : Int) ^ s = S at *
      grind
    conv => whnf
    (repeat (first | (refine step_w1 rfl rfl ?_; conv => whnf) | (refine step_w2 rfl rfl ?_; conv => whnf) | (refine step_i (by kernel_rfl) ?_; conv => whnf) | (refine And.intro (by first | decide | omega | (simp only [tiB5, tiB22, tiB3, tiB2, tiB9, tiB55, tiB49, tiB28, tiB4, tiB66, tiB68]; omega)) ?_; conv => whnf) | (refine ⟨[], _, [], [], (by assumption), nil_fk, nil_new, nil_upd, ?_⟩; conv => whnf) | (refine ⟨[], _, [_], [], (by assumption), nil_fk, one_new rfl, nil_upd, ?_⟩; conv => whnf) | (refine ⟨[_], _, [], [], (by assumption), one_fk rfl, nil_new, nil_upd, ?_⟩; conv => whnf) | (refine ⟨[_, _], _, [], [], (by assumption), two_fk rfl rfl, nil_new, nil_upd, ?_⟩; conv => whnf) | (refine ⟨[_], _, [_], [], (by assumption), one_fk rfl, one_new rfl, nil_upd, ?_⟩; conv => whnf) | (refine ⟨[_], _, [], [_], (by assumption), one_fk rfl, nil_new, one_upd (List.mem_cons_self ..) rfl rfl rfl, ?_⟩; conv => whnf) | (refine ⟨[_, _], _, [], [_, _], (by assumption), two_fk rfl rfl, nil_new, two_upd (List.mem_cons_self ..) rfl rfl rfl (List.mem_cons_of_mem _ (List.mem_cons_self ..)) rfl rfl rfl, ?_⟩; conv => whnf) | (refine ⟨[_, _], _, [_, _], [], (by assumption), two_fk rfl rfl, two_new rfl rfl, nil_upd, ?_⟩; conv => whnf) | (refine ⟨_, [], [], [], op_pickT rfl (ev_ok rfl) (ev_ok rfl), nil_fk, nil_new, nil_upd, ?_⟩; conv => whnf) | (refine ⟨_, [], [], [], op_pickF rfl (ev_ok rfl) (ev_ok rfl), nil_fk, nil_new, nil_upd, ?_⟩; conv => whnf) | (rw [beq_self_eq_true]; conv => whnf) | (rw [bne_self_eq_false]; conv => whnf) | (rw [t1]; conv => whnf) | (rw [e1]; conv => whnf) | (rw [hww]; conv => whnf) | (rw [f1]; conv => whnf) | (rw [f3]; conv => whnf) | (rw [e2]; conv => whnf)))
    exact ⟨n - (i + 1), fun k => k, [0, 1, 5, 6, 13, 14, 15], [0, 12], by omega, by kernel_rfl, i + 1, _, _, rfl, by omega, by simpa using hlen, hw.set (by omega) (by omega), hc', hstep, rfl, rfl⟩
  · have hi' : i = n := by omega
    subst hi'
    have t1 : decide ((i : Int) < (i : Int)) = false := decide_eq_false (by omega)
    have e1 : 0 + (i : Int).toNat = i := by omega
    have hcl : c < 4294967296 := by omega
    have hfin : valI (out.set i (c : Int)) (i + 1) = ((X * 2 ^ s : Nat) : Int) := by
      rw [valI, valI_set_ge (Nat.le_refl _), getD_set, if_pos ⟨rfl, by omega⟩, hval, hX, Int.natCast_mul, Int.natCast_pow]; rfl
    rw [← digs_of' (xs := out.set i (c : Int)) (by simpa using hlen) (hw.set (by omega) (by omega)) hfin]
    conv => whnf
    (repeat (first | (refine step_w1 rfl rfl ?_; conv => whnf) | (refine step_w2 rfl rfl ?_; conv => whnf) | (refine step_i (by kernel_rfl) ?_; conv => whnf) | (refine And.intro (by first | decide | omega | (simp only [tiB5, tiB22, tiB3, tiB2, tiB9, tiB55, tiB49, tiB28, tiB4, tiB66, tiB68]; omega)) ?_; conv => whnf) | (refine ⟨[], _, [], [], (by assumption), nil_fk, nil_new, nil_upd, ?_⟩; conv => whnf) | (refine ⟨[], _, [_], [], (by assumption), nil_fk, one_new rfl, nil_upd, ?_⟩; conv => whnf) | (refine ⟨[_], _, [], [], (by assumption), one_fk rfl, nil_new, nil_upd, ?_⟩; conv => whnf) | (refine ⟨[_, _], _, [], [], (by assumption), two_fk rfl rfl, nil_new, nil_upd, ?_⟩; conv => whnf) | (refine ⟨[_], _, [_], [], (by assumption), one_fk rfl, one_new rfl, nil_upd, ?_⟩; conv => whnf) | (refine ⟨[_], _, [], [_], (by assumption), one_fk rfl, nil_new, one_upd (List.mem_cons_self ..) rfl rfl rfl, ?_⟩; conv => whnf) | (refine ⟨[_, _], _, [], [_, _], (by assumption), two_fk rfl rfl, nil_new, two_upd (List.mem_cons_self ..) rfl rfl rfl (List.mem_cons_of_mem _ (List.mem_cons_self ..)) rfl rfl rfl, ?_⟩; conv => whnf) | (refine ⟨[_, _], _, [_, _], [], (by assumption), two_fk rfl rfl, two_new rfl rfl, nil_upd, ?_⟩; conv => whnf) | (refine ⟨_, [], [], [], op_pickT rfl (ev_ok rfl) (ev_ok rfl), nil_fk, nil_new, nil_upd, ?_⟩; conv => whnf) | (refine ⟨_, [], [], [], op_pickF rfl (ev_ok rfl) (ev_ok rfl), nil_fk, nil_new, nil_upd, ?_⟩; conv => whnf) | (rw [beq_self_eq_true]; conv => whnf) | (rw [bne_self_eq_false]; conv => whnf) | (rw [t1]; conv => whnf) | (rw [e1]; conv => whnf)))
    exact ⟨Recast.refl _, one_get rfl, (fun _ _ h => by cases h)⟩

theorem c_half (us : List Int) (hl : us.length < 1099511627776) (hu : W32 us) (K : Nat) (U : Nat) (hU : valI us us.length = U) :
    CallOK Tryd.prog 103 [.slc K 1 0 us.length] [(K, ⟨22, true, .ints .u32 us⟩)] (.tup []) [] [(K, ⟨22, true, .ints .u32 (digs (U / 2) us.length)⟩)] := by
  refine callK (Z := []) tabOK mixedOK Tryd.func103 rfl (by kernel_rfl) (args := [.slc 0 1 0 us.length]) (fk := [(0, ⟨22, true, .ints .u32 us⟩)]) (c := .tup []) (new := []) (upd := [(0, ⟨22, true, .ints .u32 (digs (U / 2) us.length)⟩)]) (ShapeOK.of rfl rfl rfl rfl rfl rfl rfl rfl rfl rfl rfl) rfl (fun _ => K) NamesOK.upd ?_
  intro W0 w0 ρ0 hE
  conv => whnf
  (repeat (first | (refine step_w1 rfl rfl ?_; conv => whnf) | (refine step_w2 rfl rfl ?_; conv => whnf) | (refine step_i (by kernel_rfl) ?_; conv => whnf) | (refine And.intro (by first | decide | omega | (simp only [tiB5, tiB22, tiB3, tiB2, tiB9, tiB55, tiB49, tiB28, tiB4, tiB66, tiB68]; omega)) ?_; conv => whnf) | (refine ⟨[], _, [], [], (by assumption), nil_fk, nil_new, nil_upd, ?_⟩; conv => whnf) | (refine ⟨[], _, [_], [], (by assumption), nil_fk, one_new rfl, nil_upd, ?_⟩; conv => whnf) | (refine ⟨[_], _, [], [], (by assumption), one_fk rfl, nil_new, nil_upd, ?_⟩; conv => whnf) | (refine ⟨[_, _], _, [], [], (by assumption), two_fk rfl rfl, nil_new, nil_upd, ?_⟩; conv => whnf) | (refine ⟨[_], _, [_], [], (by assumption), one_fk rfl, one_new rfl, nil_upd, ?_⟩; conv => whnf) | (refine ⟨[_], _, [], [_], (by assumption), one_fk rfl, nil_new, one_upd (List.mem_cons_self ..) rfl rfl rfl, ?_⟩; conv => whnf) | (refine ⟨[_, _], _, [], [_, _], (by assumption), two_fk rfl rfl, nil_new, two_upd (List.mem_cons_self ..) rfl rfl rfl (List.mem_cons_of_mem _ (List.mem_cons_self ..)) rfl rfl rfl, ?_⟩; conv => whnf) | (refine ⟨[_, _], _, [_, _], [], (by assumption), two_fk rfl rfl, two_new rfl rfl, nil_upd, ?_⟩; conv => whnf) | (refine ⟨_, [], [], [], op_pickT rfl (ev_ok rfl) (ev_ok rfl), nil_fk, nil_new, nil_upd, ?_⟩; conv => whnf) | (refine ⟨_, [], [], [], op_pickF rfl (ev_ok rfl) (ev_ok rfl), nil_fk, nil_new, nil_upd, ?_⟩; conv => whnf) | (rw [beq_self_eq_true]; conv => whnf) | (rw [bne_self_eq_false]; conv => whnf)))
  refine SW_loopN hE (fun k => k) [0, 4, 5] [0] (fun m fr hp => ∃ (i : Nat) (o : List Int), m = us.length - i ∧ i ≤ us.length ∧ o.length = us.length ∧ W32 o ∧ (∀ j, i ≤ j → o.getD j 0 = us.getD j 0) ∧ 2 * valI o i + us.getD 0 0 % 2 = valI us i + us.getD i 0 % 2 * 4294967296 ^ i ∧
    fr = [(0, .slc 0 1 0 us.length), (4, .val (.int .i64 us.length)), (5, .val (.int .i64 i))] ∧ hp = [(0, ⟨22, true, .ints .u32 o⟩)]) us.length ?_ ?_ ?_
  · kernel_rfl
  · exact ⟨0, us, by omega, by omega, rfl, hu, (fun _ _ => rfl), by simp [valI], rfl, rfl⟩
  rintro m _ _ ⟨i, o, rfl, hi, hlen, hw, hrest, hval, rfl, rfl⟩
  by_cases hlt : i < us.length
  · have t1 : decide ((i : Int) < (us.length : Int)) = true := decide_eq_true (by omega)
    have e1 : 0 + (i : Int).toNat = i := by omega
    have e2 : IntKind.i64.wrap ((i : Int) + 1) = ((i + 1 : Nat) : Int) := by rw [wrap_i64 (by omega) (by omega)]; omega
    obtain ⟨w, hww⟩ := Int.eq_ofNat_of_zero_le (hu i).1
    have hw2 := (hu i).2
    have how : o.getD i 0 = (w : Int) := by rw [hrest i (Nat.le_refl _)]; exact hww
    have f1 : ishr .u32 (w : Int) 1 = ((w / 2 : Nat) : Int) := ishr_nat .u32 (s := 1) (by decide)
    obtain ⟨z, hz⟩ := Int.eq_ofNat_of_zero_le (hu (i + 1)).1
    have hz2 := (hu (i + 1)).2
    have f2 : ∀ q : Nat, q < 2147483648 → ior .u32 (q : Int) (ishl .u32 (z : Int) 31) = ((q + z % 2 * 2147483648 : Nat) : Int) := fun q hq => by
      have e : ishl .u32 (z : Int) 31 = ((2147483648 * (z % 2) : Nat) : Int) := by
        show IntKind.u32.wrap ((z : Int) * 2147483648) = _
        rw [show (z : Int) * 2147483648 = ((z * 2147483648 : Nat) : Int) from by omega, wu32m]
        congr 1; omega
      rw [e, ior_u32 (by omega) (by omega), Nat.or_comm, show 2147483648 * (z % 2) = 2 ^ 31 * (z % 2) from rfl, ← Nat.two_pow_add_eq_or_of_lt (i := 31) hq]
      congr 1; omega
    have hstep : ∀ t : Int, t = us.getD (i + 1) 0 % 2 → 2 * valI (o.set i (((w / 2 : Nat) : Int) + t * 2147483648)) (i + 1) + us.getD 0 0 % 2 = valI us (i + 1) + us.getD (i + 1) 0 % 2 * 4294967296 ^ (i + 1) := fun t ht => by
      rw [← ht, valI, valI, valI_set_ge (Nat.le_refl _), getD_set, if_pos ⟨rfl, by omega⟩, hww, Int.pow_succ]
      rw [hww] at hval
      have hd : 2 * ((w / 2 : Nat) : Int) = (w : Int) - (w : Int) % 2 := by omega
      generalize ((w / 2 : Nat) : Int) = q at *
      generalize (w : Int) % 2 = p at *
      generalize (4294967296 : Int) ^ i = P at *
      generalize us.getD 0 0 % 2 = b at *
      grind
    have hrest' : ∀ (v : Int) j, i + 1 ≤ j → (o.set i v).getD j 0 = us.getD j 0 := fun v j hj => by
      rw [getD_set, if_neg (by omega)]; exact hrest j (by omega)
    by_cases hn : i + 1 < us.length
    · have t2 : decide (((i + 1 : Nat) : Int) < (us.length : Int)) = true := decide_eq_true (by omega)
      have e3 : 0 + ((i + 1 : Nat) : Int).toNat = i + 1 := by omega
      have g1 : ∀ v : Int, (o.set i v).getD i 0 = v := fun v => by rw [getD_set, if_pos ⟨rfl, by omega⟩]
      have g2 : ∀ v : Int, (o.set i v).getD (i + 1) 0 = (z : Int) := fun v => by rw [hrest' v _ (Nat.le_refl _)]; exact hz
      have g3 : ∀ u v : Int, (o.set i u).set i v = o.set i v := fun u v => by rw [List.set_set]
      have g4 : ((w / 2 + z % 2 * 2147483648 : Nat) : Int) = ((w / 2 : Nat) : Int) + us.getD (i + 1) 0 % 2 * 2147483648 := by rw [hz]; omega
      conv => whnf
      have g5 : ∀ v : Int, (o.set i v).length = us.length := fun v => by simpa using hlen
      (repeat (first | (refine step_w1 rfl rfl ?_; conv => whnf) | (refine step_w2 rfl rfl ?_; conv => whnf) | (refine step_i (by kernel_rfl) ?_; conv => whnf) | (refine And.intro (by first | decide | omega | (simp only [tiB5, tiB22, tiB3, tiB2, tiB9, tiB55, tiB49, tiB28, tiB4, tiB66, tiB68]; omega)) ?_; conv => whnf) | (refine ⟨[], _, [], [], (by assumption), nil_fk, nil_new, nil_upd, ?_⟩; conv => whnf) | (refine ⟨[], _, [_], [], (by assumption), nil_fk, one_new rfl, nil_upd, ?_⟩; conv => whnf) | (refine ⟨[_], _, [], [], (by assumption), one_fk rfl, nil_new, nil_upd, ?_⟩; conv => whnf) | (refine ⟨[_, _], _, [], [], (by assumption), two_fk rfl rfl, nil_new, nil_upd, ?_⟩; conv => whnf) | (refine ⟨[_], _, [_], [], (by assumption), one_fk rfl, one_new rfl, nil_upd, ?_⟩; conv => whnf) | (refine ⟨[_], _, [], [_], (by assumption), one_fk rfl, nil_new, one_upd (List.mem_cons_self ..) rfl rfl rfl, ?_⟩; conv => whnf) | (refine ⟨[_, _], _, [], [_, _], (by assumption), two_fk rfl rfl, nil_new, two_upd (List.mem_cons_self ..) rfl rfl rfl (List.mem_cons_of_mem _ (List.mem_cons_self ..)) rfl rfl rfl, ?_⟩; conv => whnf) | (refine ⟨[_, _], _, [_, _], [], (by assumption), two_fk rfl rfl, two_new rfl rfl, nil_upd, ?_⟩; conv => whnf) | (refine ⟨_, [], [], [], op_pickT rfl (ev_ok rfl) (ev_ok rfl), nil_fk, nil_new, nil_upd, ?_⟩; conv => whnf) | (refine ⟨_, [], [], [], op_pickF rfl (ev_ok rfl) (ev_ok rfl), nil_fk, nil_new, nil_upd, ?_⟩; conv => whnf) | (rw [beq_self_eq_true]; conv => whnf) | (rw [bne_self_eq_false]; conv => whnf) | (rw [t1]; conv => whnf) | (rw [e1]; conv => whnf) | (rw [how]; conv => whnf) | (rw [f1]; conv => whnf) | (rw [e2]; conv => whnf) | (rw [t2]; conv => whnf) | (rw [e3]; conv => whnf) | (rw [g1]; conv => whnf) | (rw [g2]; conv => whnf) | (rw [f2 (w / 2) (by omega)]; conv => whnf) | (rw [g3]; conv => whnf) | (rw [g4]; conv => whnf) | (rw [g5]; conv => whnf)))
      exact ⟨us.length - (i + 1), fun k => k, [0, 4, 5], [0], by omega, by kernel_rfl, i + 1, _, rfl, by omega, by simpa using hlen, hw.set (by omega) (by omega), hrest' _, hstep _ rfl, rfl, rfl⟩
    · have t2 : decide (((i + 1 : Nat) : Int) < (us.length : Int)) = false := decide_eq_false (by omega)
      have hz0 : us.getD (i + 1) 0 = 0 := getD_ge (by omega)
      have := hstep 0 (by rw [hz0]; rfl)
      rw [Int.zero_mul, Int.add_zero] at this
      conv => whnf
      (repeat (first | (refine step_w1 rfl rfl ?_; conv => whnf) | (refine step_w2 rfl rfl ?_; conv => whnf) | (refine step_i (by kernel_rfl) ?_; conv => whnf) | (refine And.intro (by first | decide | omega | (simp only [tiB5, tiB22, tiB3, tiB2, tiB9, tiB55, tiB49, tiB28, tiB4, tiB66, tiB68]; omega)) ?_; conv => whnf) | (refine ⟨[], _, [], [], (by assumption), nil_fk, nil_new, nil_upd, ?_⟩; conv => whnf) | (refine ⟨[], _, [_], [], (by assumption), nil_fk, one_new rfl, nil_upd, ?_⟩; conv => whnf) | (refine ⟨[_], _, [], [], (by assumption), one_fk rfl, nil_new, nil_upd, ?_⟩; conv => whnf) | (refine ⟨[_, _], _, [], [], (by assumption), two_fk rfl rfl, nil_new, nil_upd, ?_⟩; conv => whnf) | (refine ⟨[_], _, [_], [], (by assumption), one_fk rfl, one_new rfl, nil_upd, ?_⟩; conv => whnf) | (refine ⟨[_], _, [], [_], (by assumption), one_fk rfl, nil_new, one_upd (List.mem_cons_self ..) rfl rfl rfl, ?_⟩; conv => whnf) | (refine ⟨[_, _], _, [], [_, _], (by assumption), two_fk rfl rfl, nil_new, two_upd (List.mem_cons_self ..) rfl rfl rfl (List.mem_cons_of_mem _ (List.mem_cons_self ..)) rfl rfl rfl, ?_⟩; conv => whnf) | (refine ⟨[_, _], _, [_, _], [], (by assumption), two_fk rfl rfl, two_new rfl rfl, nil_upd, ?_⟩; conv => whnf) | (refine ⟨_, [], [], [], op_pickT rfl (ev_ok rfl) (ev_ok rfl), nil_fk, nil_new, nil_upd, ?_⟩; conv => whnf) | (refine ⟨_, [], [], [], op_pickF rfl (ev_ok rfl) (ev_ok rfl), nil_fk, nil_new, nil_upd, ?_⟩; conv => whnf) | (rw [beq_self_eq_true]; conv => whnf) | (rw [bne_self_eq_false]; conv => whnf) | (rw [t1]; conv => whnf) | (rw [e1]; conv => whnf) | (rw [how]; conv => whnf) | (rw [f1]; conv => whnf) | (rw [e2]; conv => whnf) | (rw [t2]; conv => whnf)))
      exact ⟨us.length - (i + 1), fun k => k, [0, 4, 5], [0], by omega, by kernel_rfl, i + 1, _, rfl, by omega, by simpa using hlen, hw.set (by omega) (by omega), hrest' _, this, rfl, rfl⟩
  · have hi' : i = us.length := by omega
    subst hi'
    have t1 : decide ((us.length : Int) < (us.length : Int)) = false := decide_eq_false (by omega)
    rw [getD_ge (xs := us) (i := us.length) (Nat.le_refl _), hU] at hval
    have hfin : valI o us.length = ((U / 2 : Nat) : Int) := by
      rw [show (0 : Int) % 2 = 0 from rfl, Int.zero_mul, Int.add_zero] at hval
      omega
    rw [← digs_of' hlen hw hfin]
    conv => whnf
    (repeat (first | (refine step_w1 rfl rfl ?_; conv => whnf) | (refine step_w2 rfl rfl ?_; conv => whnf) | (refine step_i (by kernel_rfl) ?_; conv => whnf) | (refine And.intro (by first | decide | omega | (simp only [tiB5, tiB22, tiB3, tiB2, tiB9, tiB55, tiB49, tiB28, tiB4, tiB66, tiB68]; omega)) ?_; conv => whnf) | (refine ⟨[], _, [], [], (by assumption), nil_fk, nil_new, nil_upd, ?_⟩; conv => whnf) | (refine ⟨[], _, [_], [], (by assumption), nil_fk, one_new rfl, nil_upd, ?_⟩; conv => whnf) | (refine ⟨[_], _, [], [], (by assumption), one_fk rfl, nil_new, nil_upd, ?_⟩; conv => whnf) | (refine ⟨[_, _], _, [], [], (by assumption), two_fk rfl rfl, nil_new, nil_upd, ?_⟩; conv => whnf) | (refine ⟨[_], _, [_], [], (by assumption), one_fk rfl, one_new rfl, nil_upd, ?_⟩; conv => whnf) | (refine ⟨[_], _, [], [_], (by assumption), one_fk rfl, nil_new, one_upd (List.mem_cons_self ..) rfl rfl rfl, ?_⟩; conv => whnf) | (refine ⟨[_, _], _, [], [_, _], (by assumption), two_fk rfl rfl, nil_new, two_upd (List.mem_cons_self ..) rfl rfl rfl (List.mem_cons_of_mem _ (List.mem_cons_self ..)) rfl rfl rfl, ?_⟩; conv => whnf) | (refine ⟨[_, _], _, [_, _], [], (by assumption), two_fk rfl rfl, two_new rfl rfl, nil_upd, ?_⟩; conv => whnf) | (refine ⟨_, [], [], [], op_pickT rfl (ev_ok rfl) (ev_ok rfl), nil_fk, nil_new, nil_upd, ?_⟩; conv => whnf) | (refine ⟨_, [], [], [], op_pickF rfl (ev_ok rfl) (ev_ok rfl), nil_fk, nil_new, nil_upd, ?_⟩; conv => whnf) | (rw [beq_self_eq_true]; conv => whnf) | (rw [bne_self_eq_false]; conv => whnf) | (rw [t1]; conv => whnf)))
    exact ⟨Recast.refl _, (fun _ _ h => by cases h), one_get rfl⟩
end Go.Proofs.YtghdcjhlhcoijaaDoor

/- Contract: nats.less. -/
namespace Go.Proofs.YtghdcjhlhcoijaaDoor
open Go.Sx
set_option linter.unusedSimpArgs false
set_option linter.unusedVariables false
set_option maxRecDepth 100000
set_option maxHeartbeats 4000000

theorem digs_pad {v m L : Nat} (hv : v < 4294967296 ^ m) (hm : m ≤ L) : digs v m ++ List.replicate (L - m) 0 = digs v L := by
  refine List.ext_getElem? fun i => ?_
  by_cases h1 : i < m
  · rw [List.getElem?_append_left (by rw [digs_len]; exact h1)]
    simp only [digs, List.getElem?_map, List.getElem?_range h1, List.getElem?_range (show i < L by omega)]
  · rw [List.getElem?_append_right (by rw [digs_len]; omega), digs_len]
    by_cases h2 : i < L
    · rw [List.getElem?_replicate, if_pos (by omega)]
      simp only [digs, List.getElem?_map, List.getElem?_range h2, Option.map_some]
      have : v / 4294967296 ^ i = 0 := Nat.div_eq_of_lt (Nat.lt_of_lt_of_le hv (Nat.pow_le_pow_right (by decide) (by omega)))
      rw [this]; rfl
    · rw [List.getElem?_replicate, if_neg (by omega), List.getElem?_eq_none (by rw [digs_len]; omega)]

theorem digs_hi {v m L i : Nat} (hv : v < 4294967296 ^ m) (hi : m ≤ i) : (digs v L).getD i 0 = 0 := by
  by_cases h2 : i < L
  · rw [digs_get h2, Nat.div_eq_of_lt (Nat.lt_of_lt_of_le hv (Nat.pow_le_pow_right (by decide) hi))]; rfl
  · exact getD_ge (by rw [digs_len]; omega)

/-- A list that is zero above is given by its number. -/
theorem digs_low {o : List Int} {L m v : Nat} (hl : o.length = L) (hw : W32 o) (hz : ∀ j, m ≤ j → o.getD j 0 = 0) (hm : m ≤ L) (hv : valI o m = v) : o = digs v L :=
  digs_of' hl hw (by rw [valI_zeros (k := m) (fun i h1 _ => hz i h1) hm, hv])

theorem less_step {o us vs : List Int} {s i d w c l x : Nat} (hi : s + i < o.length) (hx : us.getD (s + i) 0 = x) (hv : vs.getD i 0 = w) (hl : l ≤ 1) (hxl : x < 4294967296)
    (hval : valI o (s + i) = valI us (s + i) - d * valI vs i * 4294967296 ^ s + ((c : Int) + l) * 4294967296 ^ (s + i)) :
    valI (o.set (s + i) (((x + 4294967296 - (c + d * w) % 4294967296 - l) % 4294967296 : Nat) : Int)) (s + (i + 1)) = valI us (s + (i + 1)) - d * valI vs (i + 1) * 4294967296 ^ s + ((((c + d * w) / 4294967296 : Nat) : Int) + ((if x < (c + d * w) % 4294967296 + l then 1 else 0 : Nat) : Int)) * 4294967296 ^ (s + (i + 1)) := by
  rw [show s + (i + 1) = (s + i) + 1 from by omega, valI, valI, valI, valI_set_ge (Nat.le_refl _), getD_set, if_pos ⟨rfl, hi⟩, hx, hv, Int.pow_succ]
  have hlo : (c + d * w) % 4294967296 < 4294967296 := Nat.mod_lt _ (by decide)
  have hd : (((x + 4294967296 - (c + d * w) % 4294967296 - l) % 4294967296 : Nat) : Int) = (x : Int) - (((c + d * w) % 4294967296 : Nat) : Int) - l + ((if x < (c + d * w) % 4294967296 + l then 1 else 0 : Nat) : Int) * 4294967296 := by
    split <;> omega
  have hc : (((c + d * w) % 4294967296 : Nat) : Int) = (c : Int) + d * w - (((c + d * w) / 4294967296 : Nat) : Int) * 4294967296 := by
    have := Nat.div_add_mod (c + d * w) 4294967296
    have h2 : ((d * w : Nat) : Int) = (d : Int) * w := Int.natCast_mul _ _
    omega
  rw [hd, hc, hval, Int.pow_add]
  generalize ((if x < (c + d * w) % 4294967296 + l then 1 else 0 : Nat) : Int) = l'
  generalize (((c + d * w) / 4294967296 : Nat) : Int) = q
  generalize (4294967296 : Int) ^ s = S
  generalize (4294967296 : Int) ^ i = P
  grind

theorem less_fin {o us vs : List Int} {s n d c l x : Nat} (hi : s + n < o.length) (hx : us.getD (s + n) 0 = x) (hl : l ≤ 1) (hc : c < 4294967296) (hxl : x < 4294967296)
    (hval : valI o (s + n) = valI us (s + n) - d * valI vs n * 4294967296 ^ s + ((c : Int) + l) * 4294967296 ^ (s + n)) :
    valI (o.set (s + n) (((x + 4294967296 - c - l) % 4294967296 : Nat) : Int)) (s + n + 1) = valI us (s + n + 1) - d * valI vs n * 4294967296 ^ s + ((if x < c + l then 1 else 0 : Nat) : Int) * 4294967296 ^ (s + n + 1) := by
  rw [valI, valI, valI_set_ge (Nat.le_refl _), getD_set, if_pos ⟨rfl, hi⟩, hx, Int.pow_succ]
  have hd : (((x + 4294967296 - c - l) % 4294967296 : Nat) : Int) = (x : Int) - c - l + ((if x < c + l then 1 else 0 : Nat) : Int) * 4294967296 := by
    split <;> omega
  rw [hd, hval]
  generalize ((if x < c + l then 1 else 0 : Nat) : Int) = l'
  generalize (4294967296 : Int) ^ (s + n) = S
  generalize (4294967296 : Int) ^ s = P
  grind

/-- The end of less: the borrow tells the sign, and the number is reduced. -/
theorem less_end {R D B l : Nat} {v : Int} (hl : l ≤ 1) (h0 : 0 ≤ v) (h1 : v < B) (hR : R < B) (hv : v = (R : Int) - D + l * B) :
    decide ((l : Int) > 0) = decide (R < D) ∧ v = (((R + B - D) % B : Nat) : Int) := by
  have hcc : l = 0 ∨ l = 1 := by omega
  rcases hcc with rfl | rfl
  · have h2 : D ≤ R := by omega
    refine ⟨by rw [decide_eq_false (show ¬ R < D by omega)]; rfl, ?_⟩
    rw [show R + B - D = (R - D) + B from by omega, Nat.add_mod_right, Nat.mod_eq_of_lt (by omega)]
    omega
  · have h2 : R < D := by omega
    refine ⟨by rw [decide_eq_true h2]; rfl, ?_⟩
    rw [Nat.mod_eq_of_lt (by omega)]
    omega

theorem c_less (L s n R d V : Nat) (vs : List Int) (hL : L < 1099511627776) (hsn : s + n + 1 ≤ L) (hR : R < 4294967296 ^ (s + n + 1)) (hvl : vs.length < 1099511627776) (hn : n ≤ vs.length) (hvw : W32 vs) (hV : valI vs n = V) (hd : d < 4294967296)
    (K Q : Nat) (hKQ : K ≠ Q) :
    CallOK Tryd.prog 102 [.slc K 1 s (n + 1), .slc Q 1 0 n, .val (.int .u64 d)] [(K, ⟨22, true, .ints .u32 (digs R L)⟩), (Q, ⟨22, true, .ints .u32 vs⟩)]
      (.val (.bool (decide (R < d * V * 4294967296 ^ s)))) [] [(K, ⟨22, true, .ints .u32 (digs ((R + 4294967296 ^ (s + n + 1) - d * V * 4294967296 ^ s) % 4294967296 ^ (s + n + 1)) L)⟩), (Q, ⟨22, true, .ints .u32 vs⟩)] := by
  refine callK (Z := []) tabOK mixedOK Tryd.func102 rfl (by kernel_rfl) (args := [.slc 0 1 s (n + 1), .slc 1 1 0 n, .val (.int .u64 d)]) (fk := [(0, ⟨22, true, .ints .u32 (digs R L)⟩), (1, ⟨22, true, .ints .u32 vs⟩)])
    (c := .val (.bool (decide (R < d * V * 4294967296 ^ s)))) (new := []) (upd := [(0, ⟨22, true, .ints .u32 (digs ((R + 4294967296 ^ (s + n + 1) - d * V * 4294967296 ^ s) % 4294967296 ^ (s + n + 1)) L)⟩), (1, ⟨22, true, .ints .u32 vs⟩)]) (ShapeOK.of rfl rfl rfl rfl rfl rfl rfl rfl rfl rfl rfl) rfl (renBy [(0, K), (1, Q)]) (NamesOK.two hKQ) ?_
  intro W0 w0 ρ0 hE
  conv => whnf
  (repeat (first | (refine step_w1 rfl rfl ?_; conv => whnf) | (refine step_w2 rfl rfl ?_; conv => whnf) | (refine step_i (by kernel_rfl) ?_; conv => whnf) | (refine And.intro (by first | decide | omega | (simp only [tiB5, tiB22, tiB3, tiB2, tiB9, tiB55, tiB49, tiB28, tiB4, tiB66, tiB68]; omega)) ?_; conv => whnf) | (refine ⟨[], _, [], [], (by assumption), nil_fk, nil_new, nil_upd, ?_⟩; conv => whnf) | (refine ⟨[], _, [_], [], (by assumption), nil_fk, one_new rfl, nil_upd, ?_⟩; conv => whnf) | (refine ⟨[_], _, [], [], (by assumption), one_fk rfl, nil_new, nil_upd, ?_⟩; conv => whnf) | (refine ⟨[_, _], _, [], [], (by assumption), two_fk rfl rfl, nil_new, nil_upd, ?_⟩; conv => whnf) | (refine ⟨[_], _, [_], [], (by assumption), one_fk rfl, one_new rfl, nil_upd, ?_⟩; conv => whnf) | (refine ⟨[_], _, [], [_], (by assumption), one_fk rfl, nil_new, one_upd (List.mem_cons_self ..) rfl rfl rfl, ?_⟩; conv => whnf) | (refine ⟨[_, _], _, [], [_, _], (by assumption), two_fk rfl rfl, nil_new, two_upd (List.mem_cons_self ..) rfl rfl rfl (List.mem_cons_of_mem _ (List.mem_cons_self ..)) rfl rfl rfl, ?_⟩; conv => whnf) | (refine ⟨[_, _], _, [_, _], [], (by assumption), two_fk rfl rfl, two_new rfl rfl, nil_upd, ?_⟩; conv => whnf) | (refine ⟨_, [], [], [], op_pickT rfl (ev_ok rfl) (ev_ok rfl), nil_fk, nil_new, nil_upd, ?_⟩; conv => whnf) | (refine ⟨_, [], [], [], op_pickF rfl (ev_ok rfl) (ev_ok rfl), nil_fk, nil_new, nil_upd, ?_⟩; conv => whnf) | (rw [beq_self_eq_true]; conv => whnf) | (rw [bne_self_eq_false]; conv => whnf)))
  have husl : (digs R L).length = L := digs_len R L
  have husw : W32 (digs R L) := digs_w32 R L
  have husv : valI (digs R L) (s + n + 1) = R := by
    have h1 := valI_zeros (xs := digs R L) (k := s + n + 1) (n := L) (fun i h1 _ => digs_hi hR h1) hsn
    rw [← h1, valI_digs, Nat.mod_eq_of_lt (Nat.lt_of_lt_of_le hR (Nat.pow_le_pow_right (by decide) hsn))]
  have hlow : ∀ (o : List Int) (v : Nat), o.length = L → W32 o → (∀ j, s + n + 1 ≤ j → o.getD j 0 = 0) → valI o (s + n + 1) = v → o = digs v L := fun o v h1 h2 h3 h4 => digs_low h1 h2 h3 hsn h4
  have hz : ∀ j, s + n + 1 ≤ j → (digs R L).getD j 0 = 0 := fun j hj => digs_hi hR hj
  generalize digs R L = us at *
  refine SW_loopN hE (fun k => k) [0, 1, 2, 7, 8, 12, 13, 14] [0, 1] (fun m fr hp => ∃ (i : Nat) (o : List Int) (c l : Nat), m = n - i ∧ i ≤ n ∧ o.length = L ∧ W32 o ∧ c < 4294967296 ∧ l ≤ 1 ∧ (∀ j, s + i ≤ j → o.getD j 0 = us.getD j 0) ∧ valI o (s + i) = valI us (s + i) - d * valI vs i * 4294967296 ^ s + ((c : Int) + l) * 4294967296 ^ (s + i) ∧
    fr = [(0, .slc 0 1 s (n + 1)), (1, .slc 1 1 0 n), (2, .val (.int .u64 d)), (7, .val (.int .u64 c)), (8, .val (.int .u32 l)), (12, .slc 1 1 0 n), (13, .val (.int .i64 n)), (14, .val (.int .i64 i))] ∧ hp = [(0, ⟨22, true, .ints .u32 o⟩), (1, ⟨22, true, .ints .u32 vs⟩)]) n ?_ ?_ ?_
  · kernel_rfl
  · exact ⟨0, us, 0, 0, by omega, by omega, husl, husw, by omega, by omega, (fun _ _ => rfl), by simp [valI], rfl, rfl⟩
  rintro m _ _ ⟨i, o, c, l, rfl, hi, hlen, hw, hc, hl, hrest, hval, rfl, rfl⟩
  obtain ⟨x, hx⟩ := Int.eq_ofNat_of_zero_le (husw (s + i)).1
  have hx2 := (husw (s + i)).2
  have hox : o.getD (s + i) 0 = (x : Int) := by rw [hrest _ (Nat.le_refl _)]; exact hx
  by_cases hlt : i < n
  · have t1 : decide ((i : Int) < (n : Int)) = true := decide_eq_true (by omega)
    have e1 : 0 + (i : Int).toNat = i := by omega
    have e1s : s + (i : Int).toNat = s + i := by omega
    have e2 : IntKind.i64.wrap ((i : Int) + 1) = ((i + 1 : Nat) : Int) := by rw [wrap_i64 (by omega) (by omega)]; omega
    obtain ⟨w, hww⟩ := Int.eq_ofNat_of_zero_le (hvw i).1
    have hw2 := (hvw i).2
    have hp : d * w ≤ 4294967295 * 4294967295 := Nat.mul_le_mul (by omega) (by omega)
    have e9 : IntKind.u64.wrap ((c : Int) + IntKind.u64.wrap ((d : Int) * IntKind.u64.wrap (w : Int))) = ((c + d * w : Nat) : Int) := by
      rw [wu64 (n := w) (by omega), ← Int.natCast_mul, wu64 (n := d * w) (by omega), ← Int.natCast_add, wu64 (by omega)]
    have e10 : IntKind.u32.wrap ((c + d * w : Nat) : Int) = (((c + d * w) % 4294967296 : Nat) : Int) := wu32m _
    have e11 : ishr .u64 ((c + d * w : Nat) : Int) 32 = (((c + d * w) / 4294967296 : Nat) : Int) := ishr_hi _
    have k32 := c_Sub32 x ((c + d * w) % 4294967296) l (by omega) (by omega) hl
    have hstep := less_step (o := o) (us := us) (vs := vs) (by omega) hx hww hl (by omega) hval
    have hc' : (c + d * w) / 4294967296 < 4294967296 := by omega
    have hl' : (if x < (c + d * w) % 4294967296 + l then 1 else 0 : Nat) ≤ 1 := by split <;> omega
    conv => whnf
    (repeat (first | (refine step_w1 rfl rfl ?_; conv => whnf) | (refine step_w2 rfl rfl ?_; conv => whnf) | (refine step_i (by kernel_rfl) ?_; conv => whnf) | (refine And.intro (by first | decide | omega | (simp only [tiB5, tiB22, tiB3, tiB2, tiB9, tiB55, tiB49, tiB28, tiB4, tiB66, tiB68]; omega)) ?_; conv => whnf) | (refine ⟨[], _, [], [], (by assumption), nil_fk, nil_new, nil_upd, ?_⟩; conv => whnf) | (refine ⟨[], _, [_], [], (by assumption), nil_fk, one_new rfl, nil_upd, ?_⟩; conv => whnf) | (refine ⟨[_], _, [], [], (by assumption), one_fk rfl, nil_new, nil_upd, ?_⟩; conv => whnf) | (refine ⟨[_, _], _, [], [], (by assumption), two_fk rfl rfl, nil_new, nil_upd, ?_⟩; conv => whnf) | (refine ⟨[_], _, [_], [], (by assumption), one_fk rfl, one_new rfl, nil_upd, ?_⟩; conv => whnf) | (refine ⟨[_], _, [], [_], (by assumption), one_fk rfl, nil_new, one_upd (List.mem_cons_self ..) rfl rfl rfl, ?_⟩; conv => whnf) | (refine ⟨[_, _], _, [], [_, _], (by assumption), two_fk rfl rfl, nil_new, two_upd (List.mem_cons_self ..) rfl rfl rfl (List.mem_cons_of_mem _ (List.mem_cons_self ..)) rfl rfl rfl, ?_⟩; conv => whnf) | (refine ⟨[_, _], _, [_, _], [], (by assumption), two_fk rfl rfl, two_new rfl rfl, nil_upd, ?_⟩; conv => whnf) | (refine ⟨_, [], [], [], op_pickT rfl (ev_ok rfl) (ev_ok rfl), nil_fk, nil_new, nil_upd, ?_⟩; conv => whnf) | (refine ⟨_, [], [], [], op_pickF rfl (ev_ok rfl) (ev_ok rfl), nil_fk, nil_new, nil_upd, ?_⟩; conv => whnf) | (rw [beq_self_eq_true]; conv => whnf) | (rw [bne_self_eq_false]; conv => whnf) | (rw [t1]; conv => whnf) | (rw [e1]; conv => whnf) | (rw [e1s]; conv => whnf) | (rw [hww]; conv => whnf) | (rw [hox]; conv => whnf) | (rw [e9]; conv => whnf) | (rw [e10]; conv => whnf) | (rw [e11]; conv => whnf) | (rw [e2]; conv => whnf)))
    exact ⟨n - (i + 1), fun k => k, [0, 1, 2, 7, 8, 12, 13, 14], [0, 1], by omega, by kernel_rfl, i + 1, _, _, _, rfl, by omega, by simpa using hlen, hw.set (by omega) (by omega), hc', hl', (fun j hj => by rw [getD_set, if_neg (by omega)]; exact hrest j (by omega)), hstep, rfl, rfl⟩
  · have hi' : i = n := by omega
    subst hi'
    have t1 : decide ((i : Int) < (i : Int)) = false := decide_eq_false (by omega)
    have e1s : s + (i : Int).toNat = s + i := by omega
    have e8 : IntKind.u32.wrap (c : Int) = (c : Int) := wu32 hc
    have k32 := c_Sub32 x c l (by omega) hc hl
    have hfin := less_fin (by omega) hx hl hc (by omega) hval
    have hl' : (if x < c + l then 1 else 0 : Nat) ≤ 1 := by split <;> omega
    have hw' : W32 (o.set (s + i) (((x + 4294967296 - c - l) % 4294967296 : Nat) : Int)) := hw.set (by omega) (by omega)
    have hol : (o.set (s + i) (((x + 4294967296 - c - l) % 4294967296 : Nat) : Int)).length = L := by simpa using hlen
    obtain ⟨hd1, hd2⟩ := less_end (R := R) (D := d * V * 4294967296 ^ s) (B := 4294967296 ^ (s + i + 1)) hl' (valI_nonneg hw' _) (by rw [natPowW]; exact valI_lt hw' _) hR (by rw [hfin, husv, hV, Int.natCast_mul, Int.natCast_mul, natPowW, natPowW])
    have ho' := hlow _ _ hol hw' (fun j hj => by rw [getD_set, if_neg (by omega), hrest j (by omega)]; exact hz j hj) hd2
    conv => whnf
    (repeat (first | (refine step_w1 rfl rfl ?_; conv => whnf) | (refine step_w2 rfl rfl ?_; conv => whnf) | (refine step_i (by kernel_rfl) ?_; conv => whnf) | (refine And.intro (by first | decide | omega | (simp only [tiB5, tiB22, tiB3, tiB2, tiB9, tiB55, tiB49, tiB28, tiB4, tiB66, tiB68]; omega)) ?_; conv => whnf) | (refine ⟨[], _, [], [], (by assumption), nil_fk, nil_new, nil_upd, ?_⟩; conv => whnf) | (refine ⟨[], _, [_], [], (by assumption), nil_fk, one_new rfl, nil_upd, ?_⟩; conv => whnf) | (refine ⟨[_], _, [], [], (by assumption), one_fk rfl, nil_new, nil_upd, ?_⟩; conv => whnf) | (refine ⟨[_, _], _, [], [], (by assumption), two_fk rfl rfl, nil_new, nil_upd, ?_⟩; conv => whnf) | (refine ⟨[_], _, [_], [], (by assumption), one_fk rfl, one_new rfl, nil_upd, ?_⟩; conv => whnf) | (refine ⟨[_], _, [], [_], (by assumption), one_fk rfl, nil_new, one_upd (List.mem_cons_self ..) rfl rfl rfl, ?_⟩; conv => whnf) | (refine ⟨[_, _], _, [], [_, _], (by assumption), two_fk rfl rfl, nil_new, two_upd (List.mem_cons_self ..) rfl rfl rfl (List.mem_cons_of_mem _ (List.mem_cons_self ..)) rfl rfl rfl, ?_⟩; conv => whnf) | (refine ⟨[_, _], _, [_, _], [], (by assumption), two_fk rfl rfl, two_new rfl rfl, nil_upd, ?_⟩; conv => whnf) | (refine ⟨_, [], [], [], op_pickT rfl (ev_ok rfl) (ev_ok rfl), nil_fk, nil_new, nil_upd, ?_⟩; conv => whnf) | (refine ⟨_, [], [], [], op_pickF rfl (ev_ok rfl) (ev_ok rfl), nil_fk, nil_new, nil_upd, ?_⟩; conv => whnf) | (rw [beq_self_eq_true]; conv => whnf) | (rw [bne_self_eq_false]; conv => whnf) | (rw [t1]; conv => whnf) | (rw [e1s]; conv => whnf) | (rw [e8]; conv => whnf) | (rw [hox]; conv => whnf)))
    rw [← ho', ← hd1]
    exact ⟨Recast.refl _, (fun _ _ h => by cases h), two_fk rfl rfl⟩
end Go.Proofs.YtghdcjhlhcoijaaDoor

/- Plain lemmas of the long division. -/
namespace Go.Proofs.YtghdcjhlhcoijaaDoor
open Go.Sx
set_option linter.unusedSimpArgs false
set_option linter.unusedVariables false
set_option maxRecDepth 100000
set_option maxHeartbeats 1000000

/-- A fact that the arithmetic tactics shall not see. -/
def Hid (p : Prop) : Prop := p
theorem Hid.out {p : Prop} (h : Hid p) : p := h

theorem step_oL {α : Type} [LT α] {a b : α} {q : Prop} (h : a < b) (hq : q) : a < b ∧ q := ⟨h, hq⟩
theorem step_oM {α : Type} [LE α] {a b : α} {q : Prop} (h : a ≤ b) (hq : q) : a ≤ b ∧ q := ⟨h, hq⟩
theorem step_oA {a b q : Prop} (h : a ∧ b) (hq : q) : (a ∧ b) ∧ q := ⟨h, hq⟩
theorem step_oE {α : Type} {a b : α} {q : Prop} (h : a = b) (hq : q) : a = b ∧ q := ⟨h, hq⟩
theorem step_oN {α : Type} {a b : α} {q : Prop} (h : a ≠ b) (hq : q) : a ≠ b ∧ q := ⟨h, hq⟩
theorem step_oT {q : Prop} (h : True) (hq : q) : True ∧ q := ⟨h, hq⟩

/-- The guess is too great when its product with two words is. -/
theorem long_low {V R P S W d r : Nat} (hP : 0 < P) (hS : 0 < S) (hW : 0 < W) (h1 : d * (V / P / W) + r = R / (P * S) / W) (h2 : r * W + R / (P * S) % W < d * (V / P % W)) : R < d * V * S := by
  have e1 := Nat.div_add_mod (V / P) W
  have e2 := Nat.div_add_mod (R / (P * S)) W
  have hV := Nat.div_mul_le_self V P
  have hPS : 0 < P * S := Nat.mul_pos hP hS
  have hR := Nat.lt_div_mul_add (a := R) hPS
  generalize V / P = V2 at *
  generalize R / (P * S) = R2 at *
  generalize V2 / W = v1 at *
  generalize V2 % W = v2 at *
  generalize R2 / W = t at *
  generalize R2 % W = u0 at *
  have h3 : R2 + 1 ≤ d * V2 := by
    rw [← e1, ← e2, ← h1, Nat.mul_add, Nat.mul_add]
    have : d * (W * v1) = W * (d * v1) := by rw [Nat.mul_left_comm]
    have : W * r = r * W := Nat.mul_comm _ _
    omega
  have h4 : (R2 + 1) * (P * S) ≤ d * V * S := by
    refine Nat.le_trans (Nat.mul_le_mul_right _ h3) ?_
    rw [show d * V2 * (P * S) = d * (V2 * P) * S from by simp only [Nat.mul_assoc]]
    exact Nat.mul_le_mul_right _ (Nat.mul_le_mul_left _ hV)
  rw [Nat.add_mul, Nat.one_mul] at h4
  omega

/-- The guess is too great by one at most: the test passed. -/
theorem long_high {V R P S W d r : Nat} (hP : 0 < P) (hS : 0 < S) (hW : 0 < W) (hd : d < W) (h1 : d * (V / P / W) + r = R / (P * S) / W) (h2 : d * (V / P % W) ≤ r * W + R / (P * S) % W) (hV : W * P ≤ V) : d * V * S ≤ R + V * S := by
  have e1 := Nat.div_add_mod (V / P) W
  have e2 := Nat.div_add_mod (R / (P * S)) W
  have hV2 := Nat.lt_div_mul_add (a := V) hP
  have hR := Nat.div_mul_le_self R (P * S)
  generalize V / P = V2 at *
  generalize R / (P * S) = R2 at *
  generalize V2 / W = v1 at *
  generalize V2 % W = v2 at *
  generalize R2 / W = t at *
  generalize R2 % W = u0 at *
  have h3 : d * V2 ≤ R2 := by
    rw [← e1, ← e2, ← h1, Nat.mul_add, Nat.mul_add]
    have : d * (W * v1) = W * (d * v1) := by rw [Nat.mul_left_comm]
    have : W * r = r * W := Nat.mul_comm _ _
    omega
  have h4 : d * V ≤ d * V2 * P + d * P := by
    rw [Nat.mul_assoc, ← Nat.mul_add]; exact Nat.mul_le_mul_left _ (by omega)
  have h5 : d * P ≤ V := Nat.le_trans (Nat.mul_le_mul_right _ (Nat.le_of_lt hd)) hV
  have h6 : d * V * S ≤ (R2 * P + V) * S := Nat.mul_le_mul_right _ (Nat.le_trans h4 (Nat.add_le_add (Nat.mul_le_mul_right _ h3) h5))
  rw [show (R2 * P + V) * S = R2 * (P * S) + V * S from by rw [Nat.add_mul, Nat.mul_assoc]] at h6
  omega

/-- The rest has become too great: the guess is not too great. -/
theorem long_rest {V R P S W d r : Nat} (hP : 0 < P) (hS : 0 < S) (hW : 0 < W) (hd : d < W) (h1 : d * (V / P / W) + r = R / (P * S) / W) (hr : W ≤ r) : d * V * S ≤ R := by
  have hPW : 0 < P * W := Nat.mul_pos hP hW
  have hV2 := Nat.lt_div_mul_add (a := V) hPW
  have hR := Nat.div_mul_le_self R (P * S * W)
  rw [Nat.div_div_eq_div_mul] at h1
  rw [Nat.div_div_eq_div_mul] at h1
  generalize V / (P * W) = v1 at *
  generalize R / (P * S * W) = t at *
  have h3 : d * V ≤ (d * v1 + W) * (P * W) := by
    have h4 : d * V ≤ d * (v1 * (P * W) + P * W) := Nat.mul_le_mul_left _ (by omega)
    rw [Nat.mul_add, ← Nat.mul_assoc] at h4
    rw [Nat.add_mul]
    exact Nat.le_trans h4 (Nat.add_le_add_left (Nat.mul_le_mul_right _ (Nat.le_of_lt hd)) _)
  have h5 : d * V * S ≤ (d * v1 + r) * (P * W) * S := Nat.mul_le_mul_right _ (Nat.le_trans h3 (Nat.mul_le_mul_right _ (by omega)))
  rw [h1, show t * (P * W) * S = t * (P * S * W) from by simp only [Nat.mul_assoc, Nat.mul_comm S W]] at h5
  omega

/-- The guess is below the word's bound when the rest is above it. -/
theorem long_small {V R P S W d r : Nat} (hP : 0 < P) (hS : 0 < S) (hW : 0 < W) (h1 : d * (V / P / W) + r = R / (P * S) / W) (hr : W ≤ r) (hR : R < V * (S * W)) : d < W := by
  have hPW : 0 < P * W := Nat.mul_pos hP hW
  have hV2 := Nat.lt_div_mul_add (a := V) hPW
  have hR2 := Nat.div_mul_le_self R (P * S * W)
  rw [Nat.div_div_eq_div_mul] at h1
  rw [Nat.div_div_eq_div_mul] at h1
  generalize V / (P * W) = v1 at *
  generalize R / (P * S * W) = t at *
  refine Classical.byContradiction fun hc => ?_
  have h2 : W * v1 ≤ d * v1 := Nat.mul_le_mul_right _ (by omega)
  have h3 : W * v1 + W ≤ t := by omega
  have h4 : (W * v1 + W) * (P * S * W) ≤ R := Nat.le_trans (Nat.mul_le_mul_right _ h3) hR2
  have h5 : V * (S * W) ≤ (v1 * (P * W) + P * W) * (S * W) := Nat.mul_le_mul_right _ (by omega)
  rw [show (v1 * (P * W) + P * W) * (S * W) = (W * v1 + W) * (P * S * W) from by grind] at h5
  omega

/-- The quotient's first guess is not too small. -/
theorem long_guess {V R P S W d : Nat} (hP : 0 < P) (hS : 0 < S) (hW : 0 < W) (hv : 0 < V / P / W) (hd : R / (P * S) / W / (V / P / W) = d) : R < (d + 1) * V * S := by
  have hPW : 0 < P * W := Nat.mul_pos hP hW
  have hPSW : 0 < P * S * W := Nat.mul_pos (Nat.mul_pos hP hS) hW
  have hV2 := Nat.div_mul_le_self V (P * W)
  have hR2 := Nat.lt_div_mul_add (a := R) hPSW
  rw [Nat.div_div_eq_div_mul R, Nat.div_div_eq_div_mul V] at hd
  rw [Nat.div_div_eq_div_mul] at hv
  have hlt := Nat.lt_div_mul_add (a := R / (P * S * W)) hv
  rw [hd] at hlt
  generalize V / (P * W) = v1 at *
  generalize R / (P * S * W) = t at *
  have h1 : t + 1 ≤ (d + 1) * v1 := by rw [Nat.add_mul]; omega
  have h2 : (t + 1) * (P * S * W) ≤ (d + 1) * V * S := by
    refine Nat.le_trans (Nat.mul_le_mul_right _ h1) ?_
    rw [show (d + 1) * v1 * (P * S * W) = (d + 1) * (v1 * (P * W)) * S from by grind]
    exact Nat.mul_le_mul_right _ (Nat.mul_le_mul_left _ hV2)
  rw [Nat.add_mul, Nat.one_mul] at h2
  omega

theorem back_step {o us vs : List Int} {s i x w c : Nat} (hi : s + i < o.length) (hx : us.getD (s + i) 0 = x) (hw : vs.getD i 0 = w)
    (hv : valI o (s + i) + c * 4294967296 ^ (s + i) = valI us (s + i) + valI vs i * 4294967296 ^ s) :
    valI (o.set (s + i) (((x + w + c) % 4294967296 : Nat) : Int)) (s + (i + 1)) + (((x + w + c) / 4294967296 : Nat) : Int) * 4294967296 ^ (s + (i + 1)) = valI us (s + (i + 1)) + valI vs (i + 1) * 4294967296 ^ s := by
  rw [show s + (i + 1) = (s + i) + 1 from by omega, valI, valI, valI, valI_set_ge (Nat.le_refl _), getD_set, if_pos ⟨rfl, hi⟩, hx, hw, Int.pow_succ]
  have hd : (((x + w + c) % 4294967296 : Nat) : Int) = (x : Int) + w + c - (((x + w + c) / 4294967296 : Nat) : Int) * 4294967296 := by omega
  rw [hd]
  rw [Int.pow_add] at hv ⊢
  generalize (((x + w + c) / 4294967296 : Nat) : Int) = q
  generalize (4294967296 : Int) ^ i = P at *
  generalize (4294967296 : Int) ^ s = Q at *
  grind

theorem back_fin {o us vs : List Int} {s n x c R' V : Nat} (hi : s + n < o.length) (hx : us.getD (s + n) 0 = x) (hc : c ≤ 1) (hxl : x < 4294967296) (hu : valI us (s + n + 1) = R') (hV : valI vs n = V)
    (hv : valI o (s + n) + c * 4294967296 ^ (s + n) = valI us (s + n) + valI vs n * 4294967296 ^ s) (h0 : W32 (o.set (s + n) (((x + c) % 4294967296 : Nat) : Int))) :
    valI (o.set (s + n) (((x + c) % 4294967296 : Nat) : Int)) (s + n + 1) = (((R' + V * 4294967296 ^ s) % 4294967296 ^ (s + n + 1) : Nat) : Int) := by
  have h1 := valI_nonneg h0 (s + n + 1)
  have h2 := valI_lt h0 (s + n + 1)
  rw [valI] at hu
  have h3 : valI (o.set (s + n) (((x + c) % 4294967296 : Nat) : Int)) (s + n + 1) = ((R' + V * 4294967296 ^ s : Nat) : Int) - (((x + c) / 4294967296 : Nat) : Int) * 4294967296 ^ (s + n + 1) := by
    rw [valI, valI_set_ge (Nat.le_refl _), getD_set, if_pos ⟨rfl, hi⟩, Int.natCast_add, ← hu, hx, Int.natCast_mul, ← hV, natPowW, Int.pow_succ]
    have hd : (((x + c) % 4294967296 : Nat) : Int) = (x : Int) + c - (((x + c) / 4294967296 : Nat) : Int) * 4294967296 := by omega
    rw [hd]
    generalize (((x + c) / 4294967296 : Nat) : Int) = q
    generalize (4294967296 : Int) ^ (s + n) = P at *
    generalize (4294967296 : Int) ^ s = Q at *
    grind
  rw [← natPowW] at h2
  rw [h3] at h1 h2 ⊢
  rw [← natPowW] at *
  have e1 : (((x + c) / 4294967296 : Nat) : Int) * ((4294967296 ^ (s + n + 1) : Nat) : Int) = ((((x + c) / 4294967296) * 4294967296 ^ (s + n + 1) : Nat) : Int) := (Int.natCast_mul _ _).symm
  rw [e1] at h1 h2 ⊢
  generalize (x + c) / 4294967296 = t at *
  generalize 4294967296 ^ (s + n + 1) = B at *
  generalize V * 4294967296 ^ s = D at *
  have h5 : R' + D = (R' + D - t * B) + t * B := by omega
  rw [h5, Nat.add_mul_mod_self_right, Nat.mod_eq_of_lt (by omega)]
  omega

/-- What a round of the division leaves. -/
theorem long_pos {R d D B : Nat} (h : d * D ≤ R) (hB : R < B) : (R + B - d * D) % B = R - d * D := by
  rw [show R + B - d * D = (R - d * D) + B from by omega, Nat.add_mod_right, Nat.mod_eq_of_lt (by omega)]
theorem long_neg {R d D B : Nat} (h : R < d * D) (h2 : d * D ≤ R + D) (hB : R < B) (hD : D ≤ B) : ((R + B - d * D) % B + D) % B = R - (d - 1) * D ∧ (d - 1) * D ≤ R ∧ R < (d - 1 + 1) * D ∧ 0 < d := by
  have hd : 0 < d := by
    rcases Nat.eq_zero_or_pos d with rfl | h'
    · simp at h
    · exact h'
  have e : d * D = (d - 1) * D + D := by rw [← Nat.succ_mul]; congr 1; omega
  have e2 : (d - 1 + 1) * D = d * D := by congr 1; omega
  rw [e2]
  refine ⟨?_, by omega, h, hd⟩
  rw [Nat.mod_eq_of_lt (show R + B - d * D < B by omega)]
  rw [show R + B - d * D + D = (R - (d - 1) * D) + B from by omega, Nat.add_mod_right, Nat.mod_eq_of_lt (by omega)]
/-- The divisor's top word has its highest bit set after the shift. -/
theorem long_norm {ys : List Int} (hy : W32 ys) {n y Y s V : Nat} (h2 : 2 ≤ n) (hyt : ys.getD (n - 1) 0 = y) (hY : valI ys n = Y) (hs : 32 - sz y = s) (hV : Y * 2 ^ s = V) (h1 : 1 ≤ sz y) (h32 : sz y ≤ 32) :
    V < 4294967296 ^ n ∧ 2147483648 * 4294967296 ^ (n - 1) ≤ V := by
  have hn : n = (n - 1) + 1 := by omega
  have ha := valI_nonneg hy (n - 1)
  have hb := valI_lt hy (n - 1)
  rw [hn, valI, hyt] at hY
  rw [← natPowW] at hb hY
  have e1 : (y : Int) * ((4294967296 ^ (n - 1) : Nat) : Int) = ((y * 4294967296 ^ (n - 1) : Nat) : Int) := (Int.natCast_mul _ _).symm
  rw [e1] at hY
  have hY1 : y * 4294967296 ^ (n - 1) ≤ Y := by omega
  have hY2 : Y < (y + 1) * 4294967296 ^ (n - 1) := by rw [Nat.add_mul, Nat.one_mul]; omega
  have hy1 : y < 2 ^ sz y := sz_le.1 (Nat.le_refl _)
  have hy2 : 2 ^ (sz y - 1) ≤ y := by
    refine Classical.byContradiction fun h => ?_
    have := sz_le.2 (show y < 2 ^ (sz y - 1) by omega)
    omega
  have p1 : 2 ^ sz y * 2 ^ s = 4294967296 := by rw [← Nat.pow_add, show sz y + s = 32 from by omega]
  have p2 : 2 ^ (sz y - 1) * 2 ^ s = 2147483648 := by rw [← Nat.pow_add, show sz y - 1 + s = 31 from by omega]
  have hs0 : 0 < 2 ^ s := Nat.two_pow_pos s
  have hQ : 4294967296 ^ n = 4294967296 ^ (n - 1) * 4294967296 := by rw [← Nat.pow_succ]; congr 1
  rw [hQ, ← hV]
  generalize 4294967296 ^ (n - 1) = Q at *
  generalize 2 ^ s = T at *
  constructor
  · have h3 : Y * T < (y + 1) * Q * T := Nat.mul_lt_mul_of_pos_right hY2 hs0
    have h4 : (y + 1) * Q * T ≤ 2 ^ sz y * Q * T := Nat.mul_le_mul_right _ (Nat.mul_le_mul_right _ hy1)
    rw [show 2 ^ sz y * Q * T = Q * (2 ^ sz y * T) from by rw [Nat.mul_comm (2 ^ sz y) Q, Nat.mul_assoc], p1] at h4
    omega
  · have h3 : 2 ^ (sz y - 1) * Q * T ≤ Y * T := Nat.mul_le_mul_right _ (Nat.le_trans (Nat.mul_le_mul_right _ hy2) hY1)
    rw [show 2 ^ (sz y - 1) * Q * T = (2 ^ (sz y - 1) * T) * Q from by rw [Nat.mul_assoc, Nat.mul_comm Q T, Nat.mul_assoc], p2] at h3
    exact h3

theorem powW_split {k n : Nat} (h2 : 2 ≤ n) : 4294967296 ^ (k + (n - 2)) = 4294967296 ^ (n - 2) * 4294967296 ^ k ∧ 4294967296 ^ (k + (n - 1)) = 4294967296 ^ (n - 2) * 4294967296 ^ k * 4294967296 ∧ 4294967296 ^ (k + n) = 4294967296 ^ (n - 2) * 4294967296 ^ k * 4294967296 * 4294967296 ∧
    4294967296 ^ (n - 1) = 4294967296 ^ (n - 2) * 4294967296 ∧ 4294967296 ^ n = 4294967296 ^ (n - 2) * 4294967296 * 4294967296 ∧ 4294967296 ^ (k + n + 1) = 4294967296 ^ (n - 2) * 4294967296 ^ k * 4294967296 * 4294967296 * 4294967296 := by
  have e0 : 4294967296 ^ (k + (n - 2)) = 4294967296 ^ (n - 2) * 4294967296 ^ k := by rw [Nat.pow_add, Nat.mul_comm]
  refine ⟨e0, ?_, ?_, ?_, ?_, ?_⟩
  · rw [← e0, ← Nat.pow_succ]; congr 1; omega
  · rw [← e0, ← Nat.pow_succ, ← Nat.pow_succ]; congr 1; omega
  · rw [← Nat.pow_succ]; congr 1; omega
  · rw [← Nat.pow_succ, ← Nat.pow_succ]; congr 1; omega
  · rw [← e0, ← Nat.pow_succ, ← Nat.pow_succ, ← Nat.pow_succ]; congr 1; omega

/-- The first remainder fits. -/
theorem long_first {X V s l n : Nat} (hX : X < 4294967296 ^ l) (hs : s < 32) (hV : 2147483648 * 4294967296 ^ (n - 1) ≤ V) (h2 : 2 ≤ n) (hnl : n ≤ l) : X * 2 ^ s < V * 4294967296 ^ (l + 1 - n) := by
  have h3 : 2 ^ s ≤ 2147483648 := Nat.le_trans (Nat.pow_le_pow_right (by decide) (show s ≤ 31 by omega)) (by decide)
  have e : 4294967296 ^ l = 4294967296 ^ (n - 1) * 4294967296 ^ (l + 1 - n) := by rw [← Nat.pow_add]; congr 1; omega
  have h4 : 2147483648 * 4294967296 ^ (n - 1) * 4294967296 ^ (l + 1 - n) ≤ V * 4294967296 ^ (l + 1 - n) := Nat.mul_le_mul_right _ hV
  rw [Nat.mul_assoc, ← e, Nat.mul_comm] at h4
  have h5 : X * 2 ^ s < 4294967296 ^ l * 2147483648 := Nat.lt_of_lt_of_le (Nat.mul_lt_mul_of_pos_right hX (Nat.two_pow_pos s)) (Nat.mul_le_mul_left _ h3)
  omega

/-- The words that the round looks at. -/
theorem long_words {R V P S k n l : Nat} (h2 : 2 ≤ n) (hk : k + n < l + 1) (hP : 4294967296 ^ (n - 2) = P) (hS : 4294967296 ^ k = S) (hVn : V < 4294967296 ^ n) (hVg : 2147483648 * 4294967296 ^ (n - 1) ≤ V) (hR : R < V * (S * 4294967296)) :
    R < 4294967296 ^ (k + n + 1) ∧ V * 4294967296 ^ k ≤ 4294967296 ^ (k + n + 1) ∧ 4294967296 * P ≤ V ∧ (2147483648 ≤ V / P / 4294967296 ∧ V / P / 4294967296 < 4294967296) ∧ R / (P * S) / 4294967296 < 18446744073709551616 ∧
    (digs R (l + 1)).getD (k + n) 0 = ((R / (P * S) / 4294967296 / 4294967296 : Nat) : Int) ∧ (digs R (l + 1)).getD (k + (n - 1)) 0 = ((R / (P * S) / 4294967296 % 4294967296 : Nat) : Int) ∧ (digs R (l + 1)).getD (k + (n - 2)) 0 = ((R / (P * S) % 4294967296 : Nat) : Int) ∧
    (digs V (n + 1)).getD (n - 1) 0 = ((V / P / 4294967296 : Nat) : Int) ∧ (digs V (n + 1)).getD (n - 2) 0 = ((V / P % 4294967296 : Nat) : Int) := by
  obtain ⟨q1, q2, q3, q4, q5, q6⟩ := powW_split (k := k) h2
  rw [hP] at q1 q2 q3 q4 q5 q6
  rw [hS] at q1 q2 q3 q6
  have hP0 : 0 < P := by rw [← hP]; exact Nat.pow_pos (by decide)
  have hS0 : 0 < S := by rw [← hS]; exact Nat.pow_pos (by decide)
  have hPS : 0 < P * S := Nat.mul_pos hP0 hS0
  rw [q5] at hVn
  rw [q4] at hVg
  have c1 : V * (S * 4294967296) ≤ P * S * 4294967296 * 4294967296 * 4294967296 := by
    refine Nat.le_trans (Nat.mul_le_mul_right _ (Nat.le_of_lt hVn)) (Nat.le_of_eq ?_)
    grind
  have hRB : R < P * S * 4294967296 * 4294967296 * 4294967296 := Nat.lt_of_lt_of_le hR c1
  have c2 : V * S ≤ P * S * 4294967296 * 4294967296 * 4294967296 := Nat.le_trans (Nat.mul_le_mul_left _ (by omega)) c1
  have d1 : V / P / 4294967296 = V / (P * 4294967296) := Nat.div_div_eq_div_mul _ _ _
  have v1lt : V / P / 4294967296 < 4294967296 := by
    rw [d1]; exact Nat.div_lt_of_lt_mul hVn
  have v1ge : 2147483648 ≤ V / P / 4294967296 := by
    rw [d1]; exact (Nat.le_div_iff_mul_le (by omega)).2 hVg
  have d2 : R / (P * S) / 4294967296 / 4294967296 = R / (P * S * 4294967296 * 4294967296) := by rw [Nat.div_div_eq_div_mul, Nat.div_div_eq_div_mul, Nat.mul_assoc (P * S)]
  have d3 : R / (P * S) / 4294967296 = R / (P * S * 4294967296) := Nat.div_div_eq_div_mul _ _ _
  have tlt : R / (P * S) / 4294967296 / 4294967296 < 4294967296 := by
    rw [d2]; exact Nat.div_lt_of_lt_mul hRB
  refine ⟨by rw [q6]; exact hRB, by rw [q6, hS]; exact c2, by omega, ⟨v1ge, v1lt⟩, by omega, ?_, ?_, ?_, ?_, ?_⟩
  · rw [digs_get (by omega), q3, ← d2, Nat.mod_eq_of_lt tlt]
  · rw [digs_get (by omega), q2, ← d3]
  · rw [digs_get (by omega), q1]
  · rw [digs_get (by omega), q4, ← d1, Nat.mod_eq_of_lt v1lt]
  · rw [digs_get (by omega), hP]

end Go.Proofs.YtghdcjhlhcoijaaDoor
