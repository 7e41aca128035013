/- The texts Fa, Ej, Ek, Em, Ga, Gb, Gc, Gd, Rb, Rc, Rd, Aa, Re, Rf, Zc, Ya, Yb, Yc, Yd. -/
import Derived.ChangeKeysEq
import Derived.Test.YtdcaodkjofkmgaaGreatDoorQLShapesMade3
namespace Go.Proofs.YtdcaodkjofkmgaaGreatDoor
open Go.Sx
set_option linter.unusedSimpArgs false
set_option linter.unusedVariables false
set_option maxRecDepth 100000
set_option maxHeartbeats 4000000
variable {M : Nat}

theorem more_eq (a b : Rat) : decide (a.den - 1 = b.den - 1) = decide (a.den = b.den) := decide_eq_decide.2 (by have := a.den_pos; have := b.den_pos; omega)

theorem sz_iadd {x y : Int} {k M : Nat} (hx : sz x.natAbs ≤ k) (hy : sz y.natAbs ≤ k) (h : k + 1 ≤ M) : sz (x + y).natAbs ≤ M :=
  Nat.le_trans (Nat.le_trans (sz_mono (Int.natAbs_add_le x y)) (sz_add hx hy)) h
theorem mkRat_same {a b : Rat} (h : a.den = b.den) : mkRat (a.num + b.num) a.den = a + b := by
  rw [Rat.add_def', ← h, ← Int.add_mul, Rat.mkRat_mul_right a.den_nz]

theorem c_fAdd (ok : NatOK M) (a b : Rat) (h : fsz a + fsz b + 1 ≤ M) : CallOK Tryz.prog 24 [.frac a, .frac b] [] (.frac (a + b)) [] [] := by
  have ha := fsz_num a; have ha' := fsz_den a; have hb := fsz_num b; have hb' := fsz_den b
  have hbp := sz_one_le b.den b.den_nz
  have hap := sz_one_le a.den a.den_nz
  have wa := c_Whole a
  have wb := c_Whole b
  have k1 := c_iAdd ok a.num b.num (by omega) (by omega)
  have k2 := c_den ok a (by omega)
  have k3 := c_den ok b (by omega)
  refine callV (Z := []) tabOK mixedOK Tryz.func24 rfl (by kernel_rfl) rfl rfl (by kernel_rfl) rfl ?_
  intro W0 w0 ρ0 hE
  conv => whnf
  by_cases hw : a.den = 1 ∧ b.den = 1
  · have k5 := c_whole (a.num + b.num)
    have e : ((a.num + b.num : Int) : Rat) = a + b := by
      rw [int_of_den hw.1, int_of_den hw.2, Rat.intCast_add]; rfl
    rw [e] at k5
    rw [decide_eq_true hw.1] at wa
    rw [decide_eq_true hw.2] at wb
    (repeat (first | (refine step_w1 rfl rfl ?_; conv => whnf) | (refine g_c (by assumption) ?_; conv => whnf) | (refine g_o (op_pickT rfl (ev_ok rfl) (ev_ok rfl)) ?_; conv => whnf))); exact Recast.refl _
  · by_cases h1 : a.den = 1
    · rw [decide_eq_true h1] at wa
      rw [decide_eq_false (show ¬ b.den = 1 from fun h2 => hw ⟨h1, h2⟩)] at wb
      (repeat ((first | refine step_w1 rfl rfl ?_ | refine step_w2 rfl rfl ?_ | refine g_c (by assumption) ?_ | refine g_o (op_pickT rfl (ev_ok rfl) (ev_ok rfl)) ?_); conv => whnf))
      refine ⟨_, op_eqAgg tabOK goodOK rfl (ev_ok rfl) (ev_ok rfl) rfl rfl rfl rfl (eqTy_nat (a.den - 1) (b.den - 1)) guard_nat, ?_⟩
      rw [more_eq]
      by_cases hd : a.den = b.den
      · rw [decide_eq_true hd]
        have k4 := c_lowest ok (a.num + b.num) a.den (sz_iadd (k := M - 1) (by omega) (by omega) (by omega)) (by omega) a.den_nz
        rw [mkRat_same hd] at k4
        conv => whnf
        (repeat (first | (refine step_w1 rfl rfl ?_; conv => whnf) | (refine step_i (by kernel_rfl) ?_; conv => whnf) | (refine g_c (by assumption) ?_; conv => whnf))); exact Recast.refl _
      · rw [decide_eq_false hd]
        have p1 := sz_mul a.num.natAbs b.den
        have p2 := sz_mul b.num.natAbs a.den
        have p3 := sz_mul a.den b.den
        have q1 : sz (a.num * b.den).natAbs ≤ M - 1 := by rw [Int.natAbs_mul, Int.natAbs_natCast]; omega
        have q2 : sz (b.num * a.den).natAbs ≤ M - 1 := by rw [Int.natAbs_mul, Int.natAbs_natCast]; omega
        have r1 := c_signed ok a (by omega)
        have r2 := c_signed ok b (by omega)
        have r3 := c_iMul ok a.num b.den (by rw [Int.natAbs_natCast]; omega)
        have r4 := c_iMul ok b.num a.den (by rw [Int.natAbs_natCast]; omega)
        have r5 := c_iAdd ok (a.num * b.den) (b.num * a.den) (by omega) (by omega)
        have r6 := ok.mul a.den b.den (by omega)
        have r7 := c_lowest ok (a.num * b.den + b.num * a.den) (a.den * b.den) (sz_iadd (k := M - 1) q1 q2 (by omega)) (by omega) (Nat.mul_ne_zero a.den_nz b.den_nz)
        rw [← Rat.add_def'] at r7
        conv => whnf
        (repeat (first | (refine step_w2 rfl rfl ?_; conv => whnf) | (refine step_i (by kernel_rfl) ?_; conv => whnf) | (refine g_c (by assumption) ?_; conv => whnf))); exact Recast.refl _
    · rw [decide_eq_false h1] at wa
      (repeat (first | (refine step_w2 rfl rfl ?_; conv => whnf) | (refine g_c (by assumption) ?_; conv => whnf) | (refine g_o (op_pickF rfl (ev_ok rfl) (ev_ok rfl)) ?_; conv => whnf)))
      refine ⟨_, op_eqAgg tabOK goodOK rfl (ev_ok rfl) (ev_ok rfl) rfl rfl rfl rfl (eqTy_nat (a.den - 1) (b.den - 1)) guard_nat, ?_⟩
      rw [more_eq]
      by_cases hd : a.den = b.den
      · rw [decide_eq_true hd]
        have k4 := c_lowest ok (a.num + b.num) a.den (sz_iadd (k := M - 1) (by omega) (by omega) (by omega)) (by omega) a.den_nz
        rw [mkRat_same hd] at k4
        conv => whnf
        (repeat (first | (refine step_w1 rfl rfl ?_; conv => whnf) | (refine step_i (by kernel_rfl) ?_; conv => whnf) | (refine g_c (by assumption) ?_; conv => whnf))); exact Recast.refl _
      · rw [decide_eq_false hd]
        have p1 := sz_mul a.num.natAbs b.den
        have p2 := sz_mul b.num.natAbs a.den
        have p3 := sz_mul a.den b.den
        have q1 : sz (a.num * b.den).natAbs ≤ M - 1 := by rw [Int.natAbs_mul, Int.natAbs_natCast]; omega
        have q2 : sz (b.num * a.den).natAbs ≤ M - 1 := by rw [Int.natAbs_mul, Int.natAbs_natCast]; omega
        have r1 := c_signed ok a (by omega)
        have r2 := c_signed ok b (by omega)
        have r3 := c_iMul ok a.num b.den (by rw [Int.natAbs_natCast]; omega)
        have r4 := c_iMul ok b.num a.den (by rw [Int.natAbs_natCast]; omega)
        have r5 := c_iAdd ok (a.num * b.den) (b.num * a.den) (by omega) (by omega)
        have r6 := ok.mul a.den b.den (by omega)
        have r7 := c_lowest ok (a.num * b.den + b.num * a.den) (a.den * b.den) (sz_iadd (k := M - 1) q1 q2 (by omega)) (by omega) (Nat.mul_ne_zero a.den_nz b.den_nz)
        rw [← Rat.add_def'] at r7
        conv => whnf
        (repeat (first | (refine step_w2 rfl rfl ?_; conv => whnf) | (refine step_i (by kernel_rfl) ?_; conv => whnf) | (refine g_c (by assumption) ?_; conv => whnf))); exact Recast.refl _
end Go.Proofs.YtdcaodkjofkmgaaGreatDoor

namespace Go.Proofs.YtdcaodkjofkmgaaGreatDoor
open Go.Sx
set_option linter.unusedSimpArgs false
set_option linter.unusedVariables false
set_option maxRecDepth 100000
set_option maxHeartbeats 80000000

theorem NamesOK.roNew2 {fk : List (Nat × Blk)} {m p : Nat} {b c : Blk} {σ : Nat → Nat} (h : allRo fk = true) (hn : ∀ q ∈ keysOf fk, σ m ≠ σ q ∧ σ p ≠ σ q) (hmp : σ m ≠ σ p) : NamesOK fk [(m, b), (p, c)] σ :=
  ⟨(fun q q' b b' hq _ _ hw => by rw [allRo_spec h q b hq] at hw; cases hw), (fun x y h1 h2 hne => by
    have h1 : x = m ∨ x = p := by simpa [keysOf] using h1
    have h2 : y = m ∨ y = p := by simpa [keysOf] using h2
    rcases h1 with rfl | rfl <;> rcases h2 with rfl | rfl
    · exact absurd rfl hne
    · exact hmp
    · exact hmp.symm
    · exact absurd rfl hne), (fun x q h1 h2 => by
    have h1 : x = m ∨ x = p := by simpa [keysOf] using h1
    rcases h1 with rfl | rfl
    · exact (hn q h2).1
    · exact (hn q h2).2)⟩

theorem two_new {hp : List (Nat × Blk)} {k l : Nat} {b c : Blk} (h : find hp k = none) (h' : find hp l = none) : ∀ j d, (j, d) ∈ [(k, b), (l, c)] → find hp j = none := fun j d hm => by
  simp only [List.mem_cons, List.not_mem_nil, or_false, Prod.mk.injEq] at hm
  rcases hm with ⟨rfl, rfl⟩ | ⟨rfl, rfl⟩ <;> assumption

theorem long_end {R Qv V S d U : Nat} (h1 : d * (V * S) ≤ R) (h2 : R < (d + 1) * (V * S)) (hU : U = Qv * V + R) : R - d * (V * S) < V * S ∧ U = (Qv + d * S) * V + (R - d * (V * S)) := by
  rw [Nat.add_mul, Nat.one_mul] at h2
  refine ⟨by omega, ?_⟩
  rw [Nat.add_mul, show d * S * V = d * (V * S) from by rw [Nat.mul_assoc, Nat.mul_comm S V]]
  omega
theorem valI_digs_lo {v m L : Nat} (hv : v < 4294967296 ^ m) (hm : m ≤ L) : valI (digs v L) m = v := by
  rw [← valI_zeros (xs := digs v L) (k := m) (n := L) (fun i h1 _ => digs_hi hv h1) hm, valI_digs, Nat.mod_eq_of_lt (Nat.lt_of_lt_of_le hv (Nat.pow_le_pow_right (by decide) hm))]

theorem long_out {X Y V Qv R s : Nat} (hV : Y * 2 ^ s = V) (h : X * 2 ^ s = Qv * V + R) (hR : R < V) : X / Y = Qv ∧ R / 2 ^ s = X % Y := by
  have hs : 0 < 2 ^ s := Nat.two_pow_pos s
  have hY : 0 < Y := by
    rcases Nat.eq_zero_or_pos Y with rfl | h'
    · rw [Nat.zero_mul] at hV; omega
    · exact h'
  have h1 : X * 2 ^ s / (Y * 2 ^ s) = Qv := by
    rw [h, hV, Nat.add_comm, Nat.add_mul_div_right _ _ (by omega), Nat.div_eq_of_lt hR, Nat.zero_add]
  have h2 : X * 2 ^ s % (Y * 2 ^ s) = R := by
    rw [h, hV, Nat.add_comm, Nat.add_mul_mod_self_right, Nat.mod_eq_of_lt hR]
  rw [Nat.mul_div_mul_right _ _ hs] at h1
  rw [Nat.mul_mod_mul_right] at h2
  exact ⟨h1, by rw [← h2, Nat.mul_div_cancel _ hs]⟩

theorem shl_ior {a b : Nat} (ha : a < 4294967296) (hb : b < 4294967296) : ior .u64 (ishl .u64 (a : Int) 32) (b : Int) = ((a * 4294967296 + b : Nat) : Int) := by
  have e1 : ishl .u64 (a : Int) 32 = ((a * 4294967296 : Nat) : Int) := by
    show IntKind.u64.wrap ((a : Int) * 4294967296) = _
    rw [show (a : Int) * 4294967296 = ((a * 4294967296 : Nat) : Int) from by omega, wu64 (by omega)]
  rw [e1, ior_u64 (by omega) (by omega), Nat.mul_comm, ← Nat.two_pow_add_eq_or_of_lt (i := 32) (b := b) (by omega) a]

theorem c_long (xs ys : List Int) (l n X Y : Nat) (hl : l ≤ xs.length) (hn : n ≤ ys.length) (hxl : xs.length < 549755813888) (hyl : ys.length < 549755813888) (hx : W32 xs) (hy : W32 ys) (hX : valI xs l = X) (hY : valI ys n = Y)
    (h2 : 2 ≤ n) (htop : ys.getD (n - 1) 0 ≠ 0) (hnl : n ≤ l) (K1 K2 Q1 Q2 : Nat) (hk1 : Q1 ≠ K1 ∧ Q2 ≠ K1) (hk2 : Q1 ≠ K2 ∧ Q2 ≠ K2) (hq : Q1 ≠ Q2) :
    CallOK Tryz.prog 119 [.slc K1 1 0 l, .slc K2 1 0 n] [(K1, ⟨23, false, .ints .u32 xs⟩), (K2, ⟨23, false, .ints .u32 ys⟩)] (.tup [.slc Q1 1 0 (l + 1 - n), .slc Q2 1 0 (l + 1)])
      [(Q1, ⟨23, true, .ints .u32 (digs (X / Y) (l + 1 - n))⟩), (Q2, ⟨23, true, .ints .u32 (digs (X % Y) (l + 1))⟩)] [] := by
  obtain ⟨y, hyt⟩ := Int.eq_ofNat_of_zero_le (hy (n - 1)).1
  have hy2 := (hy (n - 1)).2
  have kz := c_LZ32 y (by omega)
  have hsz : 1 ≤ sz y ∧ sz y ≤ 32 := by
    refine ⟨?_, sz_le.2 (show y < 2 ^ 32 by have : (2 : Nat) ^ 32 = 4294967296 := rfl; omega)⟩
    refine Classical.byContradiction fun h => ?_
    have h3 := sz_le.1 (show sz y ≤ 0 by omega)
    rw [Nat.pow_zero] at h3
    exact htop (by rw [hyt]; omega)
  obtain ⟨s, hs⟩ : ∃ s, 32 - sz y = s := ⟨_, rfl⟩
  rw [hs] at kz
  have hs32 : s < 32 := by omega
  have ku := c_shifted xs l hl (by omega) hx s hs32 0 2001 (by decide) false X hX
  have kv := c_shifted ys n hn (by omega) hy s hs32 1 2002 (by decide) false Y hY
  obtain ⟨V, hVd⟩ : ∃ V, Y * 2 ^ s = V := ⟨_, rfl⟩
  rw [hVd] at kv
  have hXl : X < 4294967296 ^ l := by have := valI_lt hx l; rw [hX, ← natPowW] at this; omega
  have e0 : Hid (IntKind.i64.wrap ((n : Int) - 1) = ((n - 1 : Nat) : Int)) := show IntKind.i64.wrap ((n : Int) - 1) = ((n - 1 : Nat) : Int) from by rw [wrap_i64 (by omega) (by omega)]; omega
  have e1 : Hid (0 + ((n - 1 : Nat) : Int).toNat = n - 1) := show 0 + ((n - 1 : Nat) : Int).toNat = n - 1 from by omega
  have hnames : ∀ q ∈ keysOf [(0, (⟨23, false, .ints .u32 xs⟩ : Blk)), (1, ⟨23, false, .ints .u32 ys⟩)], renBy [(0, K1), (1, K2), (39, Q1), (2001, Q2)] 39 ≠ renBy [(0, K1), (1, K2), (39, Q1), (2001, Q2)] q ∧ renBy [(0, K1), (1, K2), (39, Q1), (2001, Q2)] 2001 ≠ renBy [(0, K1), (1, K2), (39, Q1), (2001, Q2)] q := fun q hq => by
    have hq : q = 0 ∨ q = 1 := by simpa [keysOf] using hq
    rcases hq with rfl | rfl
    · exact hk1
    · exact hk2
  refine callK (Z := []) tabOK mixedOK Tryz.func119 rfl (by kernel_rfl) (args := [.slc 0 1 0 l, .slc 1 1 0 n]) (fk := [(0, ⟨23, false, .ints .u32 xs⟩), (1, ⟨23, false, .ints .u32 ys⟩)])
    (c := .tup [.slc 39 1 0 (l + 1 - n), .slc 2001 1 0 (l + 1)]) (new := [(39, ⟨23, true, .ints .u32 (digs (X / Y) (l + 1 - n))⟩), (2001, ⟨23, true, .ints .u32 (digs (X % Y) (l + 1))⟩)]) (upd := []) (ShapeOK.of rfl rfl rfl rfl rfl rfl rfl rfl rfl rfl rfl) rfl (renBy [(0, K1), (1, K2), (39, Q1), (2001, Q2)]) (NamesOK.roNew2 rfl hnames hq) ?_
  intro W0 w0 ρ0 hE
  conv => whnf
  have e3 : Hid (((n : Int) - 0).toNat = n) := show ((n : Int) - 0).toNat = n from by omega
  have e4 : Hid (IntKind.i64.wrap (((l + 1 : Nat) : Int) - (n : Int)) = ((l + 1 - n : Nat) : Int)) := show IntKind.i64.wrap (((l + 1 : Nat) : Int) - (n : Int)) = ((l + 1 - n : Nat) : Int) from by rw [wrap_i64 (by omega) (by omega)]; omega
  have e5 : Hid (0 + Int.toNat 0 = 0) := show 0 + Int.toNat 0 = 0 from rfl
  have e6 : Hid (IntKind.i64.wrap (((l + 1 - n : Nat) : Int) - 1) = ((l + 1 - n : Nat) : Int) - 1) := show IntKind.i64.wrap (((l + 1 - n : Nat) : Int) - 1) = ((l + 1 - n : Nat) : Int) - 1 from wrap_i64 (by omega) (by omega)
  (repeat ((first | refine step_i (by kernel_rfl) ?_ | refine step_oL (by first | omega | decide | (simp only [tiB5, tiB23, tiB3, tiB2, tiB9, tiB36, tiB54, tiB121, tiB34, tiB28, tiB4, tiB50, tiB52, dlen, List.length_replicate, List.length_set, List.length_map, List.length_zipWith, List.length_take, List.length_append, List.length_cons, List.length_nil]; omega)) ?_ | refine step_oA (by first | omega | decide | (simp only [tiB5, tiB23, tiB3, tiB2, tiB9, tiB36, tiB54, tiB121, tiB34, tiB28, tiB4, tiB50, tiB52, dlen, List.length_replicate, List.length_set, List.length_map, List.length_zipWith, List.length_take, List.length_append, List.length_cons, List.length_nil]; omega)) ?_ | refine g_c (by assumption) ?_ | refine g_c1n (by assumption) rfl rfl ?_ | rw [e0.out] | rw [e1.out] | rw [hyt] | rw [e3.out] | rw [e5.out] | rw [e4.out]); conv => whnf))
  have e7 : Hid (IntKind.i64.wrap ((((l + 1 - n : Nat) : Int).toNat : Int) - 1) = ((l + 1 - n : Nat) : Int) - 1) := show IntKind.i64.wrap ((((l + 1 - n : Nat) : Int).toNat : Int) - 1) = ((l + 1 - n : Nat) : Int) - 1 from wrap_i64 (by omega) (by omega)
  rw [e7.out]
  obtain ⟨hVn, hVg⟩ := long_norm hy h2 hyt hY hs hVd hsz.1 hsz.2
  have hvs : valI (digs V (n + 1)) n = V := valI_digs_lo hVn (by omega)
  have hvw : W32 (digs V (n + 1)) := digs_w32 _ _
  have hvlen : (digs V (n + 1)).length = n + 1 := digs_len _ _
  refine SW_loopN hE (fun k => k) [4, 6, 7, 8, 9, 10] [0, 1, 39, 2001, 2002] (fun j fr hp => ∃ (R Qv : Nat) (q : List Int), j ≤ l + 1 - n ∧ R < V * 4294967296 ^ j ∧ X * 2 ^ s = Qv * V + R ∧ q.length = l + 1 - n ∧ W32 q ∧ (∀ i, i < j → q.getD i 0 = 0) ∧ valI q (l + 1 - n) = Qv ∧
    fr = [(4, .slc 39 1 0 (l + 1 - n)), (6, .val (.int .i64 s)), (7, .slc 2001 1 0 (l + 1)), (8, .slc 2002 1 0 n), (9, .val (.int .i64 n)), (10, .val (.int .i64 ((j : Int) - 1)))] ∧ hp = [(0, ⟨23, false, .ints .u32 xs⟩), (1, ⟨23, false, .ints .u32 ys⟩), (39, ⟨23, true, .ints .u32 q⟩), (2001, ⟨23, true, .ints .u32 (digs R (l + 1))⟩), (2002, ⟨23, true, .ints .u32 (digs V (n + 1))⟩)]) (l + 1 - n) ?_ ?_ ?_
  · kernel_rfl
  · exact ⟨X * 2 ^ s, 0, List.replicate (l + 1 - n) 0, Nat.le_refl _, long_first hXl hs32 hVg h2 hnl, by omega, by simp, (fun i => by rw [getD_replicate]; decide), (fun i _ => getD_replicate), by rw [valI_zeros (k := 0) (fun i _ _ => getD_replicate) (by omega)]; simp [valI], rfl, rfl⟩
  rintro j _ _ ⟨R, Qv, q, hj, hR, hXR, hql, hqw, hq0, hqv, rfl, rfl⟩
  by_cases h0 : j = 0
  · subst h0
    have t1 : Hid (decide (((0 : Nat) : Int) - 1 ≥ 0) = false) := show decide (((0 : Nat) : Int) - 1 ≥ 0) = false from rfl
    conv => whnf
    (repeat (first | (refine step_w2 rfl rfl ?_; conv => whnf) | (rw [t1.out]; conv => whnf)))
    have hRV : R < V := by simpa using hR
    obtain ⟨hdq, hdr⟩ := long_out hVd hXR hRV
    have hRl : R < 4294967296 ^ (l + 1) := Nat.lt_of_lt_of_le (Nat.lt_trans hRV hVn) (Nat.pow_le_pow_right (by decide) (by omega))
    have hqd : q = digs (X / Y) (l + 1 - n) := digs_of' hql hqw (by rw [hqv, hdq])
    refine SW_loopN hE (fun k => k) [4, 7, 167, 168] [0, 1, 39, 2001] (fun m fr hp => ∃ (i : Nat), m = s - i ∧ i ≤ s ∧
      fr = [(4, .slc 39 1 0 (l + 1 - n)), (7, .slc 2001 1 0 (l + 1)), (167, .val (.int .i64 s)), (168, .val (.int .i64 i))] ∧ hp = [(0, ⟨23, false, .ints .u32 xs⟩), (1, ⟨23, false, .ints .u32 ys⟩), (39, ⟨23, true, .ints .u32 q⟩), (2001, ⟨23, true, .ints .u32 (digs (R / 2 ^ i) (l + 1))⟩)]) s ?_ ?_ ?_
    · kernel_rfl
    · exact ⟨0, by omega, by omega, rfl, by rw [Nat.pow_zero, Nat.div_one]; rfl⟩
    rintro m _ _ ⟨i, rfl, hi, rfl, rfl⟩
    by_cases hlt : i < s
    · have t2 : Hid (decide ((i : Int) < (s : Int)) = true) := show decide ((i : Int) < (s : Int)) = true from decide_eq_true (by omega)
      have f4 : Hid (IntKind.i64.wrap ((i : Int) + 1) = ((i + 1 : Nat) : Int)) := show IntKind.i64.wrap ((i : Int) + 1) = ((i + 1 : Nat) : Int) from by rw [wrap_i64 (by omega) (by omega)]; omega
      have kh := c_half (digs (R / 2 ^ i) (l + 1)) (by rw [digs_len]; omega) (digs_w32 _ _) 2001 (R / 2 ^ i) (by rw [digs_len, valI_digs, Nat.mod_eq_of_lt (Nat.lt_of_le_of_lt (Nat.div_le_self _ _) hRl)])
      rw [digs_len, Nat.div_div_eq_div_mul, ← Nat.pow_succ] at kh
      conv => whnf
      (repeat (first | (refine step_w1 rfl rfl ?_; conv => whnf) | (refine g_c1u (by assumption) rfl rfl ?_; conv => whnf) | (rw [t2.out]; conv => whnf)))
      rw [f4.out]
      exact ⟨s - (i + 1), fun k => k, [4, 7, 167, 168], [0, 1, 39, 2001], by omega, by kernel_rfl, i + 1, rfl, by omega, rfl, rfl⟩
    · have hi' : i = s := by omega
      subst hi'
      have t2 : Hid (decide ((i : Int) < (i : Int)) = false) := show decide ((i : Int) < (i : Int)) = false from decide_eq_false (by omega)
      rw [hqd, hdr]
      conv => whnf
      (repeat (first | (refine step_w2 rfl rfl ?_; conv => whnf) | (rw [t2.out]; conv => whnf)))
      exact ⟨Recast.refl _, two_fk rfl rfl, (fun _ _ h => by cases h)⟩
  obtain ⟨k, rfl⟩ : ∃ k, j = k + 1 := ⟨j - 1, by omega⟩
  have t1 : Hid (decide (((k + 1 : Nat) : Int) - 1 ≥ 0) = true) := show decide (((k + 1 : Nat) : Int) - 1 ≥ 0) = true from decide_eq_true (by omega)
  have hP : 0 < 4294967296 ^ (n - 2) := Nat.pow_pos (by decide)
  have hS : 0 < 4294967296 ^ k := Nat.pow_pos (by decide)
  have hul : (digs R (l + 1)).length = l + 1 := digs_len _ _
  obtain ⟨P, hPd⟩ : ∃ P, 4294967296 ^ (n - 2) = P := ⟨_, rfl⟩
  obtain ⟨S, hSd⟩ : ∃ S, 4294967296 ^ k = S := ⟨_, rfl⟩
  rw [hPd] at hP
  rw [hSd] at hS
  have hR' : R < V * (S * 4294967296) := by rw [← hSd, ← Nat.pow_succ]; exact hR
  obtain ⟨t, ht⟩ : ∃ t, R / (P * S) / 4294967296 = t := ⟨_, rfl⟩
  obtain ⟨u0, hu0⟩ : ∃ u0, R / (P * S) % 4294967296 = u0 := ⟨_, rfl⟩
  obtain ⟨v1, hv1⟩ : ∃ v1, V / P / 4294967296 = v1 := ⟨_, rfl⟩
  obtain ⟨v2, hv2⟩ : ∃ v2, V / P % 4294967296 = v2 := ⟨_, rfl⟩
  obtain ⟨hRB, hVSB, hVW, hv1a, hta, g1', g2', g3', g4', g5'⟩ := long_words (l := l) h2 (by omega) hPd hSd hVn hVg hR'
  have hv2a : V / P % 4294967296 < 4294967296 := Nat.mod_lt _ (by decide)
  have hu0a : R / (P * S) % 4294967296 < 4294967296 := Nat.mod_lt _ (by decide)
  rw [hv1] at hv1a g4'
  rw [ht] at hta g1' g2'
  rw [hu0] at g3' hu0a
  rw [hv2] at g5' hv2a
  have g1 : Hid ((digs R (l + 1)).getD (k + n) 0 = ((t / 4294967296 : Nat) : Int)) := show (digs R (l + 1)).getD (k + n) 0 = ((t / 4294967296 : Nat) : Int) from g1'
  have g2 : Hid ((digs R (l + 1)).getD (k + (n - 1)) 0 = ((t % 4294967296 : Nat) : Int)) := show (digs R (l + 1)).getD (k + (n - 1)) 0 = ((t % 4294967296 : Nat) : Int) from g2'
  have g3 : Hid ((digs R (l + 1)).getD (k + (n - 2)) 0 = (u0 : Int)) := show (digs R (l + 1)).getD (k + (n - 2)) 0 = (u0 : Int) from g3'
  have g4 : Hid ((digs V (n + 1)).getD (n - 1) 0 = (v1 : Int)) := show (digs V (n + 1)).getD (n - 1) 0 = (v1 : Int) from g4'
  have g5 : Hid ((digs V (n + 1)).getD (n - 2) 0 = (v2 : Int)) := show (digs V (n + 1)).getD (n - 2) 0 = (v2 : Int) from g5'
  clear g1' g2' g3' g4' g5'
  have i1 : Hid (((k + 1 : Nat) : Int) - 1 = (k : Int)) := show ((k + 1 : Nat) : Int) - 1 = (k : Int) from by omega
  have i2 : Hid (IntKind.i64.wrap ((k : Int) + (n : Int)) = ((k + n : Nat) : Int)) := show IntKind.i64.wrap ((k : Int) + (n : Int)) = ((k + n : Nat) : Int) from by rw [wrap_i64 (by omega) (by omega)]; omega
  have i3 : Hid (0 + ((k + n : Nat) : Int).toNat = k + n) := show 0 + ((k + n : Nat) : Int).toNat = k + n from by omega
  have i4 : Hid (IntKind.i64.wrap (((k + n : Nat) : Int) - 1) = ((k + (n - 1) : Nat) : Int)) := show IntKind.i64.wrap (((k + n : Nat) : Int) - 1) = ((k + (n - 1) : Nat) : Int) from by rw [wrap_i64 (by omega) (by omega)]; omega
  have i5 : Hid (0 + ((k + (n - 1) : Nat) : Int).toNat = k + (n - 1)) := show 0 + ((k + (n - 1) : Nat) : Int).toNat = k + (n - 1) from by omega
  have i6 : Hid (IntKind.u64.wrap ((t / 4294967296 : Nat) : Int) = ((t / 4294967296 : Nat) : Int)) := show IntKind.u64.wrap ((t / 4294967296 : Nat) : Int) = ((t / 4294967296 : Nat) : Int) from wu64 (by omega)
  have i7 : Hid (IntKind.u64.wrap ((t % 4294967296 : Nat) : Int) = ((t % 4294967296 : Nat) : Int)) := show IntKind.u64.wrap ((t % 4294967296 : Nat) : Int) = ((t % 4294967296 : Nat) : Int) from wu64 (by omega)
  have i8 : Hid (ior .u64 (ishl .u64 ((t / 4294967296 : Nat) : Int) 32) ((t % 4294967296 : Nat) : Int) = (t : Int)) := show ior .u64 (ishl .u64 ((t / 4294967296 : Nat) : Int) 32) ((t % 4294967296 : Nat) : Int) = (t : Int) from by rw [shl_ior (by omega) (by omega)]; congr 1; omega
  have i9 : Hid (IntKind.u64.wrap (v1 : Int) = (v1 : Int)) := show IntKind.u64.wrap (v1 : Int) = (v1 : Int) from wu64 (by omega)
  have i10 : Hid (((v1 : Int) != 0) = true) := show ((v1 : Int) != 0) = true from by simp; omega
  have i11 : Hid ((t : Int).tdiv (v1 : Int) = ((t / v1 : Nat) : Int)) := show (t : Int).tdiv (v1 : Int) = ((t / v1 : Nat) : Int) from rfl
  have i12 : Hid ((t : Int).tmod (v1 : Int) = ((t % v1 : Nat) : Int)) := show (t : Int).tmod (v1 : Int) = ((t % v1 : Nat) : Int) from rfl
  have hq1 : t / v1 ≤ t := Nat.div_le_self _ _
  have hq2 : t % v1 < v1 := Nat.mod_lt _ (by omega)
  have i13 : Hid (IntKind.u64.wrap ((t / v1 : Nat) : Int) = ((t / v1 : Nat) : Int)) := show IntKind.u64.wrap ((t / v1 : Nat) : Int) = ((t / v1 : Nat) : Int) from wu64 (by omega)
  have i14 : Hid (IntKind.u64.wrap ((t % v1 : Nat) : Int) = ((t % v1 : Nat) : Int)) := show IntKind.u64.wrap ((t % v1 : Nat) : Int) = ((t % v1 : Nat) : Int) from wu64 (by omega)
  conv => whnf
  (repeat ((first | refine step_w1 rfl rfl ?_ | refine step_i (by kernel_rfl) ?_ | refine step_oL (by first | omega | decide | (simp only [tiB5, tiB23, tiB3, tiB2, tiB9, tiB36, tiB54, tiB121, tiB34, tiB28, tiB4, tiB50, tiB52, dlen, List.length_replicate, List.length_set, List.length_map, List.length_zipWith, List.length_take, List.length_append, List.length_cons, List.length_nil]; omega)) ?_ | refine step_oM (by first | omega | decide | (simp only [tiB5, tiB23, tiB3, tiB2, tiB9, tiB36, tiB54, tiB121, tiB34, tiB28, tiB4, tiB50, tiB52, dlen, List.length_replicate, List.length_set, List.length_map, List.length_zipWith, List.length_take, List.length_append, List.length_cons, List.length_nil]; omega)) ?_ | refine step_oA (by first | omega | decide | (simp only [tiB5, tiB23, tiB3, tiB2, tiB9, tiB36, tiB54, tiB121, tiB34, tiB28, tiB4, tiB50, tiB52, dlen, List.length_replicate, List.length_set, List.length_map, List.length_zipWith, List.length_take, List.length_append, List.length_cons, List.length_nil]; omega)) ?_ | refine step_oN (by first | omega | decide | (simp only [tiB5, tiB23, tiB3, tiB2, tiB9, tiB36, tiB54, tiB121, tiB34, tiB28, tiB4, tiB50, tiB52, dlen, List.length_replicate, List.length_set, List.length_map, List.length_zipWith, List.length_take, List.length_append, List.length_cons, List.length_nil]; omega)) ?_ | rw [t1.out] | rw [i1.out] | rw [i2.out] | rw [i3.out] | rw [i4.out] | rw [i5.out] | rw [g1.out] | rw [g2.out] | rw [i6.out] | rw [i7.out] | rw [i8.out] | rw [e0.out] | rw [e1.out] | rw [g4.out] | rw [i9.out] | rw [i11.out] | rw [i12.out] | rw [i13.out]); conv => whnf))
  have hlo0 : R < (t / v1 + 1) * V * S := long_guess (W := 4294967296) hP hS (by decide) (by rw [hv1]; exact Nat.lt_of_lt_of_le (by decide) hv1a.1) (by rw [ht, hv1])
  have hdm : t / v1 * v1 + t % v1 = t := by rw [Nat.mul_comm]; exact Nat.div_add_mod t v1
  refine SW_loopN hE (fun k => k) [4, 6, 7, 8, 9, 10, 12, 13] [0, 1, 39, 2001, 2002] (fun d fr hp => ∃ (r : Nat), d < 18446744073709551616 ∧ d * v1 + r = t ∧ r < 8589934592 ∧ R < (d + 1) * V * S ∧
    fr = [(4, .slc 39 1 0 (l + 1 - n)), (6, .val (.int .i64 s)), (7, .slc 2001 1 0 (l + 1)), (8, .slc 2002 1 0 n), (9, .val (.int .i64 n)), (10, .val (.int .i64 k)), (12, .val (.int .u64 d)), (13, .val (.int .u64 r))] ∧ hp = [(0, ⟨23, false, .ints .u32 xs⟩), (1, ⟨23, false, .ints .u32 ys⟩), (39, ⟨23, true, .ints .u32 q⟩), (2001, ⟨23, true, .ints .u32 (digs R (l + 1))⟩), (2002, ⟨23, true, .ints .u32 (digs V (n + 1))⟩)]) (t / v1) ?_ ?_ ?_
  · kernel_rfl
  · exact ⟨t % v1, by omega, hdm, by omega, hlo0, rfl, rfl⟩
  rintro d _ _ ⟨r, hd64, hdr, hr33, hlo, rfl, rfl⟩
  by_cases hrW : r < 4294967296
  · have t2 : Hid (decide ((r : Int) ≤ 4294967295) = true) := show decide ((r : Int) ≤ 4294967295) = true from decide_eq_true (by omega)
    have j1 : Hid (IntKind.u64.wrap ((v2 : Nat) : Int) = (v2 : Int)) := show IntKind.u64.wrap ((v2 : Nat) : Int) = (v2 : Int) from wu64 (by omega)
    have j2 : Hid (IntKind.i64.wrap ((n : Int) - 2) = ((n - 2 : Nat) : Int)) := show IntKind.i64.wrap ((n : Int) - 2) = ((n - 2 : Nat) : Int) from by rw [wrap_i64 (by omega) (by omega)]; omega
    have j3 : Hid (0 + ((n - 2 : Nat) : Int).toNat = n - 2) := show 0 + ((n - 2 : Nat) : Int).toNat = n - 2 from by omega
    have j4 : Hid (IntKind.i64.wrap (((k + n : Nat) : Int) - 2) = ((k + (n - 2) : Nat) : Int)) := show IntKind.i64.wrap (((k + n : Nat) : Int) - 2) = ((k + (n - 2) : Nat) : Int) from by rw [wrap_i64 (by omega) (by omega)]; omega
    have j5 : Hid (0 + ((k + (n - 2) : Nat) : Int).toNat = k + (n - 2)) := show 0 + ((k + (n - 2) : Nat) : Int).toNat = k + (n - 2) from by omega
    have j6 : Hid (IntKind.u64.wrap ((u0 : Nat) : Int) = (u0 : Int)) := show IntKind.u64.wrap ((u0 : Nat) : Int) = (u0 : Int) from wu64 (by omega)
    have j9 : Hid (IntKind.u64.wrap ((r : Int) + (v1 : Int)) = ((r + v1 : Nat) : Int)) := show IntKind.u64.wrap ((r : Int) + (v1 : Int)) = ((r + v1 : Nat) : Int) from by rw [← Int.natCast_add, wu64 (by omega)]
    -- the guess is too great: one less
    have hdec : R < d * V * S → 0 < d ∧ d - 1 < 18446744073709551616 ∧ (d - 1) * v1 + (r + v1) = t ∧ r + v1 < 8589934592 ∧ R < (d - 1 + 1) * V * S ∧ IntKind.u64.wrap ((d : Int) - 1) = ((d - 1 : Nat) : Int) := fun h => by
      have hd0 : 0 < d := by
        rcases Nat.eq_zero_or_pos d with rfl | h'
        · rw [Nat.zero_mul, Nat.zero_mul] at h; exact absurd h (Nat.not_lt_zero _)
        · exact h'
      have hd1 : d - 1 + 1 = d := Nat.succ_pred_eq_of_pos hd0
      have hm : d * v1 = (d - 1) * v1 + v1 := by
        have := Nat.succ_mul (d - 1) v1
        rw [Nat.succ_eq_add_one, hd1] at this; exact this
      refine ⟨hd0, by omega, by omega, by omega, by rw [hd1]; exact h, ?_⟩
      rw [show (d : Int) - 1 = ((d - 1 : Nat) : Int) from by omega, wu64 (by omega)]
    by_cases hdW : d < 4294967296
    · have t3 : Hid (decide ((d : Int) ≤ 4294967295) = true) := show decide ((d : Int) ≤ 4294967295) = true from decide_eq_true (by omega)
      have hdv : d * v2 ≤ 4294967295 * 4294967295 := Nat.mul_le_mul (by omega) (by omega)
      have j7 : Hid (IntKind.u64.wrap ((d : Int) * (v2 : Int)) = ((d * v2 : Nat) : Int)) := show IntKind.u64.wrap ((d : Int) * (v2 : Int)) = ((d * v2 : Nat) : Int) from by rw [← Int.natCast_mul, wu64 (by omega)]
      have j8 : Hid (ior .u64 (ishl .u64 (r : Int) 32) (u0 : Int) = ((r * 4294967296 + u0 : Nat) : Int)) := show ior .u64 (ishl .u64 (r : Int) 32) (u0 : Int) = ((r * 4294967296 + u0 : Nat) : Int) from shl_ior hrW hu0a
      by_cases hg : d * v2 ≤ r * 4294967296 + u0
      · have t4 : Hid (decide (((d * v2 : Nat) : Int) ≤ ((r * 4294967296 + u0 : Nat) : Int)) = true) := show decide (((d * v2 : Nat) : Int) ≤ ((r * 4294967296 + u0 : Nat) : Int)) = true from decide_eq_true (by omega)
        have hhi : d * V * S ≤ R + V * S := long_high (W := 4294967296) hP hS (by decide) hdW (by rw [ht, hv1]; exact hdr) (by rw [hu0, hv2]; exact hg) hVW
        conv => whnf
        (repeat ((first | refine step_w1 rfl rfl ?_ | refine step_i (by kernel_rfl) ?_ | refine step_oL (by first | omega | decide | (simp only [tiB5, tiB23, tiB3, tiB2, tiB9, tiB36, tiB54, tiB121, tiB34, tiB28, tiB4, tiB50, tiB52, dlen, List.length_replicate, List.length_set, List.length_map, List.length_zipWith, List.length_take, List.length_append, List.length_cons, List.length_nil]; omega)) ?_ | refine step_oM (by first | omega | decide | (simp only [tiB5, tiB23, tiB3, tiB2, tiB9, tiB36, tiB54, tiB121, tiB34, tiB28, tiB4, tiB50, tiB52, dlen, List.length_replicate, List.length_set, List.length_map, List.length_zipWith, List.length_take, List.length_append, List.length_cons, List.length_nil]; omega)) ?_ | refine step_oA (by first | omega | decide | (simp only [tiB5, tiB23, tiB3, tiB2, tiB9, tiB36, tiB54, tiB121, tiB34, tiB28, tiB4, tiB50, tiB52, dlen, List.length_replicate, List.length_set, List.length_map, List.length_zipWith, List.length_take, List.length_append, List.length_cons, List.length_nil]; omega)) ?_ | refine g_o (op_pickT rfl (ev_ok rfl) (ev_ok rfl)) ?_ | rw [t2.out] | rw [t3.out] | rw [j2.out] | rw [j3.out] | rw [g5.out] | rw [j1.out] | rw [i2.out] | rw [j4.out] | rw [j5.out] | rw [g3.out] | rw [j6.out] | rw [j7.out] | rw [j8.out] | rw [t4.out]); conv => whnf))
        have l1 : Hid (IntKind.i64.wrap (((k + n : Nat) : Int) + 1) = ((k + n + 1 : Nat) : Int)) := show IntKind.i64.wrap (((k + n : Nat) : Int) + 1) = ((k + n + 1 : Nat) : Int) from by rw [wrap_i64 (by omega) (by omega)]; omega
        have l2 : Hid (0 + (k : Int).toNat = k) := show 0 + (k : Int).toNat = k from by omega
        have l3 : Hid ((((k + n + 1 : Nat) : Int) - (k : Int)).toNat = n + 1) := show (((k + n + 1 : Nat) : Int) - (k : Int)).toNat = n + 1 from by omega
        have l4 : Hid (IntKind.u32.wrap (d : Int) = (d : Int)) := show IntKind.u32.wrap (d : Int) = (d : Int) from wu32 hdW
        have l5 : Hid (IntKind.i64.wrap ((k : Int) - 1) = (k : Int) - 1) := show IntKind.i64.wrap ((k : Int) - 1) = (k : Int) - 1 from wrap_i64 (by omega) (by omega)
        have kl := c_less (l + 1) k n R d V (digs V (n + 1)) (by omega) (by omega) hRB (by omega) (by omega) hvw hvs hdW 2001 2002 (by decide)
        rw [hSd] at kl
        obtain ⟨B, hB⟩ : ∃ B, 4294967296 ^ (k + n + 1) = B := ⟨_, rfl⟩
        have hDB : V * S ≤ B := by rw [← hB, ← hSd]; exact hVSB
        have hRB' : R < B := by rw [← hB]; exact hRB
        rw [hB] at kl
        have hq00 := hq0 k (Nat.lt_succ_self k)
        by_cases hneg : R < d * V * S
        · have t5 : Hid (decide (R < d * V * S) = true) := show decide (R < d * V * S) = true from decide_eq_true hneg
          rw [Nat.mul_assoc] at hneg hhi
          obtain ⟨m1, m2, m3, hd0⟩ := long_neg hneg hhi hRB' hDB
          rw [← Nat.mul_assoc] at m1
          have hR1 : (R + B - d * V * S) % B < 4294967296 ^ (k + n + 1) := by rw [hB]; exact Nat.mod_lt _ (Nat.lt_of_le_of_lt (Nat.zero_le _) hRB')
          obtain ⟨R1, hR1d⟩ : ∃ R1, (R + B - d * V * S) % B = R1 := ⟨_, rfl⟩
          rw [hR1d] at kl m1 hR1
          have hus1 : (digs R1 (l + 1)).length = l + 1 := digs_len _ _
          have husw := digs_w32 R1 (l + 1)
          have husv := valI_digs_lo (L := l + 1) hR1 (by omega)
          have husz : ∀ j, k + n + 1 ≤ j → (digs R1 (l + 1)).getD j 0 = 0 := fun j hj => digs_hi hR1 hj
          have l6 : Hid (IntKind.u64.wrap ((d : Int) - 1) = ((d - 1 : Nat) : Int)) := show IntKind.u64.wrap ((d : Int) - 1) = ((d - 1 : Nat) : Int) from by rw [show (d : Int) - 1 = ((d - 1 : Nat) : Int) from by omega, wu64 (by omega)]
          (repeat ((first | refine step_w1 rfl rfl ?_ | refine step_oA (by first | omega | decide | (simp only [tiB5, tiB23, tiB3, tiB2, tiB9, tiB36, tiB54, tiB121, tiB34, tiB28, tiB4, tiB50, tiB52, dlen, List.length_replicate, List.length_set, List.length_map, List.length_zipWith, List.length_take, List.length_append, List.length_cons, List.length_nil]; omega)) ?_ | refine ⟨[_, _], _, [], [_, _], (by assumption), two_fk rfl rfl, nil_new, two_upd (List.mem_cons_self ..) rfl rfl rfl (List.mem_cons_of_mem _ (List.mem_cons_self ..)) rfl rfl rfl, ?_⟩ | rw [l1.out] | rw [l2.out] | rw [l3.out] | rw [t5.out]); conv => whnf))
          rw [l6.out]
          generalize hus : digs R1 (l + 1) = us at *
          refine SW_loopN hE (fun k => k) [4, 6, 7, 8, 9, 10, 12, 14, 128, 129, 130] [0, 1, 39, 2001, 2002] (fun m fr hp => ∃ (i : Nat) (o : List Int) (c : Nat), m = n - i ∧ i ≤ n ∧ o.length = l + 1 ∧ W32 o ∧ c ≤ 1 ∧ (∀ j, k + i ≤ j → o.getD j 0 = us.getD j 0) ∧ valI o (k + i) + c * 4294967296 ^ (k + i) = valI us (k + i) + valI (digs V (n + 1)) i * 4294967296 ^ k ∧
            fr = [(4, .slc 39 1 0 (l + 1 - n)), (6, .val (.int .i64 s)), (7, .slc 2001 1 0 (l + 1)), (8, .slc 2002 1 0 n), (9, .val (.int .i64 n)), (10, .val (.int .i64 k)), (12, .val (.int .u64 (d - 1 : Nat))), (14, .val (.int .u32 c)), (128, .slc 2002 1 0 n), (129, .val (.int .i64 n)), (130, .val (.int .i64 i))] ∧ hp = [(0, ⟨23, false, .ints .u32 xs⟩), (1, ⟨23, false, .ints .u32 ys⟩), (39, ⟨23, true, .ints .u32 q⟩), (2001, ⟨23, true, .ints .u32 o⟩), (2002, ⟨23, true, .ints .u32 (digs V (n + 1))⟩)]) n ?_ ?_ ?_
          · kernel_rfl
          · exact ⟨0, us, 0, by omega, by omega, hus1, husw, by omega, (fun _ _ => rfl), by simp [valI], rfl, rfl⟩
          rintro m _ _ ⟨i, o, c, rfl, hi, hlen, hw, hc, hrest, hval, rfl, rfl⟩
          obtain ⟨x, hx⟩ := Int.eq_ofNat_of_zero_le (husw (k + i)).1
          have hx2 := (husw (k + i)).2
          have hox : Hid (o.getD (k + i) 0 = (x : Int)) := show o.getD (k + i) 0 = (x : Int) from by rw [hrest _ (Nat.le_refl _)]; exact hx
          by_cases hlt : i < n
          · have t1 : Hid (decide ((i : Int) < (n : Int)) = true) := show decide ((i : Int) < (n : Int)) = true from decide_eq_true (by omega)
            have f1 : Hid (0 + (i : Int).toNat = i) := show 0 + (i : Int).toNat = i from by omega
            have f2 : Hid (IntKind.i64.wrap ((k : Int) + (i : Int)) = ((k + i : Nat) : Int)) := show IntKind.i64.wrap ((k : Int) + (i : Int)) = ((k + i : Nat) : Int) from by rw [wrap_i64 (by omega) (by omega)]; omega
            have f3 : Hid (0 + ((k + i : Nat) : Int).toNat = k + i) := show 0 + ((k + i : Nat) : Int).toNat = k + i from by omega
            have f4 : Hid (IntKind.i64.wrap ((i : Int) + 1) = ((i + 1 : Nat) : Int)) := show IntKind.i64.wrap ((i : Int) + 1) = ((i + 1 : Nat) : Int) from by rw [wrap_i64 (by omega) (by omega)]; omega
            obtain ⟨w, hww⟩ := Int.eq_ofNat_of_zero_le (hvw i).1
            have hw2 := (hvw i).2
            have f5 : Hid ((digs V (n + 1)).getD i 0 = (w : Int)) := show (digs V (n + 1)).getD i 0 = (w : Int) from hww
            have k32 := c_Add32 x w c (by omega) (by omega) hc
            have hstep := back_step (by omega) hx hww hval
            have hc' : (x + w + c) / 4294967296 ≤ 1 := by omega
            conv => whnf
            (repeat ((first | refine step_w1 rfl rfl ?_ | refine step_oL (by first | omega | decide | (simp only [tiB5, tiB23, tiB3, tiB2, tiB9, tiB36, tiB54, tiB121, tiB34, tiB28, tiB4, tiB50, tiB52, dlen, List.length_replicate, List.length_set, List.length_map, List.length_zipWith, List.length_take, List.length_append, List.length_cons, List.length_nil]; omega)) ?_ | refine step_oA (by first | omega | decide | (simp only [tiB5, tiB23, tiB3, tiB2, tiB9, tiB36, tiB54, tiB121, tiB34, tiB28, tiB4, tiB50, tiB52, dlen, List.length_replicate, List.length_set, List.length_map, List.length_zipWith, List.length_take, List.length_append, List.length_cons, List.length_nil]; omega)) ?_ | refine g_c (by assumption) ?_ | rw [t1.out] | rw [f1.out] | rw [f5.out] | rw [f2.out] | rw [f3.out] | rw [hox.out]); conv => whnf))
            rw [f4.out]
            exact ⟨n - (i + 1), fun k => k, [4, 6, 7, 8, 9, 10, 12, 14, 128, 129, 130], [0, 1, 39, 2001, 2002], by omega, by kernel_rfl, i + 1, _, _, rfl, by omega, by simpa using hlen, hw.set (by omega) (by omega), hc', (fun j hj => by rw [getD_set, if_neg (by omega)]; exact hrest j (by omega)), hstep, rfl, rfl⟩
          · have hi' : i = n := by omega
            subst hi'
            have t1 : Hid (decide ((i : Int) < (i : Int)) = false) := show decide ((i : Int) < (i : Int)) = false from decide_eq_false (by omega)
            have f6 : Hid (IntKind.u32.wrap ((x : Int) + (c : Int)) = (((x + c) % 4294967296 : Nat) : Int)) := show IntKind.u32.wrap ((x : Int) + (c : Int)) = (((x + c) % 4294967296 : Nat) : Int) from by rw [← Int.natCast_add, wu32m]
            have f7 : Hid (IntKind.u32.wrap ((d - 1 : Nat) : Int) = ((d - 1 : Nat) : Int)) := show IntKind.u32.wrap ((d - 1 : Nat) : Int) = ((d - 1 : Nat) : Int) from wu32 (by omega)
            have hw' : W32 (o.set (k + i) (((x + c) % 4294967296 : Nat) : Int)) := hw.set (by omega) (by omega)
            have hfin := back_fin (by omega) hx hc (by omega) husv hvs hval hw'
            rw [hSd, hB, m1] at hfin
            have ho' := digs_low (L := l + 1) (by simpa using hlen) hw' (fun j hj => by rw [getD_set, if_neg (by omega), hrest j (by omega)]; exact husz j hj) (by omega) hfin
            obtain ⟨p1, p2⟩ := long_end (U := X * 2 ^ s) m2 m3 hXR
            conv => whnf
            (repeat ((first | refine step_w2 rfl rfl ?_ | refine step_oL (by first | omega | decide | (simp only [tiB5, tiB23, tiB3, tiB2, tiB9, tiB36, tiB54, tiB121, tiB34, tiB28, tiB4, tiB50, tiB52, dlen, List.length_replicate, List.length_set, List.length_map, List.length_zipWith, List.length_take, List.length_append, List.length_cons, List.length_nil]; omega)) ?_ | refine step_oA (by first | omega | decide | (simp only [tiB5, tiB23, tiB3, tiB2, tiB9, tiB36, tiB54, tiB121, tiB34, tiB28, tiB4, tiB50, tiB52, dlen, List.length_replicate, List.length_set, List.length_map, List.length_zipWith, List.length_take, List.length_append, List.length_cons, List.length_nil]; omega)) ?_ | rw [t1.out] | rw [i2.out] | rw [i3.out] | rw [hox.out] | rw [f6.out] | rw [f7.out] | rw [l2.out]); conv => whnf))
            rw [l5.out, ho']
            exact ⟨k, fun k => k, [4, 6, 7, 8, 9, 10], [0, 1, 39, 2001, 2002], by omega, by kernel_rfl, R - (d - 1) * (V * S), Qv + (d - 1) * S, q.set k ((d - 1 : Nat) : Int), by omega, by rw [hSd]; exact p1, p2, by simpa using hql, hqw.set (by omega) (by omega), (fun j hj => by rw [getD_set, if_neg (by omega)]; exact hq0 j (by omega)), by rw [valI_set (by omega) (by omega), hqv, hq00, ← natPowW, hSd, Int.sub_zero, ← Int.natCast_mul, ← Int.natCast_add], rfl, rfl⟩
        · have t5 : Hid (decide (R < d * V * S) = false) := show decide (R < d * V * S) = false from decide_eq_false hneg
          rw [Nat.mul_assoc] at hneg hlo
          have hneg' := Nat.le_of_not_lt hneg
          have hpos := long_pos (d := d) (D := V * S) hneg' hRB'
          rw [← Nat.mul_assoc] at hpos
          rw [hpos] at kl
          obtain ⟨p1, p2⟩ := long_end (U := X * 2 ^ s) hneg' hlo hXR
          rw [← Nat.mul_assoc] at p1 p2
          (repeat ((first | refine step_w2 rfl rfl ?_ | refine step_oL (by first | omega | decide | (simp only [tiB5, tiB23, tiB3, tiB2, tiB9, tiB36, tiB54, tiB121, tiB34, tiB28, tiB4, tiB50, tiB52, dlen, List.length_replicate, List.length_set, List.length_map, List.length_zipWith, List.length_take, List.length_append, List.length_cons, List.length_nil]; omega)) ?_ | refine step_oA (by first | omega | decide | (simp only [tiB5, tiB23, tiB3, tiB2, tiB9, tiB36, tiB54, tiB121, tiB34, tiB28, tiB4, tiB50, tiB52, dlen, List.length_replicate, List.length_set, List.length_map, List.length_zipWith, List.length_take, List.length_append, List.length_cons, List.length_nil]; omega)) ?_ | refine ⟨[_, _], _, [], [_, _], (by assumption), two_fk rfl rfl, nil_new, two_upd (List.mem_cons_self ..) rfl rfl rfl (List.mem_cons_of_mem _ (List.mem_cons_self ..)) rfl rfl rfl, ?_⟩ | rw [l1.out] | rw [l2.out] | rw [l3.out] | rw [t5.out] | rw [l4.out]); conv => whnf))
          rw [l5.out]
          exact ⟨k, fun k => k, [4, 6, 7, 8, 9, 10], [0, 1, 39, 2001, 2002], by omega, by kernel_rfl, R - d * V * S, Qv + d * S, q.set k (d : Int), by omega, by rw [hSd]; exact p1, p2, by simpa using hql, hqw.set (by omega) (by omega), (fun j hj => by rw [getD_set, if_neg (by omega)]; exact hq0 j (by omega)), by rw [valI_set (by omega) (by omega), hqv, hq00, ← natPowW, hSd, Int.sub_zero, ← Int.natCast_mul, ← Int.natCast_add], rfl, rfl⟩
      · have t4 : Hid (decide (((d * v2 : Nat) : Int) ≤ ((r * 4294967296 + u0 : Nat) : Int)) = false) := show decide (((d * v2 : Nat) : Int) ≤ ((r * 4294967296 + u0 : Nat) : Int)) = false from decide_eq_false (by omega)
        have hlow : R < d * V * S := long_low (W := 4294967296) hP hS (by decide) (by rw [ht, hv1]; exact hdr) (by rw [hu0, hv2]; omega)
        obtain ⟨n1, n2, n3, n4, n5, n6⟩ := hdec hlow
        conv => whnf
        (repeat ((first | refine step_w1 rfl rfl ?_ | refine step_w2 rfl rfl ?_ | refine step_i (by kernel_rfl) ?_ | refine step_oL (by first | omega | decide | (simp only [tiB5, tiB23, tiB3, tiB2, tiB9, tiB36, tiB54, tiB121, tiB34, tiB28, tiB4, tiB50, tiB52, dlen, List.length_replicate, List.length_set, List.length_map, List.length_zipWith, List.length_take, List.length_append, List.length_cons, List.length_nil]; omega)) ?_ | refine step_oM (by first | omega | decide | (simp only [tiB5, tiB23, tiB3, tiB2, tiB9, tiB36, tiB54, tiB121, tiB34, tiB28, tiB4, tiB50, tiB52, dlen, List.length_replicate, List.length_set, List.length_map, List.length_zipWith, List.length_take, List.length_append, List.length_cons, List.length_nil]; omega)) ?_ | refine step_oA (by first | omega | decide | (simp only [tiB5, tiB23, tiB3, tiB2, tiB9, tiB36, tiB54, tiB121, tiB34, tiB28, tiB4, tiB50, tiB52, dlen, List.length_replicate, List.length_set, List.length_map, List.length_zipWith, List.length_take, List.length_append, List.length_cons, List.length_nil]; omega)) ?_ | refine g_o (op_pickT rfl (ev_ok rfl) (ev_ok rfl)) ?_ | rw [t2.out] | rw [t3.out] | rw [j2.out] | rw [j3.out] | rw [g5.out] | rw [j1.out] | rw [i2.out] | rw [j4.out] | rw [j5.out] | rw [g3.out] | rw [j6.out] | rw [j7.out] | rw [j8.out] | rw [t4.out] | rw [e0.out] | rw [e1.out] | rw [g4.out] | rw [i9.out]); conv => whnf))
        rw [j9.out, n6]
        exact ⟨d - 1, fun k => k, [4, 6, 7, 8, 9, 10, 12, 13], [0, 1, 39, 2001, 2002], by omega, by kernel_rfl, r + v1, n2, n3, n4, n5, rfl, rfl⟩
    · have t3 : Hid (decide ((d : Int) ≤ 4294967295) = false) := show decide ((d : Int) ≤ 4294967295) = false from decide_eq_false (by omega)
      have hlow : R < d * V * S := by
        have h1 : 4294967296 * (V * S) ≤ d * (V * S) := Nat.mul_le_mul_right _ (by omega)
        rw [Nat.mul_assoc]
        refine Nat.lt_of_lt_of_le hR' (Nat.le_trans (Nat.le_of_eq ?_) h1)
        rw [Nat.mul_comm 4294967296, Nat.mul_assoc]
      obtain ⟨n1, n2, n3, n4, n5, n6⟩ := hdec hlow
      conv => whnf
      (repeat ((first | refine step_w1 rfl rfl ?_ | refine step_w2 rfl rfl ?_ | refine step_i (by kernel_rfl) ?_ | refine step_oL (by first | omega | decide | (simp only [tiB5, tiB23, tiB3, tiB2, tiB9, tiB36, tiB54, tiB121, tiB34, tiB28, tiB4, tiB50, tiB52, dlen, List.length_replicate, List.length_set, List.length_map, List.length_zipWith, List.length_take, List.length_append, List.length_cons, List.length_nil]; omega)) ?_ | refine step_oA (by first | omega | decide | (simp only [tiB5, tiB23, tiB3, tiB2, tiB9, tiB36, tiB54, tiB121, tiB34, tiB28, tiB4, tiB50, tiB52, dlen, List.length_replicate, List.length_set, List.length_map, List.length_zipWith, List.length_take, List.length_append, List.length_cons, List.length_nil]; omega)) ?_ | refine g_o (op_pickF rfl (ev_ok rfl) (ev_ok rfl)) ?_ | rw [t2.out] | rw [t3.out] | rw [e0.out] | rw [e1.out] | rw [g4.out] | rw [i9.out]); conv => whnf))
      rw [j9.out, n6]
      exact ⟨d - 1, fun k => k, [4, 6, 7, 8, 9, 10, 12, 13], [0, 1, 39, 2001, 2002], by omega, by kernel_rfl, r + v1, n2, n3, n4, n5, rfl, rfl⟩
  · have t2 : Hid (decide ((r : Int) ≤ 4294967295) = false) := show decide ((r : Int) ≤ 4294967295) = false from decide_eq_false (by omega)
    have hdW : d < 4294967296 := long_small (W := 4294967296) hP hS (by decide) (by rw [ht, hv1]; exact hdr) (by omega) hR'
    have hhi : d * V * S ≤ R + V * S := Nat.le_trans (long_rest (W := 4294967296) hP hS (by decide) hdW (by rw [ht, hv1]; exact hdr) (by omega)) (Nat.le_add_right _ _)
    conv => whnf
    (repeat (first | (refine step_w2 rfl rfl ?_; conv => whnf) | (rw [t2.out]; conv => whnf)))
    have l1 : Hid (IntKind.i64.wrap (((k + n : Nat) : Int) + 1) = ((k + n + 1 : Nat) : Int)) := show IntKind.i64.wrap (((k + n : Nat) : Int) + 1) = ((k + n + 1 : Nat) : Int) from by rw [wrap_i64 (by omega) (by omega)]; omega
    have l2 : Hid (0 + (k : Int).toNat = k) := show 0 + (k : Int).toNat = k from by omega
    have l3 : Hid ((((k + n + 1 : Nat) : Int) - (k : Int)).toNat = n + 1) := show (((k + n + 1 : Nat) : Int) - (k : Int)).toNat = n + 1 from by omega
    have l4 : Hid (IntKind.u32.wrap (d : Int) = (d : Int)) := show IntKind.u32.wrap (d : Int) = (d : Int) from wu32 hdW
    have l5 : Hid (IntKind.i64.wrap ((k : Int) - 1) = (k : Int) - 1) := show IntKind.i64.wrap ((k : Int) - 1) = (k : Int) - 1 from wrap_i64 (by omega) (by omega)
    have kl := c_less (l + 1) k n R d V (digs V (n + 1)) (by omega) (by omega) hRB (by omega) (by omega) hvw hvs hdW 2001 2002 (by decide)
    rw [hSd] at kl
    obtain ⟨B, hB⟩ : ∃ B, 4294967296 ^ (k + n + 1) = B := ⟨_, rfl⟩
    have hDB : V * S ≤ B := by rw [← hB, ← hSd]; exact hVSB
    have hRB' : R < B := by rw [← hB]; exact hRB
    rw [hB] at kl
    have hq00 := hq0 k (Nat.lt_succ_self k)
    by_cases hneg : R < d * V * S
    · have t5 : Hid (decide (R < d * V * S) = true) := show decide (R < d * V * S) = true from decide_eq_true hneg
      rw [Nat.mul_assoc] at hneg hhi
      obtain ⟨m1, m2, m3, hd0⟩ := long_neg hneg hhi hRB' hDB
      rw [← Nat.mul_assoc] at m1
      have hR1 : (R + B - d * V * S) % B < 4294967296 ^ (k + n + 1) := by rw [hB]; exact Nat.mod_lt _ (Nat.lt_of_le_of_lt (Nat.zero_le _) hRB')
      obtain ⟨R1, hR1d⟩ : ∃ R1, (R + B - d * V * S) % B = R1 := ⟨_, rfl⟩
      rw [hR1d] at kl m1 hR1
      have hus1 : (digs R1 (l + 1)).length = l + 1 := digs_len _ _
      have husw := digs_w32 R1 (l + 1)
      have husv := valI_digs_lo (L := l + 1) hR1 (by omega)
      have husz : ∀ j, k + n + 1 ≤ j → (digs R1 (l + 1)).getD j 0 = 0 := fun j hj => digs_hi hR1 hj
      have l6 : Hid (IntKind.u64.wrap ((d : Int) - 1) = ((d - 1 : Nat) : Int)) := show IntKind.u64.wrap ((d : Int) - 1) = ((d - 1 : Nat) : Int) from by rw [show (d : Int) - 1 = ((d - 1 : Nat) : Int) from by omega, wu64 (by omega)]
      (repeat ((first | refine step_w1 rfl rfl ?_ | refine step_oA (by first | omega | decide | (simp only [tiB5, tiB23, tiB3, tiB2, tiB9, tiB36, tiB54, tiB121, tiB34, tiB28, tiB4, tiB50, tiB52, dlen, List.length_replicate, List.length_set, List.length_map, List.length_zipWith, List.length_take, List.length_append, List.length_cons, List.length_nil]; omega)) ?_ | refine ⟨[_, _], _, [], [_, _], (by assumption), two_fk rfl rfl, nil_new, two_upd (List.mem_cons_self ..) rfl rfl rfl (List.mem_cons_of_mem _ (List.mem_cons_self ..)) rfl rfl rfl, ?_⟩ | rw [i2.out] | rw [l1.out] | rw [l2.out] | rw [l3.out] | rw [t5.out]); conv => whnf))
      rw [l6.out]
      generalize hus : digs R1 (l + 1) = us at *
      refine SW_loopN hE (fun k => k) [4, 6, 7, 8, 9, 10, 12, 14, 128, 129, 130] [0, 1, 39, 2001, 2002] (fun m fr hp => ∃ (i : Nat) (o : List Int) (c : Nat), m = n - i ∧ i ≤ n ∧ o.length = l + 1 ∧ W32 o ∧ c ≤ 1 ∧ (∀ j, k + i ≤ j → o.getD j 0 = us.getD j 0) ∧ valI o (k + i) + c * 4294967296 ^ (k + i) = valI us (k + i) + valI (digs V (n + 1)) i * 4294967296 ^ k ∧
        fr = [(4, .slc 39 1 0 (l + 1 - n)), (6, .val (.int .i64 s)), (7, .slc 2001 1 0 (l + 1)), (8, .slc 2002 1 0 n), (9, .val (.int .i64 n)), (10, .val (.int .i64 k)), (12, .val (.int .u64 (d - 1 : Nat))), (14, .val (.int .u32 c)), (128, .slc 2002 1 0 n), (129, .val (.int .i64 n)), (130, .val (.int .i64 i))] ∧ hp = [(0, ⟨23, false, .ints .u32 xs⟩), (1, ⟨23, false, .ints .u32 ys⟩), (39, ⟨23, true, .ints .u32 q⟩), (2001, ⟨23, true, .ints .u32 o⟩), (2002, ⟨23, true, .ints .u32 (digs V (n + 1))⟩)]) n ?_ ?_ ?_
      · kernel_rfl
      · exact ⟨0, us, 0, by omega, by omega, hus1, husw, by omega, (fun _ _ => rfl), by simp [valI], rfl, rfl⟩
      rintro m _ _ ⟨i, o, c, rfl, hi, hlen, hw, hc, hrest, hval, rfl, rfl⟩
      obtain ⟨x, hx⟩ := Int.eq_ofNat_of_zero_le (husw (k + i)).1
      have hx2 := (husw (k + i)).2
      have hox : Hid (o.getD (k + i) 0 = (x : Int)) := show o.getD (k + i) 0 = (x : Int) from by rw [hrest _ (Nat.le_refl _)]; exact hx
      by_cases hlt : i < n
      · have t1 : Hid (decide ((i : Int) < (n : Int)) = true) := show decide ((i : Int) < (n : Int)) = true from decide_eq_true (by omega)
        have f1 : Hid (0 + (i : Int).toNat = i) := show 0 + (i : Int).toNat = i from by omega
        have f2 : Hid (IntKind.i64.wrap ((k : Int) + (i : Int)) = ((k + i : Nat) : Int)) := show IntKind.i64.wrap ((k : Int) + (i : Int)) = ((k + i : Nat) : Int) from by rw [wrap_i64 (by omega) (by omega)]; omega
        have f3 : Hid (0 + ((k + i : Nat) : Int).toNat = k + i) := show 0 + ((k + i : Nat) : Int).toNat = k + i from by omega
        have f4 : Hid (IntKind.i64.wrap ((i : Int) + 1) = ((i + 1 : Nat) : Int)) := show IntKind.i64.wrap ((i : Int) + 1) = ((i + 1 : Nat) : Int) from by rw [wrap_i64 (by omega) (by omega)]; omega
        obtain ⟨w, hww⟩ := Int.eq_ofNat_of_zero_le (hvw i).1
        have hw2 := (hvw i).2
        have f5 : Hid ((digs V (n + 1)).getD i 0 = (w : Int)) := show (digs V (n + 1)).getD i 0 = (w : Int) from hww
        have k32 := c_Add32 x w c (by omega) (by omega) hc
        have hstep := back_step (by omega) hx hww hval
        have hc' : (x + w + c) / 4294967296 ≤ 1 := by omega
        conv => whnf
        (repeat ((first | refine step_w1 rfl rfl ?_ | refine step_oL (by first | omega | decide | (simp only [tiB5, tiB23, tiB3, tiB2, tiB9, tiB36, tiB54, tiB121, tiB34, tiB28, tiB4, tiB50, tiB52, dlen, List.length_replicate, List.length_set, List.length_map, List.length_zipWith, List.length_take, List.length_append, List.length_cons, List.length_nil]; omega)) ?_ | refine step_oA (by first | omega | decide | (simp only [tiB5, tiB23, tiB3, tiB2, tiB9, tiB36, tiB54, tiB121, tiB34, tiB28, tiB4, tiB50, tiB52, dlen, List.length_replicate, List.length_set, List.length_map, List.length_zipWith, List.length_take, List.length_append, List.length_cons, List.length_nil]; omega)) ?_ | refine g_c (by assumption) ?_ | rw [t1.out] | rw [f1.out] | rw [f5.out] | rw [f2.out] | rw [f3.out] | rw [hox.out]); conv => whnf))
        rw [f4.out]
        exact ⟨n - (i + 1), fun k => k, [4, 6, 7, 8, 9, 10, 12, 14, 128, 129, 130], [0, 1, 39, 2001, 2002], by omega, by kernel_rfl, i + 1, _, _, rfl, by omega, by simpa using hlen, hw.set (by omega) (by omega), hc', (fun j hj => by rw [getD_set, if_neg (by omega)]; exact hrest j (by omega)), hstep, rfl, rfl⟩
      · have hi' : i = n := by omega
        subst hi'
        have t1 : Hid (decide ((i : Int) < (i : Int)) = false) := show decide ((i : Int) < (i : Int)) = false from decide_eq_false (by omega)
        have f6 : Hid (IntKind.u32.wrap ((x : Int) + (c : Int)) = (((x + c) % 4294967296 : Nat) : Int)) := show IntKind.u32.wrap ((x : Int) + (c : Int)) = (((x + c) % 4294967296 : Nat) : Int) from by rw [← Int.natCast_add, wu32m]
        have f7 : Hid (IntKind.u32.wrap ((d - 1 : Nat) : Int) = ((d - 1 : Nat) : Int)) := show IntKind.u32.wrap ((d - 1 : Nat) : Int) = ((d - 1 : Nat) : Int) from wu32 (by omega)
        have hw' : W32 (o.set (k + i) (((x + c) % 4294967296 : Nat) : Int)) := hw.set (by omega) (by omega)
        have hfin := back_fin (by omega) hx hc (by omega) husv hvs hval hw'
        rw [hSd, hB, m1] at hfin
        have ho' := digs_low (L := l + 1) (by simpa using hlen) hw' (fun j hj => by rw [getD_set, if_neg (by omega), hrest j (by omega)]; exact husz j hj) (by omega) hfin
        obtain ⟨p1, p2⟩ := long_end (U := X * 2 ^ s) m2 m3 hXR
        conv => whnf
        (repeat ((first | refine step_w2 rfl rfl ?_ | refine step_oL (by first | omega | decide | (simp only [tiB5, tiB23, tiB3, tiB2, tiB9, tiB36, tiB54, tiB121, tiB34, tiB28, tiB4, tiB50, tiB52, dlen, List.length_replicate, List.length_set, List.length_map, List.length_zipWith, List.length_take, List.length_append, List.length_cons, List.length_nil]; omega)) ?_ | refine step_oA (by first | omega | decide | (simp only [tiB5, tiB23, tiB3, tiB2, tiB9, tiB36, tiB54, tiB121, tiB34, tiB28, tiB4, tiB50, tiB52, dlen, List.length_replicate, List.length_set, List.length_map, List.length_zipWith, List.length_take, List.length_append, List.length_cons, List.length_nil]; omega)) ?_ | rw [t1.out] | rw [i2.out] | rw [i3.out] | rw [hox.out] | rw [f6.out] | rw [f7.out] | rw [l2.out]); conv => whnf))
        rw [l5.out, ho']
        exact ⟨k, fun k => k, [4, 6, 7, 8, 9, 10], [0, 1, 39, 2001, 2002], by omega, by kernel_rfl, R - (d - 1) * (V * S), Qv + (d - 1) * S, q.set k ((d - 1 : Nat) : Int), by omega, by rw [hSd]; exact p1, p2, by simpa using hql, hqw.set (by omega) (by omega), (fun j hj => by rw [getD_set, if_neg (by omega)]; exact hq0 j (by omega)), by rw [valI_set (by omega) (by omega), hqv, hq00, ← natPowW, hSd, Int.sub_zero, ← Int.natCast_mul, ← Int.natCast_add], rfl, rfl⟩
    · have t5 : Hid (decide (R < d * V * S) = false) := show decide (R < d * V * S) = false from decide_eq_false hneg
      rw [Nat.mul_assoc] at hneg hlo
      have hneg' := Nat.le_of_not_lt hneg
      have hpos := long_pos (d := d) (D := V * S) hneg' hRB'
      rw [← Nat.mul_assoc] at hpos
      rw [hpos] at kl
      obtain ⟨p1, p2⟩ := long_end (U := X * 2 ^ s) hneg' hlo hXR
      rw [← Nat.mul_assoc] at p1 p2
      (repeat ((first | refine step_w2 rfl rfl ?_ | refine step_oL (by first | omega | decide | (simp only [tiB5, tiB23, tiB3, tiB2, tiB9, tiB36, tiB54, tiB121, tiB34, tiB28, tiB4, tiB50, tiB52, dlen, List.length_replicate, List.length_set, List.length_map, List.length_zipWith, List.length_take, List.length_append, List.length_cons, List.length_nil]; omega)) ?_ | refine step_oA (by first | omega | decide | (simp only [tiB5, tiB23, tiB3, tiB2, tiB9, tiB36, tiB54, tiB121, tiB34, tiB28, tiB4, tiB50, tiB52, dlen, List.length_replicate, List.length_set, List.length_map, List.length_zipWith, List.length_take, List.length_append, List.length_cons, List.length_nil]; omega)) ?_ | refine ⟨[_, _], _, [], [_, _], (by assumption), two_fk rfl rfl, nil_new, two_upd (List.mem_cons_self ..) rfl rfl rfl (List.mem_cons_of_mem _ (List.mem_cons_self ..)) rfl rfl rfl, ?_⟩ | rw [i2.out] | rw [l1.out] | rw [l2.out] | rw [l3.out] | rw [t5.out] | rw [l4.out]); conv => whnf))
      rw [l5.out]
      exact ⟨k, fun k => k, [4, 6, 7, 8, 9, 10], [0, 1, 39, 2001, 2002], by omega, by kernel_rfl, R - d * V * S, Qv + d * S, q.set k (d : Int), by omega, by rw [hSd]; exact p1, p2, by simpa using hql, hqw.set (by omega) (by omega), (fun j hj => by rw [getD_set, if_neg (by omega)]; exact hq0 j (by omega)), by rw [valI_set (by omega) (by omega), hqv, hq00, ← natPowW, hSd, Int.sub_zero, ← Int.natCast_mul, ← Int.natCast_add], rfl, rfl⟩
end Go.Proofs.YtdcaodkjofkmgaaGreatDoor

namespace Go.Proofs.YtdcaodkjofkmgaaGreatDoor
open Go.Sx
set_option linter.unusedSimpArgs false
set_option linter.unusedVariables false
set_option maxRecDepth 100000
set_option maxHeartbeats 8000000

theorem c_Div (a b : Nat) (ha : (wInts a).length < 274877906944) (hb : (wInts b).length < 274877906944) (h0 : b ≠ 0) :
    CallOK Tryz.prog 86 [.nat a, .nat b] [] (.tup [.nat (a / b), .nat (a % b), .val (.bool true)]) [] [] := by
  by_cases hs : a < 18446744073709551616 ∧ b < 18446744073709551616
  · exact s_Div a b hs.1 hs.2 h0
  have kz := c_nZero b
  rw [decide_eq_false h0] at kz
  have kc := c_Cmp a b (by omega) (by omega)
  have kb := c_words b 1002 (by omega)
  have ka := c_words a 1001 (by omega)
  by_cases hlt : a < b
  · have t1 : Hid (decide (((a : Int) - b).sign < 0) = true) := show decide (((a : Int) - b).sign < 0) = true from decide_eq_true (Int.sign_neg_iff.2 (by omega))
    rw [Nat.div_eq_of_lt hlt, Nat.mod_eq_of_lt hlt]
    refine callV (Z := []) tabOK mixedOK Tryz.func86 rfl (by kernel_rfl) rfl rfl (by kernel_rfl) rfl ?_
    intro W0 w0 ρ0 hE
    conv => whnf
    (repeat ((first | refine step_w1 rfl rfl ?_ | refine step_w2 rfl rfl ?_ | refine step_i (by kernel_rfl) ?_ | refine g_c (by assumption) ?_ | rw [t1.out]); conv => whnf)); exact Recast.refl _
  have t1 : Hid (decide (((a : Int) - b).sign < 0) = false) := show decide (((a : Int) - b).sign < 0) = false from decide_eq_false (by have := Int.sign_nonneg_iff.2 (show 0 ≤ (a : Int) - b by omega); omega)
  have hbig : ¬ a < 18446744073709551616 := by omega
  have hlen : (wInts b).length ≤ (wInts a).length := len_le_of (Nat.lt_of_le_of_lt (Nat.le_of_not_lt hlt) (lt_of_len a))
  have hA : wArr a = wInts a := if_neg hbig
  rw [hA] at ka
  have htop := wt_top b
  have hb0 : (wInts b).length ≠ 0 := (wInts_top h0).1
  have hval := wInts_val a
  have hvb := wArr_val b
  have hbl := wArr_len b
  have hbl2 : (wArr b).length < 549755813888 := by
    have := wArr_len2 b (M := 274877906944) (by omega) (by omega)
    omega
  by_cases hone : (wInts b).length = 1
  · rw [hone] at kb hvb htop
    obtain ⟨y, hy⟩ := Int.eq_ofNat_of_zero_le (wArr_w32 b 0).1
    have hy2 := (wArr_w32 b 0).2
    have hyb : y = b := by
      rw [valI, valI, Int.pow_zero, hy] at hvb
      omega
    subst hyb
    have ks := c_short (wInts a) (wInts a).length (Nat.le_refl _) (by omega) (wInts_w32 a) y h0 (by omega) 1001 2001 (by decide) true a hval
    have hq : (valI (digs (a / y) (wInts a).length) (wInts a).length).toNat = a / y := by
      rw [valI_digs, Nat.mod_eq_of_lt (Nat.lt_of_le_of_lt (Nat.div_le_self _ _) (lt_of_len a))]; exact Int.toNat_natCast _
    have ko := c_of (digs (a / y) (wInts a).length) (wInts a).length (by rw [digs_len]; exact Nat.le_refl _) (by rw [digs_len]; omega) (digs_w32 _ _) 2001 true
    rw [hq] at ko
    have hr : a % y < y := Nat.mod_lt _ (by omega)
    have i1 : Hid (IntKind.u64.wrap ((a % y : Nat) : Int) = ((a % y : Nat) : Int)) := show IntKind.u64.wrap ((a % y : Nat) : Int) = ((a % y : Nat) : Int) from wu64 (by omega)
    have i2 : Hid ((wArr y).getD (0 + Int.toNat 0) 0 = (y : Int)) := show (wArr y).getD (0 + Int.toNat 0) 0 = (y : Int) from hy
    refine callV (Z := []) tabOK mixedOK Tryz.func86 rfl (by kernel_rfl) rfl rfl (by kernel_rfl) rfl ?_
    intro W0 w0 ρ0 hE
    conv => whnf
    (repeat (first | (refine step_w2 rfl rfl ?_; conv => whnf) | (refine g_c (by assumption) ?_; conv => whnf) | (rw [t1.out]; conv => whnf)))
    rw [big_eq, decide_eq_false hbig]
    (repeat ((first | refine step_w1 rfl rfl ?_ | refine step_w2 rfl rfl ?_ | refine step_i (by kernel_rfl) ?_ | refine step_oL (by first | omega | decide | (simp only [tiB5, tiB23, tiB3, tiB2, tiB9, tiB36, tiB54, tiB121, tiB34, tiB28, tiB4, tiB50, tiB52, dlen, List.length_replicate, List.length_set, List.length_map, List.length_zipWith, List.length_take, List.length_append, List.length_cons, List.length_nil]; omega)) ?_ | refine step_oA (by first | omega | decide | (simp only [tiB5, tiB23, tiB3, tiB2, tiB9, tiB36, tiB54, tiB121, tiB34, tiB28, tiB4, tiB50, tiB52, dlen, List.length_replicate, List.length_set, List.length_map, List.length_zipWith, List.length_take, List.length_append, List.length_cons, List.length_nil]; omega)) ?_ | refine g_cn (by assumption) rfl ?_ | refine g_c1 (by assumption) rfl ?_ | refine g_c1n (by assumption) rfl rfl ?_ | rw [i2.out] | rw [i1.out]); conv => whnf))
    refine recast_tup3 (fun _ _ h => h) rfl (hasC_nat ?_ rfl (by omega)) rfl (fun _ _ h => h) rfl
    rfl
  · have hn2 : 2 ≤ (wInts b).length := by omega
    have htop' : (wArr b).getD ((wInts b).length - 1) 0 ≠ 0 := htop.resolve_left hb0
    have hbg : 4294967296 ^ ((wInts b).length - 1) ≤ b := by
      have := valI_ge (wArr_w32 b) htop'
      rw [show (wInts b).length - 1 + 1 = (wInts b).length from by omega, hvb, ← natPowW] at this
      omega
    have hqb : a / b < 4294967296 ^ ((wInts a).length + 1 - (wInts b).length) := by
      refine Nat.div_lt_of_lt_mul (Nat.lt_of_lt_of_le (lt_of_len a) ?_)
      have e : 4294967296 ^ (wInts a).length = 4294967296 ^ ((wInts b).length - 1) * 4294967296 ^ ((wInts a).length + 1 - (wInts b).length) := by rw [← Nat.pow_add]; congr 1; omega
      rw [e]
      exact Nat.mul_le_mul_right _ hbg
    have hrb : a % b < 4294967296 ^ ((wInts a).length + 1) := Nat.lt_of_le_of_lt (Nat.mod_le _ _) (Nat.lt_of_lt_of_le (lt_of_len a) (Nat.pow_le_pow_right (by decide) (by omega)))
    have kl := CallOK.anyWr (c_long (wInts a) (wArr b) (wInts a).length (wInts b).length a b (Nat.le_refl _) hbl (by omega) hbl2 (wInts_w32 a) (wArr_w32 b) hval hvb hn2 htop' hlen 1001 1002 2001 2002 (by decide) (by decide) (by decide)) (fk := [(1001, ⟨23, true, .ints .u32 (wInts a)⟩), (1002, ⟨23, true, .ints .u32 (wArr b)⟩)])
    have ko1 := c_of (digs (a / b) ((wInts a).length + 1 - (wInts b).length)) ((wInts a).length + 1 - (wInts b).length) (by rw [digs_len]; exact Nat.le_refl _) (by rw [digs_len]; omega) (digs_w32 _ _) 2001 true
    have ko2 := c_of (digs (a % b) ((wInts a).length + 1)) ((wInts a).length + 1) (by rw [digs_len]; exact Nat.le_refl _) (by rw [digs_len]; omega) (digs_w32 _ _) 2002 true
    rw [valI_digs, Nat.mod_eq_of_lt hqb, Int.toNat_natCast] at ko1
    rw [valI_digs, Nat.mod_eq_of_lt hrb, Int.toNat_natCast] at ko2
    have t2 : Hid ((((wInts b).length : Int) == 1) = false) := show (((wInts b).length : Int) == 1) = false from by simp; omega
    have t3 : Hid (decide (((wInts b).length : Int) = 1) = false) := show decide (((wInts b).length : Int) = 1) = false from by simp; omega
    refine callV (Z := []) tabOK mixedOK Tryz.func86 rfl (by kernel_rfl) rfl rfl (by kernel_rfl) rfl ?_
    intro W0 w0 ρ0 hE
    conv => whnf
    (repeat (first | (refine step_w2 rfl rfl ?_; conv => whnf) | (refine g_c (by assumption) ?_; conv => whnf) | (rw [t1.out]; conv => whnf)))
    rw [big_eq, decide_eq_false hbig]
    (repeat ((first | refine step_w2 rfl rfl ?_ | refine g_cn (by assumption) rfl ?_ | refine g_c1 (by assumption) rfl ?_ | refine ⟨[_, _], _, [_, _], [], (by assumption), two_fk rfl rfl, two_new rfl rfl, nil_upd, ?_⟩ | rw [t2.out]); conv => whnf))
    exact Recast.refl _

theorem c_Gcd (a b : Nat) (ha : (wInts a).length < 274877906944) (hb : (wInts b).length < 274877906944) :
    CallOK Tryz.prog 84 [.nat a, .nat b] [] (.nat (Nat.gcd a b)) [] [] := by
  refine callV (Z := []) tabOK mixedOK Tryz.func84 rfl (by kernel_rfl) rfl rfl (by kernel_rfl) rfl ?_
  intro W0 w0 ρ0 hE
  conv => whnf
  refine SW_loopN hE (fun k => k) [2, 3, 4] [2, 3, 4] (fun m fr hp => ∃ x, (wInts x).length < 274877906944 ∧ (wInts m).length < 274877906944 ∧ Nat.gcd x m = Nat.gcd a b ∧ fr = [(2, .ptr 2 0 0 0), (3, .ptr 3 0 0 0), (4, .ptr 4 0 0 0)] ∧ hp = [(2, ⟨30, true, .one [.nat x]⟩), (3, ⟨30, true, .one [.nat m]⟩), (4, ⟨30, true, .one [.nat 0]⟩)]) b ?_ ?_ ?_
  · kernel_rfl
  · exact ⟨a, ha, hb, rfl, rfl, rfl⟩
  rintro m _ _ ⟨x, hx, hm, hg, rfl, rfl⟩
  have kz := c_nZero m
  by_cases h0 : m = 0
  · rw [decide_eq_true h0] at kz
    subst h0
    rw [← hg, Nat.gcd_zero_right]
    conv => whnf
    (repeat (first | (refine step_w2 rfl rfl ?_; conv => whnf) | (refine g_c (by assumption) ?_; conv => whnf))); exact Recast.refl _
  · rw [decide_eq_false h0] at kz
    have kd := c_Div x m hx hm h0
    have hlt := Nat.mod_lt x (Nat.pos_of_ne_zero h0)
    conv => whnf
    (repeat (first | (refine step_w1 rfl rfl ?_; conv => whnf) | (refine step_i (by kernel_rfl) ?_; conv => whnf) | (refine g_c (by assumption) ?_; conv => whnf)))
    refine ⟨x % m, fun k => k, [2, 3, 4], [2, 3, 4], hlt, by kernel_rfl, m, hm, ?_, ?_, rfl, rfl⟩
    · exact Nat.lt_of_le_of_lt (len_le_of (Nat.lt_trans hlt (lt_of_len m))) hm
    · rw [← hg, Nat.gcd_comm m, ← Nat.gcd_rec, Nat.gcd_comm]
end Go.Proofs.YtdcaodkjofkmgaaGreatDoor

namespace Go.Proofs.YtdcaodkjofkmgaaGreatDoor
open Go.Sx
set_option linter.unusedSimpArgs false
set_option linter.unusedVariables false

theorem len_sz {n : Nat} (h : sz n ≤ 1073741824) : (wInts n).length < 274877906944 := by
  have := wlen_sz (n := n) (M := 33554432) (by omega)
  omega

theorem natBig : NatOK 1073741824 where
  big := by decide
  cmp a b ha hb := c_Cmp a b (by have := len_sz ha; omega) (by have := len_sz hb; omega)
  add a b h := n_Add a b (by have := len_sz (n := a) (Nat.le_trans (sz_mono (by omega)) h); omega) (by have := len_sz (n := b) (Nat.le_trans (sz_mono (by omega)) h); omega)
  sub a b ha h := n_Sub a b (by have := len_sz ha; omega) h
  subF a b hb h := c_SubF a b (by have := len_sz hb; have := len_le_of (Nat.lt_trans h (lt_of_len b)); omega) (by have := len_sz hb; omega) h
  mul a b h := n_Mul a b (len_sz (by omega)) (len_sz (by omega))
  div a b ha hb h0 := c_Div a b (len_sz ha) (len_sz hb) h0
  divZ a := c_DivZ a
  gcd a b ha hb := c_Gcd a b (len_sz ha) (len_sz hb)
end Go.Proofs.YtdcaodkjofkmgaaGreatDoor

namespace Go.Proofs.YtdcaodkjofkmgaaGreatDoor
open Go.Sx
set_option linter.unusedSimpArgs false
set_option linter.unusedVariables false
set_option maxRecDepth 100000
set_option maxHeartbeats 4000000

/-- A fraction's size. -/
def fs (q : Rat) : Nat := fsz q + 1

theorem fs_add (a b : Rat) : fs (a + b) ≤ fs a + fs b := by have := @fsz_add a b; unfold fs; omega
theorem fs_mul (a b : Rat) : fs (a * b) ≤ fs a + fs b := by have := @fsz_mul a b; unfold fs; omega
theorem fs_inv (a : Rat) : fs a⁻¹ ≤ fs a := by have := fsz_inv a; unfold fs; omega
theorem fs_div (a b : Rat) : fs (a / b) ≤ fs a + fs b := by rw [Rat.div_def]; have h1 := fs_mul a b⁻¹; have h2 := fs_inv b; omega
theorem fs_zero : fs 0 = 2 := by decide +kernel
theorem fs_one : fs 1 = 2 := by decide +kernel
theorem fs_int {n : Int} (h0 : -9223372036854775808 ≤ n) (h1 : n < 9223372036854775808) : fs (n : Rat) ≤ 65 := by
  have := fsz_int (n := n) (k := 64) (sz_i64 h0 h1) (by decide); unfold fs; omega

theorem f_Add (a b : Rat) (h : fs a + fs b ≤ 1073741824) : CallOK Tryz.prog 24 [.frac a, .frac b] [] (.frac (a + b)) [] [] := c_fAdd natBig a b (by unfold fs at h; omega)
theorem f_Mul (a b : Rat) (h : fs a + fs b ≤ 1073741824) : CallOK Tryz.prog 25 [.frac a, .frac b] [] (.frac (a * b)) [] [] := c_fMul natBig a b (by unfold fs at h; omega)
theorem f_Div (a b : Rat) (hb : b ≠ 0) (h : fs a + fs b ≤ 1073741824) : CallOK Tryz.prog 58 [.frac a, .frac b] [] (.tup [.frac (a / b), .val (.int .i64 0)]) [] [] := c_fDiv natBig a b hb (by unfold fs at h; omega)
end Go.Proofs.YtdcaodkjofkmgaaGreatDoor

namespace Go.Proofs.YtdcaodkjofkmgaaGreatDoor
open Go.Sx
set_option linter.unusedSimpArgs false
set_option linter.unusedVariables false
set_option maxRecDepth 100000
set_option maxHeartbeats 4000000

end Go.Proofs.YtdcaodkjofkmgaaGreatDoor

namespace Go.Proofs.YtdcaodkjofkmgaaGreatDoor
open Go.Sx
set_option linter.unusedSimpArgs false
set_option linter.unusedVariables false
set_option maxRecDepth 100000
set_option maxHeartbeats 4000000

end Go.Proofs.YtdcaodkjofkmgaaGreatDoor

namespace Go.Proofs.YtdcaodkjofkmgaaGreatDoor
open Go.Sx
set_option linter.unusedSimpArgs false
set_option linter.unusedVariables false
set_option maxRecDepth 100000
set_option maxHeartbeats 4000000

theorem q_same (a b : Rat) : eqTy tab good 10 36 (fracCells a) (fracCells b) = some (decide (a = b)) := by
  have e : eqTy tab good 10 36 (fracCells a) (fracCells b) = some (((((low a.num.natAbs == low b.num.natAbs) && (((big a.num.natAbs).toList == (big b.num.natAbs).toList) && true)) && true) && ((decide (a.num < 0) == decide (b.num < 0)) && true)) &&
    (((low (a.den - 1) == low (b.den - 1)) && (((big (a.den - 1)).toList == (big (b.den - 1)).toList) && true)) && true)) := rfl
  rw [e]
  simp only [Bool.and_true]
  rw [nat_eq_iff, nat_eq_iff]
  congr 1
  rw [Bool.eq_iff_iff]
  simp only [Bool.and_eq_true, decide_eq_true_eq, beq_iff_eq, decide_eq_decide]
  have h1 := a.den_pos
  have h2 := b.den_pos
  constructor
  · rintro ⟨⟨h3, h4⟩, h5⟩
    exact Rat.ext (by omega) (by omega)
  · rintro rfl
    exact ⟨⟨rfl, Iff.rfl⟩, rfl⟩

end Go.Proofs.YtdcaodkjofkmgaaGreatDoor

namespace Go.Proofs.YtdcaodkjofkmgaaGreatDoor
open Go.Sx
set_option linter.unusedSimpArgs false
set_option linter.unusedVariables false
set_option maxRecDepth 100000
set_option maxHeartbeats 4000000

theorem SWx_frzI {E : Env} (t k : Nat) {c : Code} {K : Post'} {fr : List (Nat × SV)} {hp : List (Nat × Blk)} {ty : TypeId} {n : Nat} {kd : IntKind} {xs : List Int} (hW : ∀ b, ¬ E.W0 b) (ht : lk fr t = some (.slc k 1 0 n)) (hk : find hp k = some ⟨ty, true, .ints kd xs⟩)
    (hn : n = xs.length) (hs : SWx E c K ((t, ivec kd xs) :: fr) (setB hp k ⟨ty, true, .dead⟩)) : SWx E c K fr hp := by
  refine SWx_freeze t k (xs := xs.map (iel kd)) hW ht hk rfl rfl (keylessL_map (fun _ => rfl) xs) (by simp; omega) ?_
  rw [cutL_all (by simp; omega)]
  exact hs
theorem snoc_end {L : List Int} {i : Nat} {d : Int} (h : L.length = i) : List.take i L ++ List.take 1 (List.drop 0 [d]) = L ++ [d] := by
  rw [List.take_of_length_le (by omega)]; rfl
abbrev zblk (l : List Int) : Blk := ⟨3, true, .ints .i64 l⟩

theorem r_trim (l : List Int) (hl : l.length < 1099511627776) (h : W4 l) : CallOK Tryz.prog 113 [ivec .i64 l] [] (nN (valT l l.length).toNat) [] [] := by
  refine callV (Z := []) tabOK mixedOK Tryz.func113 rfl (by kernel_rfl) rfl rfl (by kernel_rfl) rfl ?_
  intro W0 w0 ρ0 hE
  conv => whnf
  skip
  refine SW_loopN hE (fun k => k) [0] [] (fun m fr hp => ∃ x : List Int, m = x.length ∧ x.length ≤ l.length ∧ W4 x ∧ valT x x.length = valT l l.length ∧ fr = [(0, ivec .i64 x)] ∧ hp = []) l.length ?_ ?_ ?_
  · kernel_rfl
  · exact ⟨l, rfl, Nat.le_refl _, h, rfl, rfl, rfl⟩
  rintro m _ _ ⟨x, rfl, hx, hw, hv, rfl, rfl⟩
  conv => whnf
  by_cases h0 : 0 < x.length
  · have t1 : decide ((x.length : Int) > 0) = true := decide_eq_true (by omega)
    have e1 : IntKind.i64.wrap ((x.length : Int) - 1) = ((x.length - 1 : Nat) : Int) := by rw [wrap_i64 (by omega) (by omega)]; omega
    by_cases hz : x.getD (x.length - 1) 0 = 0
    · have t2 : (x.getD (x.length - 1) 0 == 0) = true := beq_iff_eq.2 hz
      (repeat ((first | refine step_w1 rfl rfl ?_ | refine g_o (op_pickT rfl (ev_ok rfl) (ev_ok rfl)) ?_ | refine g_o (op_lenM rfl rfl rfl (ev_ok rfl) (tgt rfl) rfl) ?_ | refine g_o (op_loadA rfl (ev_ok rfl) (tgt rfl) rfl (Nat.succ_ne_zero _) rfl) ?_ | refine g_o (op_indexM (α := Int) (d := 0) rfl (ev_ok rfl) (ev_ok rfl) (tgt rfl) rfl (tgt rfl) rfl (by omega)) ?_ | refine g_o (op_sliceM rfl (ev_ok rfl) (bound_spec rfl) (bound_spec rfl) (.inl rfl) (tgt rfl) rfl (tgt rfl) rfl (by omega)) ?_ | rw [t1] | rw [e1] | rw [t2] | rw [Int.toNat_natCast]); conv => whnf))
      have hl' : (x.take (x.length - 1)).length = x.length - 1 := by simp
      exact ⟨x.length - 1, fun k => k, [0], [], by omega, by kernel_rfl, x.take (x.length - 1), hl'.symm, by omega, W4_take hw _, (valT_last h0 hz).trans hv, rfl, rfl⟩
    · have t2 : (x.getD (x.length - 1) 0 == 0) = false := beq_false_of_ne hz
      have e : nN (valT l l.length).toNat = ivec .i64 x := by rw [nN, ← hv, td_is hw (.inr hz)]
      rw [e]
      (repeat ((first | refine step_w1 rfl rfl ?_ | refine step_w2 rfl rfl ?_ | refine g_o (op_pickT rfl (ev_ok rfl) (ev_ok rfl)) ?_ | refine g_o (op_lenM rfl rfl rfl (ev_ok rfl) (tgt rfl) rfl) ?_ | refine g_o (op_loadA rfl (ev_ok rfl) (tgt rfl) rfl (Nat.succ_ne_zero _) rfl) ?_ | refine g_o (op_indexM (α := Int) (d := 0) rfl (ev_ok rfl) (ev_ok rfl) (tgt rfl) rfl (tgt rfl) rfl (by omega)) ?_ | rw [t1] | rw [e1] | rw [t2] | rw [Int.toNat_natCast]); conv => whnf)); (first | exact Recast.refl _ | exact Frz.recast (Recast.refl _) rfl | (refine Frz.one rfl rfl ?_; skip) | (refine Frz.tup ?_; skip))
  · have t1 : decide ((x.length : Int) > 0) = false := decide_eq_false (by omega)
    have e : nN (valT l l.length).toNat = ivec .i64 x := by rw [nN, ← hv, td_is hw (.inl (by omega))]
    rw [e]
    (repeat ((first | refine step_w2 rfl rfl ?_ | refine g_o (op_pickF rfl (ev_ok rfl) (ev_ok rfl)) ?_ | refine g_o (op_lenM rfl rfl rfl (ev_ok rfl) (tgt rfl) rfl) ?_ | rw [t1]); conv => whnf)); (first | exact Recast.refl _ | exact Frz.recast (Recast.refl _) rfl | (refine Frz.one rfl rfl ?_; skip) | (refine Frz.tup ?_; skip))

theorem r_Of (n : Nat) (hn : n < 18446744073709551616) : CallOK Tryz.prog 115 [.val (.int .u64 (n : Nat))] [] (nN n) [] [] := by
  refine callF (Z := []) tabOK mixedOK Tryz.func115 rfl (by kernel_rfl) (by first | rfl | (simp [keylessL, keyless, keylessL_map, *]; done)) (by first | rfl | (simp [keylessL, keyless, keylessL_map, *]; done)) (by kernel_rfl) rfl ?_
  intro w0 ρ0 hE
  conv => whnf
  skip
  refine SWx_adopt (t := 3) (k := 2001) (s := 1) (blk := zblk []) rfl rfl rfl ?_
  refine SW_loopS hE (fun k => k) [0, 3] [2001] (fun m fr hp => ∃ (v : Nat) (L : List Int), m = v ∧ v ≤ n ∧ td n = L ++ td v ∧ L.length ≤ n ∧ L.length + v ≤ n ∧ fr = [(0, .val (.int .u64 (v : Nat))), (3, .slc 2001 1 0 L.length)] ∧ hp = [(2001, zblk L)]) n ?_ ?_ ?_
  · kernel_rfl
  · exact ⟨n, [], rfl, Nat.le_refl _, rfl, Nat.zero_le _, by simp, rfl, rfl⟩
  rintro m _ _ ⟨v, L, rfl, hv, hL, hl, hl2, rfl, rfl⟩
  by_cases h0 : 0 < m
  · have hlen : L.length < 1099511627776 := by
      have := congrArg List.length hL
      rw [List.length_append] at this
      have h5 : (td n).length ≤ 5 := tlen_le (by omega)
      omega
    have t1 : decide ((m : Int) > 0) = true := decide_eq_true (by omega)
    have e0 : (m : Int).tmod 10000 = ((m % 10000 : Nat) : Int) := by rw [Int.tmod_eq_emod_of_nonneg (by omega)]; omega
    have e1 : IntKind.i64.wrap ((m : Int).tmod 10000) = ((m % 10000 : Nat) : Int) := by rw [e0, wrap_i64 (by omega) (by omega)]
    have e2 : (m : Int).tdiv 10000 = ((m / 10000 : Nat) : Int) := by rw [Int.tdiv_eq_ediv_of_nonneg (by omega)]; omega
    have e3 : IntKind.u64.wrap ((m : Int).tdiv 10000) = ((m / 10000 : Nat) : Int) := by rw [e2, wrap_u64 (by omega) (by omega)]
    refine SWx.of hE ?_
    conv => whnf
    (repeat ((first | refine step_w1 rfl rfl ?_ | refine And.intro (by first | decide | omega | (simp only [tiB5, tiB23, tiB3, tiB2, tiB9, tiB36, tiB54, tiB121, tiB34, tiB28, tiB4, tiB50, tiB52, dlen, List.length_replicate, List.length_set, List.length_map, List.length_zipWith, List.length_take, List.length_append, List.length_cons, List.length_nil]; omega)) ?_ | rw [t1] | rw [e1] | rw [e3]); conv => whnf))
    refine ⟨m / 10000, renBy [(11, 2001)], [0, 3], [11], Nat.div_lt_self h0 (by decide), by kernel_rfl, m / 10000, L ++ [((m % 10000 : Nat) : Int)], rfl, by omega, ?_, ?_, ?_, ?_, ?_⟩
    · rw [hL, td_succ (by omega), List.append_assoc]; rfl
    · rw [List.length_append]; simp; omega
    · rw [List.length_append]; simp; omega
    · rw [List.length_append]; rfl
    · rw [← snoc_end rfl]; rfl
  · have t1 : decide ((m : Int) > 0) = false := decide_eq_false (by omega)
    have hm : m = 0 := by omega
    subst hm
    rw [td_zero, List.append_nil] at hL
    refine SWx_frzI 3 2001 (fun _ h => h) rfl rfl rfl ?_
    refine SWx.of hE ?_
    conv => whnf
    have e : nN n = ivec .i64 L := by rw [nN, hL]
    rw [e]
    (repeat (first | (refine step_w2 rfl rfl ?_; conv => whnf))); (first | exact Recast.refl _ | exact Frz.recast (Recast.refl _) rfl | (refine Frz.one rfl rfl ?_; skip) | (refine Frz.tup ?_; skip))

theorem r_at (n i : Nat) (hn : (td n).length < 1099511627776) : CallOK Tryz.prog 112 [nN n, .val (.int .i64 (i : Nat))] [] (.val (.int .i64 ((td n).getD i 0))) [] [] := by
  refine callV (Z := []) tabOK mixedOK Tryz.func112 rfl (by kernel_rfl) rfl rfl (by kernel_rfl) rfl ?_
  intro W0 w0 ρ0 hE
  conv => whnf
  by_cases h : i < (td n).length
  · have t1 : decide ((i : Int) < ((td n).length : Int)) = true := decide_eq_true (by omega)
    (repeat ((first | refine step_w1 rfl rfl ?_ | refine g_o (op_lenM rfl rfl rfl (ev_ok rfl) (tgt rfl) rfl) ?_ | refine g_o (op_loadA rfl (ev_ok rfl) (tgt rfl) rfl (Nat.succ_ne_zero _) rfl) ?_ | refine g_o (op_indexN (α := Int) (d := 0) rfl (ev_ok rfl) (ev_ok rfl) (tgt rfl) rfl (tgt rfl) rfl (by omega)) ?_ | rw [t1]); conv => whnf)); (first | exact Recast.refl _ | exact Frz.recast (Recast.refl _) rfl | (refine Frz.one rfl rfl ?_; skip) | (refine Frz.tup ?_; skip))
  · have t1 : decide ((i : Int) < ((td n).length : Int)) = false := decide_eq_false (by omega)
    rw [getD_ge (by omega)]
    (repeat (first | (refine step_w2 rfl rfl ?_; conv => whnf) | (refine g_o (op_lenM rfl rfl rfl (ev_ok rfl) (tgt rfl) rfl) ?_; conv => whnf) | (rw [t1]; conv => whnf))); (first | exact Recast.refl _ | exact Frz.recast (Recast.refl _) rfl | (refine Frz.one rfl rfl ?_; skip) | (refine Frz.tup ?_; skip))
end Go.Proofs.YtdcaodkjofkmgaaGreatDoor

namespace Go.Proofs.YtdcaodkjofkmgaaGreatDoor
open Go.Sx
set_option linter.unusedSimpArgs false
set_option linter.unusedVariables false
set_option maxRecDepth 100000
set_option maxHeartbeats 4000000

theorem valT_diff {xs ys : List Int} {j : Nat} : ∀ {n : Nat}, j ≤ n → (∀ i, j ≤ i → i < n → xs.getD i 0 = ys.getD i 0) → valT xs n - valT ys n = valT xs j - valT ys j
  | 0, h, _ => by obtain rfl : j = 0 := by omega
                  rfl
  | n + 1, h, he => by
    by_cases hj : j = n + 1
    · rw [hj]
    · have := valT_diff (n := n) (by omega) (fun i h1 h2 => he i h1 (by omega))
      rw [valT, valT, he n (by omega) (by omega)]; omega
theorem valT_lt_of {xs ys : List Int} (hx : W4 xs) (hy : W4 ys) {j : Nat} (h : xs.getD j 0 < ys.getD j 0) : valT xs (j + 1) < valT ys (j + 1) := by
  have h1 := valT_lt hx j
  have h2 := valT_nonneg hy j
  have h3 : (xs.getD j 0 + 1) * 10000 ^ j ≤ ys.getD j 0 * 10000 ^ j := Int.mul_le_mul_of_nonneg_right (by omega) (Int.le_of_lt (powT_pos j))
  rw [Int.add_mul, Int.one_mul] at h3
  rw [valT, valT]; omega

theorem r_Cmp (a b : Nat) (ha : (td a).length < 1099511627776) (hb : (td b).length < 1099511627776) : CallOK Tryz.prog 114 [nN a, nN b] [] (.val (.int .i64 ((a : Int) - b).sign)) [] [] := by
  refine callV (Z := []) tabOK mixedOK Tryz.func114 rfl (by kernel_rfl) rfl rfl (by kernel_rfl) rfl ?_
  intro W0 w0 ρ0 hE
  conv => whnf
  by_cases h1 : (td a).length < (td b).length
  · have t1 : decide (((td a).length : Int) < ((td b).length : Int)) = true := decide_eq_true (by omega)
    have := td_len_lt h1
    rw [Int.sign_eq_neg_one_of_neg (show (a : Int) - b < 0 by omega)]
    (repeat (first | (refine step_w1 rfl rfl ?_; conv => whnf) | (refine g_o (op_lenM rfl rfl rfl (ev_ok rfl) (tgt rfl) rfl) ?_; conv => whnf) | (rw [t1]; conv => whnf))); (first | exact Recast.refl _ | exact Frz.recast (Recast.refl _) rfl | (refine Frz.one rfl rfl ?_; skip) | (refine Frz.tup ?_; skip))
  have t1 : decide (((td a).length : Int) < ((td b).length : Int)) = false := decide_eq_false (by omega)
  by_cases h2 : (td b).length < (td a).length
  · have t2 : decide (((td a).length : Int) > ((td b).length : Int)) = true := decide_eq_true (by omega)
    have := td_len_lt h2
    rw [Int.sign_eq_one_of_pos (show 0 < (a : Int) - b by omega)]
    (repeat ((first | refine step_w1 rfl rfl ?_ | refine step_w2 rfl rfl ?_ | refine g_o (op_lenM rfl rfl rfl (ev_ok rfl) (tgt rfl) rfl) ?_ | rw [t1] | rw [t2]); conv => whnf)); (first | exact Recast.refl _ | exact Frz.recast (Recast.refl _) rfl | (refine Frz.one rfl rfl ?_; skip) | (refine Frz.tup ?_; skip))
  have t2 : decide (((td a).length : Int) > ((td b).length : Int)) = false := decide_eq_false (by omega)
  have e0 : IntKind.i64.wrap (((td a).length : Int) - 1) = ((td a).length : Int) - 1 := wrap_i64 (by omega) (by omega)
  have va := td_valN a (td a).length (Nat.le_refl _)
  have vb := td_valN b (td a).length (by omega)
  have wa := td_w32 a
  have wb := td_w32 b
  (repeat ((first | refine step_w2 rfl rfl ?_ | refine g_o (op_lenM rfl rfl rfl (ev_ok rfl) (tgt rfl) rfl) ?_ | rw [t1] | rw [t2] | rw [e0]); conv => whnf))
  refine SW_loopN hE (fun k => k) [0, 1, 5] [] (fun m fr hp => m ≤ (td a).length ∧ (∀ i, m ≤ i → i < (td a).length → (td a).getD i 0 = (td b).getD i 0) ∧ fr = [(0, nN a), (1, nN b), (5, .val (.int .i64 ((m : Int) - 1)))] ∧ hp = []) (td a).length ?_ ?_ ?_
  · kernel_rfl
  · exact ⟨Nat.le_refl _, (fun i h1 h2 => by omega), rfl, rfl⟩
  rintro j _ _ ⟨hj, heq, rfl, rfl⟩
  have hd := valT_diff hj heq
  rw [va, vb] at hd
  conv => whnf
  by_cases h0 : j = 0
  · subst h0
    have t3 : decide (((0 : Nat) : Int) - 1 ≥ 0) = false := rfl
    have e : ((a : Int) - b).sign = 0 := by rw [hd]; rfl
    rw [e]
    (repeat (first | (refine step_w2 rfl rfl ?_; conv => whnf))); (first | exact Recast.refl _ | exact Frz.recast (Recast.refl _) rfl | (refine Frz.one rfl rfl ?_; skip) | (refine Frz.tup ?_; skip))
  · obtain ⟨i, rfl⟩ : ∃ i, j = i + 1 := ⟨j - 1, by omega⟩
    have ei : (((i + 1 : Nat) : Int) - 1) = (i : Int) := by omega
    rw [ei]
    have hib : i < (td b).length := by omega
    have t3 : decide ((i : Int) ≥ 0) = true := decide_eq_true (by omega)
    have e2 : IntKind.i64.wrap ((i : Int) - 1) = (i : Int) - 1 := wrap_i64 (by omega) (by omega)
    by_cases hlt : (td a).getD i 0 < (td b).getD i 0
    · have t4 : decide ((td a).getD i 0 < (td b).getD i 0) = true := decide_eq_true hlt
      have := valT_lt_of wa wb hlt
      rw [Int.sign_eq_neg_one_of_neg (show (a : Int) - b < 0 by omega)]
      (repeat ((first | refine step_w1 rfl rfl ?_ | refine step_i (by kernel_rfl) ?_ | refine g_o (op_loadA rfl (ev_ok rfl) (tgt rfl) rfl (Nat.succ_ne_zero _) rfl) ?_ | refine g_o (op_indexN (α := Int) (d := 0) rfl (ev_ok rfl) (ev_ok rfl) (tgt rfl) rfl (tgt rfl) rfl (by omega)) ?_ | rw [t3] | rw [t4]); conv => whnf)); (first | exact Recast.refl _ | exact Frz.recast (Recast.refl _) rfl | (refine Frz.one rfl rfl ?_; skip) | (refine Frz.tup ?_; skip))
    · have t4 : decide ((td a).getD i 0 < (td b).getD i 0) = false := decide_eq_false hlt
      by_cases hgt : (td b).getD i 0 < (td a).getD i 0
      · have t5 : decide ((td a).getD i 0 > (td b).getD i 0) = true := decide_eq_true hgt
        have := valT_lt_of wb wa hgt
        rw [Int.sign_eq_one_of_pos (show 0 < (a : Int) - b by omega)]
        (repeat ((first | refine step_w1 rfl rfl ?_ | refine step_w2 rfl rfl ?_ | refine step_i (by kernel_rfl) ?_ | refine g_o (op_loadA rfl (ev_ok rfl) (tgt rfl) rfl (Nat.succ_ne_zero _) rfl) ?_ | refine g_o (op_indexN (α := Int) (d := 0) rfl (ev_ok rfl) (ev_ok rfl) (tgt rfl) rfl (tgt rfl) rfl (by omega)) ?_ | rw [t3] | rw [t4] | rw [t5]); conv => whnf)); (first | exact Recast.refl _ | exact Frz.recast (Recast.refl _) rfl | (refine Frz.one rfl rfl ?_; skip) | (refine Frz.tup ?_; skip))
      · have t5 : decide ((td a).getD i 0 > (td b).getD i 0) = false := decide_eq_false hgt
        (repeat ((first | refine step_w1 rfl rfl ?_ | refine step_w2 rfl rfl ?_ | refine step_i (by kernel_rfl) ?_ | refine g_o (op_loadA rfl (ev_ok rfl) (tgt rfl) rfl (Nat.succ_ne_zero _) rfl) ?_ | refine g_o (op_indexN (α := Int) (d := 0) rfl (ev_ok rfl) (ev_ok rfl) (tgt rfl) rfl (tgt rfl) rfl (by omega)) ?_ | rw [t3] | rw [t4] | rw [t5] | rw [e2]); conv => whnf))
        exact ⟨i, fun k => k, [0, 1, 5], [], by omega, by kernel_rfl, by omega, (fun q h1 h2 => by
          by_cases hq : q = i
          · rw [hq]; omega
          · exact heq q (by omega) h2), rfl, rfl⟩

theorem add_carry {P vL va vb c x y D C : Int} (h : vL + c * P = va + vb) (hD : x + y + c = D + 10000 * C) : vL + D * P + C * (P * 10000) = va + x * P + (vb + y * P) := by
  have h2 : (x + y + c) * P = (D + 10000 * C) * P := by rw [hD]
  grind

theorem r_Add (a b : Nat) (ha : (td a).length < 1073741824) (hb : (td b).length < 1073741824) : CallOK Tryz.prog 106 [nN a, nN b] [] (nN (a + b)) [] [] := by
  have wa := td_w32 a
  have wb := td_w32 b
  refine callF (Z := []) tabOK mixedOK Tryz.func106 rfl (by kernel_rfl) (by first | rfl | (simp [keylessL, keyless, keylessL_map, *]; done)) (by first | rfl | (simp [keylessL, keyless, keylessL_map, *]; done)) (by kernel_rfl) rfl ?_
  intro w0 ρ0 hE
  conv => whnf
  skip
  generalize hM : max (td a).length (td b).length = M
  refine SWx_adopt (t := 5) (k := 2001) (s := 1) (blk := zblk []) rfl rfl rfl ?_
  refine SW_loopS hE (fun k => k) [0, 1, 5, 6, 7] [2001] (fun m fr hp => ∃ (i : Nat) (L : List Int) (c : Int), m = M + 2 - i ∧ i ≤ M + 1 ∧ L.length = i ∧ W4 L ∧ 0 ≤ c ∧ c ≤ 1 ∧ (M < i → c = 0) ∧ valT L i + c * 10000 ^ i = valT (td a) i + valT (td b) i ∧
    fr = [(0, nN a), (1, nN b), (5, .slc 2001 1 0 i), (6, .val (.int .i64 c)), (7, .val (.int .i64 (i : Nat)))] ∧ hp = [(2001, zblk L)]) (M + 2) ?_ ?_ ?_
  · kernel_rfl
  · exact ⟨0, [], 0, rfl, by omega, rfl, (fun i => by simp), by omega, by omega, (fun _ => rfl), rfl, rfl, rfl⟩
  rintro m _ _ ⟨i, L, c, rfl, hi, hl, hw, hc0, hc1, hcM, hv, rfl, rfl⟩
  by_cases hgo : i < (td a).length ∨ i < (td b).length ∨ 0 < c
  · have hiM : i ≤ M := by
      rcases hgo with h | h | h
      · omega
      · omega
      · rcases Nat.lt_or_ge M i with g | g
        · have := hcM g; omega
        · exact g
    have k1 := r_at a i (by omega)
    have k2 := r_at b i (by omega)
    have hx := wa i
    have hy := wb i
    have hxz : (td a).length ≤ i → (td a).getD i 0 = 0 := fun h => getD_ge h
    have hyz : (td b).length ≤ i → (td b).getD i 0 = 0 := fun h => getD_ge h
    generalize hxe : (td a).getD i 0 = x at *
    generalize hye : (td b).getD i 0 = y at *
    have e1 : IntKind.i64.wrap (x + y) = x + y := wrap_i64 (by omega) (by omega)
    have e2 : IntKind.i64.wrap (x + y + c) = x + y + c := wrap_i64 (by omega) (by omega)
    have e3 : (x + y + c).tmod 10000 = (x + y + c) % 10000 := Int.tmod_eq_emod_of_nonneg (by omega)
    have e4 : IntKind.i64.wrap ((x + y + c).tdiv 10000) = (x + y + c) / 10000 := by rw [Int.tdiv_eq_ediv_of_nonneg (by omega)]; exact wrap_i64 (by omega) (by omega)
    have e5 : (x + y + c).tdiv 10000 = (x + y + c) / 10000 := Int.tdiv_eq_ediv_of_nonneg (by omega)
    have e6 := winc (i := i) (by omega)
    have hc2 : M < i + 1 → (x + y + c) / 10000 = 0 := fun h => by
      have := hxz (by omega); have := hyz (by omega); omega
    have hiA : i < 1099511627776 := by omega
    clear hxz hyz
    have hstep : valT (L ++ [(x + y + c) % 10000]) (i + 1) + (x + y + c) / 10000 * 10000 ^ (i + 1) = valT (td a) (i + 1) + valT (td b) (i + 1) := by
      have h1 := valT_snoc L ((x + y + c) % 10000)
      rw [hl] at h1
      rw [h1, valT, valT, Int.pow_succ, hxe, hye]
      exact add_carry hv (by omega)
    have hw2 : W4 (L ++ [(x + y + c) % 10000]) := W4_snoc hw (by omega) (by omega)
    have hl2 : (L ++ [(x + y + c) % 10000]).length = i + 1 := by rw [List.length_append, hl]; rfl
    have hhp := snoc_end (d := (x + y + c) % 10000) hl
    refine SWx.of hE ?_
    conv => whnf
    by_cases g1 : i < (td a).length
    · have t1 : decide ((i : Int) < ((td a).length : Int)) = true := decide_eq_true (by omega)
      (repeat ((first | refine step_w1 rfl rfl ?_ | refine step_w2 rfl rfl ?_ | refine step_oA (by first | omega | decide | (simp only [tiB5, tiB23, tiB3, tiB2, tiB9, tiB36, tiB54, tiB121, tiB34, tiB28, tiB4, tiB50, tiB52, dlen, List.length_replicate, List.length_set, List.length_map, List.length_zipWith, List.length_take, List.length_append, List.length_cons, List.length_nil]; omega)) ?_ | refine step_oN (by first | omega | decide | (simp only [tiB5, tiB23, tiB3, tiB2, tiB9, tiB36, tiB54, tiB121, tiB34, tiB28, tiB4, tiB50, tiB52, dlen, List.length_replicate, List.length_set, List.length_map, List.length_zipWith, List.length_take, List.length_append, List.length_cons, List.length_nil]; omega)) ?_ | refine g_c (by assumption) ?_ | refine g_o (op_pickT rfl (ev_ok rfl) (ev_ok rfl)) ?_ | refine g_o (op_lenM rfl rfl rfl (ev_ok rfl) (tgt rfl) rfl) ?_ | rw [t1] | rw [e1] | rw [e2] | rw [e3] | rw [e4] | rw [e6]); conv => whnf))
      exact ⟨M + 2 - (i + 1), renBy [(38, 2001)], [0, 1, 5, 6, 7], [38], by omega, by kernel_rfl, i + 1, _, _, rfl, by omega, hl2, hw2, by omega, by omega, hc2, hstep, rfl, by rw [← hhp]; rfl⟩
    · have t1 : decide ((i : Int) < ((td a).length : Int)) = false := decide_eq_false (by omega)
      by_cases g2 : i < (td b).length
      · have t2 : decide ((i : Int) < ((td b).length : Int)) = true := decide_eq_true (by omega)
        (repeat ((first | refine step_w1 rfl rfl ?_ | refine step_w2 rfl rfl ?_ | refine step_oA (by first | omega | decide | (simp only [tiB5, tiB23, tiB3, tiB2, tiB9, tiB36, tiB54, tiB121, tiB34, tiB28, tiB4, tiB50, tiB52, dlen, List.length_replicate, List.length_set, List.length_map, List.length_zipWith, List.length_take, List.length_append, List.length_cons, List.length_nil]; omega)) ?_ | refine step_oN (by first | omega | decide | (simp only [tiB5, tiB23, tiB3, tiB2, tiB9, tiB36, tiB54, tiB121, tiB34, tiB28, tiB4, tiB50, tiB52, dlen, List.length_replicate, List.length_set, List.length_map, List.length_zipWith, List.length_take, List.length_append, List.length_cons, List.length_nil]; omega)) ?_ | refine g_c (by assumption) ?_ | refine g_o (op_pickT rfl (ev_ok rfl) (ev_ok rfl)) ?_ | refine g_o (op_pickF rfl (ev_ok rfl) (ev_ok rfl)) ?_ | refine g_o (op_lenM rfl rfl rfl (ev_ok rfl) (tgt rfl) rfl) ?_ | rw [t1] | rw [t2] | rw [e1] | rw [e2] | rw [e3] | rw [e4] | rw [e6]); conv => whnf))
        exact ⟨M + 2 - (i + 1), renBy [(38, 2001)], [0, 1, 5, 6, 7], [38], by omega, by kernel_rfl, i + 1, _, _, rfl, by omega, hl2, hw2, by omega, by omega, hc2, hstep, rfl, by rw [← hhp]; rfl⟩
      · have t2 : decide ((i : Int) < ((td b).length : Int)) = false := decide_eq_false (by omega)
        have t3 : decide (c > 0) = true := decide_eq_true (by omega)
        (repeat ((first | refine step_w1 rfl rfl ?_ | refine step_oA (by first | omega | decide | (simp only [tiB5, tiB23, tiB3, tiB2, tiB9, tiB36, tiB54, tiB121, tiB34, tiB28, tiB4, tiB50, tiB52, dlen, List.length_replicate, List.length_set, List.length_map, List.length_zipWith, List.length_take, List.length_append, List.length_cons, List.length_nil]; omega)) ?_ | refine step_oN (by first | omega | decide | (simp only [tiB5, tiB23, tiB3, tiB2, tiB9, tiB36, tiB54, tiB121, tiB34, tiB28, tiB4, tiB50, tiB52, dlen, List.length_replicate, List.length_set, List.length_map, List.length_zipWith, List.length_take, List.length_append, List.length_cons, List.length_nil]; omega)) ?_ | refine g_c (by assumption) ?_ | refine g_o (op_pickF rfl (ev_ok rfl) (ev_ok rfl)) ?_ | refine g_o (op_lenM rfl rfl rfl (ev_ok rfl) (tgt rfl) rfl) ?_ | rw [t1] | rw [t2] | rw [t3] | rw [e1] | rw [e2] | rw [e3] | rw [e4] | rw [e6]); conv => whnf))
        exact ⟨M + 2 - (i + 1), renBy [(38, 2001)], [0, 1, 5, 6, 7], [38], by omega, by kernel_rfl, i + 1, _, _, rfl, by omega, hl2, hw2, by omega, by omega, hc2, hstep, rfl, by rw [← hhp]; rfl⟩
  · have t1 : decide ((i : Int) < ((td a).length : Int)) = false := decide_eq_false (by omega)
    have t2 : decide ((i : Int) < ((td b).length : Int)) = false := decide_eq_false (by omega)
    have t3 : decide (c > 0) = false := decide_eq_false (by omega)
    have hc : c = 0 := by omega
    subst hc
    rw [td_valN a i (by omega), td_valN b i (by omega)] at hv
    have k1 := r_trim L (by omega) hw
    rw [show (valT L L.length).toNat = a + b by rw [hl]; omega] at k1
    refine SWx_frzI 5 2001 (fun _ h => h) rfl rfl hl.symm ?_
    refine SWx.of hE ?_
    conv => whnf
    (repeat ((first | refine step_w1 rfl rfl ?_ | refine step_w2 rfl rfl ?_ | refine g_c (by assumption) ?_ | refine g_o (op_pickF rfl (ev_ok rfl) (ev_ok rfl)) ?_ | refine g_o (op_lenM rfl rfl rfl (ev_ok rfl) (tgt rfl) rfl) ?_ | rw [t1] | rw [t2]); conv => whnf)); (first | exact Recast.refl _ | exact Frz.recast (Recast.refl _) rfl | (refine Frz.one rfl rfl ?_; skip) | (refine Frz.tup ?_; skip))

theorem sub_lend {P vL va vb c x y D C : Int} (h : vL - c * P = va - vb) (hD : x - y - c = D - 10000 * C) : vL + D * P - C * (P * 10000) = va + x * P - (vb + y * P) := by
  have h2 : (x - y - c) * P = (D - 10000 * C) * P := by rw [hD]
  grind
theorem r_Sub (a b : Nat) (hab : b ≤ a) (ha : (td a).length < 1073741824) : CallOK Tryz.prog 111 [nN a, nN b] [] (nN (a - b)) [] [] := by
  have wa := td_w32 a
  have wb := td_w32 b
  have hlb := td_len_mono hab
  refine callF (Z := []) tabOK mixedOK Tryz.func111 rfl (by kernel_rfl) (by first | rfl | (simp [keylessL, keyless, keylessL_map, *]; done)) (by first | rfl | (simp [keylessL, keyless, keylessL_map, *]; done)) (by kernel_rfl) rfl ?_
  intro w0 ρ0 hE
  conv => whnf
  skip
  refine SWx_adopt (t := 5) (k := 2001) (s := 1) (blk := zblk []) rfl rfl rfl ?_
  refine SW_loopS hE (fun k => k) [0, 1, 5, 6, 7] [2001] (fun m fr hp => ∃ (i : Nat) (L : List Int) (c : Int), m = (td a).length - i ∧ i ≤ (td a).length ∧ L.length = i ∧ W4 L ∧ 0 ≤ c ∧ c ≤ 1 ∧ valT L i - c * 10000 ^ i = valT (td a) i - valT (td b) i ∧
    fr = [(0, nN a), (1, nN b), (5, .slc 2001 1 0 i), (6, .val (.int .i64 c)), (7, .val (.int .i64 (i : Nat)))] ∧ hp = [(2001, zblk L)]) (td a).length ?_ ?_ ?_
  · kernel_rfl
  · exact ⟨0, [], 0, rfl, by omega, rfl, (fun i => by simp), by omega, by omega, rfl, rfl, rfl⟩
  rintro m _ _ ⟨i, L, c, rfl, hi, hl, hw, hc0, hc1, hv, rfl, rfl⟩
  by_cases hlt : i < (td a).length
  · have t1 : decide ((i : Int) < ((td a).length : Int)) = true := decide_eq_true (by omega)
    have k2 := r_at b i (by omega)
    have hx := wa i
    have hy := wb i
    generalize hxe : (td a).getD i 0 = x at *
    generalize hye : (td b).getD i 0 = y at *
    have e1 : IntKind.i64.wrap (x - y) = x - y := wrap_i64 (by omega) (by omega)
    have e2 : IntKind.i64.wrap (x - y - c) = x - y - c := wrap_i64 (by omega) (by omega)
    have e6 := winc (i := i) (by omega)
    have hst : ∀ D C, x - y - c = D - 10000 * C → valT (L ++ [D]) (i + 1) - C * 10000 ^ (i + 1) = valT (td a) (i + 1) - valT (td b) (i + 1) := fun D C hD => by
      have h1 := valT_snoc L D
      rw [hl] at h1
      rw [h1, valT, valT, Int.pow_succ, hxe, hye]
      exact sub_lend hv hD
    have hl2 : ∀ D : Int, (L ++ [D]).length = i + 1 := fun D => by rw [List.length_append, hl]; rfl
    have hhp := fun D => snoc_end (d := D) hl
    refine SWx.of hE ?_
    conv => whnf
    by_cases hn : x - y - c < 0
    · have t2 : decide (x - y - c < 0) = true := decide_eq_true hn
      have e3 : IntKind.i64.wrap (x - y - c + 10000) = x - y - c + 10000 := wrap_i64 (by omega) (by omega)
      (repeat ((first | refine step_w1 rfl rfl ?_ | refine step_i (by kernel_rfl) ?_ | refine step_oA (by first | omega | decide | (simp only [tiB5, tiB23, tiB3, tiB2, tiB9, tiB36, tiB54, tiB121, tiB34, tiB28, tiB4, tiB50, tiB52, dlen, List.length_replicate, List.length_set, List.length_map, List.length_zipWith, List.length_take, List.length_append, List.length_cons, List.length_nil]; omega)) ?_ | refine g_c (by assumption) ?_ | refine g_o (op_lenM rfl rfl rfl (ev_ok rfl) (tgt rfl) rfl) ?_ | refine g_o (op_loadA rfl (ev_ok rfl) (tgt rfl) rfl (Nat.succ_ne_zero _) rfl) ?_ | refine g_o (op_indexN (α := Int) (d := 0) rfl (ev_ok rfl) (ev_ok rfl) (tgt rfl) rfl (tgt rfl) rfl (by omega)) ?_ | rw [t1] | rw [hxe] | rw [e1] | rw [e2] | rw [t2] | rw [e3] | rw [e6]); conv => whnf))
      exact ⟨(td a).length - (i + 1), renBy [(32, 2001)], [0, 1, 5, 6, 7], [32], by omega, by kernel_rfl, i + 1, _, 1, rfl, by omega, hl2 _, W4_snoc hw (show 0 ≤ x - y - c + 10000 by omega) (by omega), by omega, by omega, hst _ _ (by omega), rfl, by rw [← hhp]; rfl⟩
    · have t2 : decide (x - y - c < 0) = false := decide_eq_false hn
      (repeat ((first | refine step_w1 rfl rfl ?_ | refine step_w2 rfl rfl ?_ | refine step_i (by kernel_rfl) ?_ | refine step_oA (by first | omega | decide | (simp only [tiB5, tiB23, tiB3, tiB2, tiB9, tiB36, tiB54, tiB121, tiB34, tiB28, tiB4, tiB50, tiB52, dlen, List.length_replicate, List.length_set, List.length_map, List.length_zipWith, List.length_take, List.length_append, List.length_cons, List.length_nil]; omega)) ?_ | refine g_c (by assumption) ?_ | refine g_o (op_lenM rfl rfl rfl (ev_ok rfl) (tgt rfl) rfl) ?_ | refine g_o (op_loadA rfl (ev_ok rfl) (tgt rfl) rfl (Nat.succ_ne_zero _) rfl) ?_ | refine g_o (op_indexN (α := Int) (d := 0) rfl (ev_ok rfl) (ev_ok rfl) (tgt rfl) rfl (tgt rfl) rfl (by omega)) ?_ | rw [t1] | rw [hxe] | rw [e1] | rw [e2] | rw [t2] | rw [e6]); conv => whnf))
      exact ⟨(td a).length - (i + 1), renBy [(32, 2001)], [0, 1, 5, 6, 7], [32], by omega, by kernel_rfl, i + 1, _, 0, rfl, by omega, hl2 _, W4_snoc hw (show 0 ≤ x - y - c by omega) (by omega), by omega, by omega, hst _ _ (by omega), rfl, by rw [← hhp]; rfl⟩
  · have t1 : decide ((i : Int) < ((td a).length : Int)) = false := decide_eq_false (by omega)
    rw [td_valN a i (by omega), td_valN b i (by omega)] at hv
    have h1 := valT_lt hw i
    have hc : c = 0 := by
      rcases (show c = 0 ∨ c = 1 by omega) with h | h
      · exact h
      · subst h; omega
    subst hc
    have k1 := r_trim L (by omega) hw
    rw [show (valT L L.length).toNat = a - b by rw [hl]; omega] at k1
    refine SWx_frzI 5 2001 (fun _ h => h) rfl rfl hl.symm ?_
    refine SWx.of hE ?_
    conv => whnf
    (repeat ((first | refine step_w2 rfl rfl ?_ | refine g_c (by assumption) ?_ | refine g_o (op_lenM rfl rfl rfl (ev_ok rfl) (tgt rfl) rfl) ?_ | rw [t1]); conv => whnf)); (first | exact Recast.refl _ | exact Frz.recast (Recast.refl _) rfl | (refine Frz.one rfl rfl ?_; skip) | (refine Frz.tup ?_; skip))
end Go.Proofs.YtdcaodkjofkmgaaGreatDoor

namespace Go.Proofs.YtdcaodkjofkmgaaGreatDoor
open Go.Sx
set_option linter.unusedSimpArgs false
set_option linter.unusedVariables false
set_option maxRecDepth 100000
set_option maxHeartbeats 4000000

theorem mul_carry {V P c x y o D C R : Int} (hV : V + c * P = R) (hD : o + x * y + c = D + 10000 * C) : V + (D - o) * P + C * (P * 10000) = R + x * y * P := by
  have h2 : (o + x * y + c) * P = (D + 10000 * C) * P := by rw [hD]
  grind
theorem pow_lt_of {i k l : Nat} (h : (10000 : Int) ^ i < 10000 ^ k) : i < k := by
  rcases Nat.lt_or_ge i k with g | g
  · exact g
  · have : (10000 : Nat) ^ k ≤ 10000 ^ i := Nat.pow_le_pow_right (by decide) g
    have h2 : ((10000 ^ k : Nat) : Int) ≤ ((10000 ^ i : Nat) : Int) := Int.ofNat_le.2 this
    rw [natPowT, natPowT] at h2
    omega

theorem r_Mul (a b : Nat) (ha : (td a).length < 536870912) (hb : (td b).length < 536870912) : CallOK Tryz.prog 77 [nN a, nN b] [] (nN (a * b)) [] [] := by
  have wa := td_w32 a
  have wb := td_w32 b
  have ela : IntKind.i64.wrap (((td a).length : Int) + ((td b).length : Int)) = (((td a).length + (td b).length : Nat) : Int) := by rw [wrap_i64 (by omega) (by omega)]; omega
  refine callF (Z := []) tabOK mixedOK Tryz.func77 rfl (by kernel_rfl) (by first | rfl | (simp [keylessL, keyless, keylessL_map, *]; done)) (by first | rfl | (simp [keylessL, keyless, keylessL_map, *]; done)) (by kernel_rfl) rfl ?_
  intro w0 ρ0 hE
  conv => whnf
  (repeat ((first | refine step_oA (by first | omega | decide | (simp only [tiB5, tiB23, tiB3, tiB2, tiB9, tiB36, tiB54, tiB121, tiB34, tiB28, tiB4, tiB50, tiB52, dlen, List.length_replicate, List.length_set, List.length_map, List.length_zipWith, List.length_take, List.length_append, List.length_cons, List.length_nil]; omega)) ?_ | refine g_o (op_lenM rfl rfl rfl (ev_ok rfl) (tgt rfl) rfl) ?_ | rw [ela] | rw [Int.toNat_natCast]); conv => whnf))
  generalize hla : (td a).length = la at *
  generalize hlb : (td b).length = lb at *
  refine SW_loopS hE (fun k => k) [0, 1, 5, 6] [15] (fun m fr hp => ∃ (i : Nat) (out : List Int), m = la - i ∧ i ≤ la ∧ out.length = la + lb ∧ W4 out ∧ valT out (la + lb) = valT (td a) i * b ∧
    fr = [(0, nN a), (1, nN b), (5, .slc 15 1 0 (la + lb)), (6, .val (.int .i64 (i : Nat)))] ∧ hp = [(15, zblk out)]) la ?_ ?_ ?_
  · kernel_rfl
  · refine ⟨0, List.replicate (la + lb) 0, rfl, Nat.zero_le _, List.length_replicate, W4_of (fun x hx => by rw [(List.mem_replicate.1 hx).2]; omega), ?_, rfl, rfl⟩
    rw [valT_zeros (k := 0) (fun i _ _ => getD_replicate) (Nat.zero_le _)]; simp [valT]
  rintro m _ _ ⟨i, out, rfl, hi, hol, how, hov, rfl, rfl⟩
  by_cases hlt : i < la
  · have t1 : decide ((i : Int) < (la : Int)) = true := decide_eq_true (by omega)
    have e9 := winc (i := i) (by omega)
    have hx := wa i
    have hbnd : valT (td a) (i + 1) * b < 10000 ^ (i + 1 + lb) := by
      have h1 := valT_lt wa (i + 1)
      have h2 : (b : Int) < 10000 ^ lb := by rw [← natPowT]; exact Int.ofNat_lt.2 (td_lt_pow (by omega))
      have h3 := valT_nonneg wa (i + 1)
      have h4 : valT (td a) (i + 1) * b ≤ valT (td a) (i + 1) * 10000 ^ lb := Int.mul_le_mul_of_nonneg_left (by omega) h3
      have h5 : valT (td a) (i + 1) * 10000 ^ lb < 10000 ^ (i + 1) * 10000 ^ lb := Int.mul_lt_mul_of_pos_right h1 (powT_pos lb)
      rw [Int.pow_add]; omega
    have hva1 : valT (td a) (i + 1) = valT (td a) i + (td a).getD i 0 * 10000 ^ i := rfl
    have hila : i < (td a).length := by omega
    generalize hxe : (td a).getD i 0 = x at *
    refine SWx.of hE ?_
    conv => whnf
    (repeat ((first | refine step_w1 rfl rfl ?_ | refine g_o (op_lenM rfl rfl rfl (ev_ok rfl) (tgt rfl) rfl) ?_ | rw [hla] | rw [t1]); conv => whnf))
    refine SW_loopN hE (fun k => k) [0, 1, 5, 6, 7, 8] [15] (fun m fr hp => ∃ (k : Nat) (out : List Int) (c : Int), m = lb + 2 - k ∧ k ≤ lb + 1 ∧ out.length = la + lb ∧ W4 out ∧ 0 ≤ c ∧ c ≤ 9999 ∧ valT out (la + lb) + c * 10000 ^ (i + k) = valT (td a) i * b + x * valT (td b) k * 10000 ^ i ∧
      fr = [(0, nN a), (1, nN b), (5, .slc 15 1 0 (la + lb)), (6, .val (.int .i64 (i : Nat))), (7, .val (.int .i64 c)), (8, .val (.int .i64 (k : Nat)))] ∧ hp = [(15, zblk out)]) (lb + 2) ?_ ?_ ?_
    · kernel_rfl
    · exact ⟨0, out, 0, rfl, by omega, hol, how, by omega, by omega, by rw [hov]; simp [valT], rfl, rfl⟩
    clear hov how hol out
    rintro m _ _ ⟨k, out, c, rfl, hk, hol, how, hc0, hc1, hov, rfl, rfl⟩
    have hend : lb ≤ k → valT out (la + lb) + c * 10000 ^ (i + k) = valT (td a) (i + 1) * b := fun h => by
      rw [hov, td_valN b k (by omega), hva1]; grind
    have hck : 0 < c → k ≤ lb := fun h => by
      rcases Nat.lt_or_ge lb k with g | g
      · have h1 := hend (by omega)
        have h2 := valT_nonneg how (la + lb)
        have h3 : 1 * (10000 : Int) ^ (i + k) ≤ c * 10000 ^ (i + k) := Int.mul_le_mul_of_nonneg_right (by omega) (Int.le_of_lt (powT_pos _))
        have h4 : (10000 : Int) ^ (i + k) < 10000 ^ (i + 1 + lb) := by omega
        have := pow_lt_of (l := 0) h4
        omega
      · exact g
    by_cases hgo : k < lb ∨ 0 < c
    · have hkb : k ≤ lb := by
        rcases hgo with h | h
        · omega
        · exact hck h
      have hik : i + k < out.length := by omega
      have k2 := r_at b k (by omega)
      have hy := wb k
      have ho := how (i + k)
      generalize hye : (td b).getD k 0 = y at *
      generalize hoe : out.getD (i + k) 0 = o at *
      have hxy : 0 ≤ x * y := Int.mul_nonneg hx.1 hy.1
      have hxy2 : x * y ≤ 9999 * 9999 := by
        have h1 : x * y ≤ 9999 * y := Int.mul_le_mul_of_nonneg_right (by omega) hy.1
        omega
      have e1 : IntKind.i64.wrap ((i : Int) + (k : Int)) = ((i + k : Nat) : Int) := by rw [wrap_i64 (by omega) (by omega)]; omega
      have e2 : IntKind.i64.wrap (x * y) = x * y := wrap_i64 (by omega) (by omega)
      have e3 : IntKind.i64.wrap (o + x * y) = o + x * y := wrap_i64 (by omega) (by omega)
      have e4 : IntKind.i64.wrap (o + x * y + c) = o + x * y + c := wrap_i64 (by omega) (by omega)
      have e5 : (o + x * y + c).tmod 10000 = (o + x * y + c) % 10000 := Int.tmod_eq_emod_of_nonneg (by omega)
      have e6 : IntKind.i64.wrap ((o + x * y + c).tdiv 10000) = (o + x * y + c) / 10000 := by rw [Int.tdiv_eq_ediv_of_nonneg (by omega)]; exact wrap_i64 (by omega) (by omega)
      have e7 : (o + x * y + c).tdiv 10000 = (o + x * y + c) / 10000 := Int.tdiv_eq_ediv_of_nonneg (by omega)
      have e8 := winc (i := k) (by omega)
      have hD : o + x * y + c = (o + x * y + c) % 10000 + 10000 * ((o + x * y + c) / 10000) := (Int.emod_add_mul_ediv _ _).symm
      have hC0 : 0 ≤ (o + x * y + c) / 10000 := by omega
      have hC1 : (o + x * y + c) / 10000 ≤ 9999 := by omega
      have hD0 : 0 ≤ (o + x * y + c) % 10000 := by omega
      have hD1 : (o + x * y + c) % 10000 < 10000 := by omega
      have hnew : valT (out.set (i + k) ((o + x * y + c) % 10000)) (la + lb) + (o + x * y + c) / 10000 * 10000 ^ (i + (k + 1)) = valT (td a) i * b + x * valT (td b) (k + 1) * 10000 ^ i := by
        rw [valT_set (by omega) hik, hoe, show i + (k + 1) = i + k + 1 from rfl, Int.pow_succ, valT, hye]
        have := mul_carry hov hD
        have e : x * (valT (td b) k + y * 10000 ^ k) * 10000 ^ i = x * valT (td b) k * 10000 ^ i + x * y * 10000 ^ (i + k) := by rw [Int.pow_add]; grind
        rw [e]; omega
      have hl2 : (out.set (i + k) ((o + x * y + c) % 10000)).length = la + lb := by rw [List.length_set]; exact hol
      have hw2 := how.set (i := i + k) hD0 hD1
      clear hend hck hov hxy hxy2 hD
      conv => whnf
      by_cases g1 : k < lb
      · have t2 : decide ((k : Int) < (lb : Int)) = true := decide_eq_true (by omega)
        (repeat ((first | refine step_w1 rfl rfl ?_ | refine step_w2 rfl rfl ?_ | refine step_i (by kernel_rfl) ?_ | refine step_oL (by first | omega | decide | (simp only [tiB5, tiB23, tiB3, tiB2, tiB9, tiB36, tiB54, tiB121, tiB34, tiB28, tiB4, tiB50, tiB52, dlen, List.length_replicate, List.length_set, List.length_map, List.length_zipWith, List.length_take, List.length_append, List.length_cons, List.length_nil]; omega)) ?_ | refine step_oA (by first | omega | decide | (simp only [tiB5, tiB23, tiB3, tiB2, tiB9, tiB36, tiB54, tiB121, tiB34, tiB28, tiB4, tiB50, tiB52, dlen, List.length_replicate, List.length_set, List.length_map, List.length_zipWith, List.length_take, List.length_append, List.length_cons, List.length_nil]; omega)) ?_ | refine step_oN (by first | omega | decide | (simp only [tiB5, tiB23, tiB3, tiB2, tiB9, tiB36, tiB54, tiB121, tiB34, tiB28, tiB4, tiB50, tiB52, dlen, List.length_replicate, List.length_set, List.length_map, List.length_zipWith, List.length_take, List.length_append, List.length_cons, List.length_nil]; omega)) ?_ | refine g_c (by assumption) ?_ | refine g_o (op_pickT rfl (ev_ok rfl) (ev_ok rfl)) ?_ | refine g_o (op_lenM rfl rfl rfl (ev_ok rfl) (tgt rfl) rfl) ?_ | refine g_o (op_loadA rfl (ev_ok rfl) (tgt rfl) rfl (Nat.succ_ne_zero _) rfl) ?_ | refine g_o (op_indexN (α := Int) (d := 0) rfl (ev_ok rfl) (ev_ok rfl) (tgt rfl) rfl (tgt rfl) rfl (by omega)) ?_ | rw [hlb] | rw [t2] | rw [hxe] | rw [e1] | rw [hoe] | rw [e2] | rw [e3] | rw [e4] | rw [e5] | rw [e6] | rw [e8] | rw [Int.toNat_natCast] | rw [Nat.zero_add]); conv => whnf))
        exact ⟨lb + 2 - (k + 1), fun k => k, [0, 1, 5, 6, 7, 8], [15], by omega, by kernel_rfl, k + 1, _, _, rfl, by omega, hl2, hw2, hC0, hC1, hnew, rfl, rfl⟩
      · have t2 : decide ((k : Int) < (lb : Int)) = false := decide_eq_false (by omega)
        have t3 : decide (c > 0) = true := decide_eq_true (by omega)
        (repeat ((first | refine step_w1 rfl rfl ?_ | refine step_i (by kernel_rfl) ?_ | refine step_oL (by first | omega | decide | (simp only [tiB5, tiB23, tiB3, tiB2, tiB9, tiB36, tiB54, tiB121, tiB34, tiB28, tiB4, tiB50, tiB52, dlen, List.length_replicate, List.length_set, List.length_map, List.length_zipWith, List.length_take, List.length_append, List.length_cons, List.length_nil]; omega)) ?_ | refine step_oA (by first | omega | decide | (simp only [tiB5, tiB23, tiB3, tiB2, tiB9, tiB36, tiB54, tiB121, tiB34, tiB28, tiB4, tiB50, tiB52, dlen, List.length_replicate, List.length_set, List.length_map, List.length_zipWith, List.length_take, List.length_append, List.length_cons, List.length_nil]; omega)) ?_ | refine step_oN (by first | omega | decide | (simp only [tiB5, tiB23, tiB3, tiB2, tiB9, tiB36, tiB54, tiB121, tiB34, tiB28, tiB4, tiB50, tiB52, dlen, List.length_replicate, List.length_set, List.length_map, List.length_zipWith, List.length_take, List.length_append, List.length_cons, List.length_nil]; omega)) ?_ | refine g_c (by assumption) ?_ | refine g_o (op_pickF rfl (ev_ok rfl) (ev_ok rfl)) ?_ | refine g_o (op_lenM rfl rfl rfl (ev_ok rfl) (tgt rfl) rfl) ?_ | refine g_o (op_loadA rfl (ev_ok rfl) (tgt rfl) rfl (Nat.succ_ne_zero _) rfl) ?_ | refine g_o (op_indexN (α := Int) (d := 0) rfl (ev_ok rfl) (ev_ok rfl) (tgt rfl) rfl (tgt rfl) rfl (by omega)) ?_ | rw [hlb] | rw [t2] | rw [t3] | rw [hxe] | rw [e1] | rw [hoe] | rw [e2] | rw [e3] | rw [e4] | rw [e5] | rw [e6] | rw [e8] | rw [Int.toNat_natCast] | rw [Nat.zero_add]); conv => whnf))
        exact ⟨lb + 2 - (k + 1), fun k => k, [0, 1, 5, 6, 7, 8], [15], by omega, by kernel_rfl, k + 1, _, _, rfl, by omega, hl2, hw2, hC0, hC1, hnew, rfl, rfl⟩
    · have t2 : decide ((k : Int) < (lb : Int)) = false := decide_eq_false (by omega)
      have t3 : decide (c > 0) = false := decide_eq_false (by omega)
      have hc : c = 0 := by omega
      have hv := hend (by omega)
      rw [hc, Int.zero_mul, Int.add_zero] at hv
      conv => whnf
      (repeat ((first | refine step_w1 rfl rfl ?_ | refine step_w2 rfl rfl ?_ | refine g_o (op_pickF rfl (ev_ok rfl) (ev_ok rfl)) ?_ | refine g_o (op_lenM rfl rfl rfl (ev_ok rfl) (tgt rfl) rfl) ?_ | rw [hlb] | rw [t2] | rw [t3] | rw [e9]); conv => whnf))
      exact ⟨la - (i + 1), fun k => k, [0, 1, 5, 6], [15], by omega, by kernel_rfl, i + 1, out, rfl, by omega, hol, how, hv, rfl, rfl⟩
  · have t1 : decide ((i : Int) < (la : Int)) = false := decide_eq_false (by omega)
    have hI : i = la := by omega
    subst hI
    rw [td_valN a i (by omega)] at hov
    have k1 := r_trim out (by omega) how
    rw [show (valT out out.length).toNat = a * b by rw [hol, hov, ← Int.natCast_mul]; exact Int.toNat_natCast _] at k1
    refine SWx_frzI 5 15 (fun _ h => h) rfl rfl hol.symm ?_
    refine SWx.of hE ?_
    conv => whnf
    (repeat ((first | refine step_w2 rfl rfl ?_ | refine g_c (by assumption) ?_ | refine g_o (op_lenM rfl rfl rfl (ev_ok rfl) (tgt rfl) rfl) ?_ | rw [hla] | rw [t1]); conv => whnf)); (first | exact Recast.refl _ | exact Frz.recast (Recast.refl _) rfl | (refine Frz.one rfl rfl ?_; skip) | (refine Frz.tup ?_; skip))
end Go.Proofs.YtdcaodkjofkmgaaGreatDoor

namespace Go.Proofs.YtdcaodkjofkmgaaGreatDoor
open Go.Sx
set_option linter.unusedSimpArgs false
set_option linter.unusedVariables false
set_option maxRecDepth 100000
set_option maxHeartbeats 4000000

/-- What is loaded from a slice that is a value. -/
theorem run_firstV {P : Program} {ρ : Rho} {w : World} {s n : Nat} {vs : List SV} {d : Sx.Data} {v : Value} (hv : Has ρ (vecA s vs) v) (himm : ∀ b o, ρ.imm b = some o → w.heap[b]? = some o)
    (hr : ∀ z, HasZ (bareR ρ.imm ρ.glob) vs z → (∀ x ∈ vs, x.width = s) → Go.Sx.Rows ρ s d z) (hn : n = vs.length) :
    ∃ z, Go.Sx.Rows ρ s d z ∧ (∀ w', (∀ b, b < w.heap.size → w'.heap[b]? = w.heap[b]?) → (Builtin.firstCells s n v).run P w' = .ok (((z.drop 0).take n).flatten).toArray w') ∧ Builtin.lenOf v = Pure.pure n := by
  subst hn
  rcases has_vec hv with ⟨rfl, a, rfl⟩ | ⟨b, cap, z, pre, ex, ty, fz, h1, h2, h3, h4, h5, h6⟩
  · refine ⟨[], hr [] (by simp only [HasZ]) (fun x hx => by cases hx), fun w' _ => ?_, rfl⟩
    cases a with
    | none => simp [Builtin.firstCells]
    | some a => simp [Builtin.firstCells, loadCells, loadCellsFrom]
  · have hzr := hr z h2 h3
    obtain ⟨zl, zw⟩ := hzr.len
    have hzl : z.length = vs.length := HasZ_length h2
    subst h6
    refine ⟨z, hzr, fun w' hw' => ?_, rfl⟩
    have hh0 := himm _ _ h1
    have hblt : b < w.heap.size := by
      rcases Nat.lt_or_ge b w.heap.size with h' | h'
      · exact h'
      · simp [Array.getElem?_eq_none h'] at hh0
    have hh : w'.heap[b]? = some (.cells (pre ++ (z.flatten ++ ex)).toArray ty fz) := by rw [hw' b hblt]; exact hh0
    have e0 : (z.drop 0).take vs.length = z := by rw [List.drop_zero, List.take_of_length_le (by omega)]
    rw [e0]
    have hlen : z.flatten.length = vs.length * s := by rw [flatten_len (s := s) _ zw, hzl]
    refine run_firstCells_some (P := P) w' s vs.length _ vs.length cap _ hlen ?_
    intro j u hj
    have hadd : (⟨b, pre.length, none⟩ : Addr).add j = ⟨b, pre.length + j, none⟩ := by unfold Addr.add; split <;> simp_all
    rw [hadd, cell_of_row w' b (pre.length + j) _ ty fz hh]
    have hlt : j < z.flatten.length := (List.getElem?_eq_some_iff.1 hj).1
    simp only [List.getElem?_toArray]
    rw [List.getElem?_append_right (by omega), Nat.add_sub_cancel_left, List.getElem?_append_left hlt]
    exact hj

theorem HasZ_intsU {ρ : Rho} {kd : IntKind} : ∀ (xs : List Int) (z : List (List Value)), HasZ ρ (xs.map (iel kd)) z → z = xs.map fun x => [.int kd x]
  | [], z, h => by simpa only [List.map_nil, HasZ] using h
  | x :: xs, z, h => by
    simp only [List.map_cons, HasZ] at h
    obtain ⟨y, r, rfl, h1, h2⟩ := h
    rw [HasZ_intsU xs r h2]
    simp only [iel, HasC] at h1
    rw [h1.1, List.map_cons]
theorem rows_ints {kd : IntKind} (xs : List Int) : ∀ (ρ : Rho) z, HasZ (bareR ρ.imm ρ.glob) (xs.map (iel kd)) z → (∀ x ∈ xs.map (iel kd), x.width = 1) → Go.Sx.Rows ρ 1 (.ints kd xs) z :=
  fun ρ z h _ => ⟨rfl, HasZ_intsU xs z h⟩

theorem op_appendV {P : Program} {o : Oper} {fr : List (Nat × SV)} {fk : List (Nat × Blk)} {t t2 e : TypeId} {x y : Operand} {xs : Array Operand} {ts : Array TypeId} {ti t0 te : TI} {k kn n m : Nat} {d d' d2 : Sx.Data} {vs : List SV} (ho : o.op = .call ⟨.builtin .append, xs, ts⟩) (hxs : xs = #[x, y]) (hts : ts = #[t, t2])
    (hx : EvOK fr x (.slc k te.size 0 n)) (hy : EvOK fr y (vecA te.size vs)) (hr2 : ∀ (ρ : Rho) z, HasZ (bareR ρ.imm ρ.glob) vs z → (∀ x ∈ vs, x.width = te.size) → Go.Sx.Rows ρ te.size d2 z) (ht : TOK P t ti) (hk : ti.kind = .slc e) (ht2 : TOK P t2 t0) (hk2 : t0.kind = .slc e) (he : TOK P e te)
    (hf : (k, ⟨e, true, d⟩) ∈ fk) (hl : d.live = true) (hw : dwidth d = some te.size)
    (hn : n ≤ dlen d) (hmv : m = vs.length) (hm : 0 + m ≤ dlen d2) (hd : dapp d n d2 0 m = some d') (hbytes : (n + m) * te.bytes ≤ 140737488355328) (h63 : n + m ≤ 9223372036854775807) :
    OpOK P o fr fk (.slc kn te.size 0 (n + m)) [(kn, ⟨e, true, d'⟩)] [(k, ⟨e, true, .dead⟩)] :=
  ok_value fun ρ a w hp => by
    have hvx := hx ρ a hp.hft
    have hvy := hy ρ a hp.hft
    obtain ⟨i, zv, i1, i2', i3, i4, i5, i6, i7, _⟩ := he.info
    have hu := ht.kind; rw [hk] at hu
    have hu2 := ht2.kind; rw [hk2] at hu2
    obtain ⟨z, hz, hzc⟩ := blk_rows (hp.hfk k _ hf) hl hw
    obtain ⟨z2, hz2, hrun2, hlen2⟩ := run_firstV (P := P) (d := d2) hvy hp.imm (hr2 ρ) hmv
    obtain ⟨zl, zw⟩ := hz.len
    obtain ⟨zl2, zw2⟩ := hz2.len
    have hrows := (dapp_rows hd hz hz2).1
    have hfresh := hp.fresh kn _ (List.mem_cons_self ..)
    simp only at zl
    have hsegw : ∀ u ∈ (z2.drop 0).take m, u.length = te.size := fun u hu => zw2 u (List.mem_of_mem_drop (List.mem_of_mem_take hu))
    have hsegl : ((z2.drop 0).take m).length = m := by rw [List.length_take, List.length_drop]; omega
    have hnews : (((z2.drop 0).take m).flatten).length = m * te.size := by rw [flatten_len _ hsegw, hsegl]
    have hnone : ∀ u ∈ (((z2.drop 0).take m).flatten), u.oneCell' = true := fun u hu => by
      obtain ⟨q, hq, hu⟩ := List.mem_flatten.1 hu
      exact hz2.one' q (List.mem_of_mem_drop (List.mem_of_mem_take hq)) u hu
    have hcall : ∀ v w', (Builtin.append_ ts o.type #[a.eval x, a.eval y]).run P w = .ok v w' → (execOp a.eval o).run P w = .ok (.value v) w' := by
      intro v w' h
      simp only [execOp, ho, resolve, invoke, builtin, hxs, Sem.run_bind, Sem.run_pure, Result.andThen_ok, List.map_toArray, List.map_cons, List.map_nil]
      rw [h]
      rfl
    have zone : ∀ v ∈ zv.cells.toList, v.oneCell' = true := by
      have h1 := (HasZ.len (ρ := ρ) te.zero _ (zero_has i6)).2
      rw [i5, List.flatMap_def]; exact h1
    have h63' : ¬ ((n + m : Nat) : Int) > IntKind.i64.max := by
      have : IntKind.i64.max = 9223372036854775807 := by decide
      omega
    -- the growing way
    have grow : ∀ (base : Option Addr) (cap : Nat), a.eval x = .slice base n cap → cap < n + m → (∀ w', (∀ b, b < w.heap.size → w'.heap[b]? = w.heap[b]?) → (Builtin.firstCells te.size n (.slice base n cap)).run P w' = .ok ((z.take n).flatten).toArray w') →
        ∃ v w' ρ', (execOp a.eval o).run P w = .ok (.value v) w' ∧ Post ρ w (.slc kn te.size 0 (n + m)) [(kn, ⟨e, true, d'⟩)] [(k, ⟨e, true, .dead⟩)] v ρ' w' := by
      intro base cap hbx hcap hfirst
      have hfit : ¬ Builtin.nextslicecap (n + m) cap * i.bytes > 2 ^ 48 := by
        have := growslice_fits (bytes := te.bytes) hcap hbytes
        rw [i3]; simpa using this
      have hgc : n + m ≤ grownCap w (n + m) cap e := by
        simp only [grownCap, Question.cut]
        omega
      have hpost := post_row (hL := hrows.notLoop) (ρ := ρ) (w := w.drew) (k := kn) (s := te.size) (n := n + m) (cap := grownCap w (n + m) cap e) (ty := e) (d := d') (vs := (z.take n ++ (z2.drop 0).take m).flatten) (ex := (Builtin.zeroCells zv.cells (grownCap w (n + m) cap e - (n + m))).toList) hfresh hrows.data hgc
        (by
          have h1 : ((z.take n ++ (z2.drop 0).take m).flatten).length = (n + m) * te.size := by
            rw [flatten_len (s := te.size) _ (fun u hu => (List.mem_append.1 hu).elim (fun h => zw u (List.mem_of_mem_take h)) (hsegw u)), List.length_append, hsegl, List.length_take]
            congr 1
            omega
          rw [List.length_append, h1, Array.length_toList]
          have h2 : (Builtin.zeroCells zv.cells (grownCap w (n + m) cap e - (n + m))).size = (grownCap w (n + m) cap e - (n + m)) * te.size := by simp [Builtin.zeroCells, i7]
          rw [h2, ← Nat.add_mul, show n + m + (grownCap w (n + m) cap e - (n + m)) = grownCap w (n + m) cap e from by omega]
          exact Nat.le_refl _) (zeroCells_one zone _)
      refine ⟨_, _, _, hcall _ _ ?_, { hpost with
        pres := ⟨hpost.pres.os, hpost.pres.tape, hpost.pres.output, hpost.pres.size, fun b hb hn => hpost.pres.block b hb (fun hh => by obtain ⟨_, _, _, hh, _⟩ := hh; cases hh)⟩
        blk := fun j b hj => by
          rcases hj with hj | hj
          · simp only [List.mem_singleton, Prod.mk.injEq] at hj
            obtain ⟨rfl, rfl⟩ := hj
            exact .inl rfl
          · exact hpost.blk j b (.inr hj)
        once := fun j b b' h1 h2 h3 h4 => by
          simp only [List.mem_singleton, Prod.mk.injEq] at h1 h2
          rw [h2.2] at h4
          cases h4
        newb := fun j b q hj hq => .inl ((hpost.newb j b q hj hq).elim id (fun hh => by obtain ⟨_, _, _, hh, _⟩ := hh; cases hh)) }⟩
      have hz0 : (if false = true then (Pure.pure 0 : Sem Nat) else Builtin.lenOf (a.eval y)).run P w = .ok m w := by rw [hlen2]; rfl
      have hcap' : ¬ n + m ≤ cap := by omega
      have hnb : (w.drew).heap = w.heap := rfl
      have hr1 := hfirst w.drew (fun b _ => rfl)
      have hr2 := hrun2 w.drew (fun b _ => rfl)
      simp only [Builtin.append_, hts, hbx, List.getElem?_toArray, List.getElem?_cons_zero, List.getElem?_cons_succ, Sem.run_bind, run_underlying hu, run_underlying hu2, Result.andThen_ok, he.sizeOf, Sem.run_pure, Bool.false_eq_true, if_false, hlen2]
      have hti : ∀ w', (typeInfo e).run P w' = .ok i w' := fun w' => by simp [typeInfo, i1]
      have hzv : ∀ w', (Go.zeroValue e).run P w' = .ok zv w' := fun w' => by simp [Go.zeroValue, typeInfo, i1, i4]
      have hcond : ¬ (((n + m : Nat) : Int) > IntKind.i64.max ∧ (False ∨ i.bytes = 0)) := fun h => h63' h.1
      have hforced : (Question.appendCap (n + m) cap e).forced = false := rfl
      simp only [hcap', if_false, Sem.run_bind, hti, Result.andThen_ok, hcond, hfit, run_choose, hforced, Bool.false_eq_true, World.drew_eq, run_askRoom, hr1, Bool.not_false, if_true, hr2, hzv, newRow, run_newObj, Sem.run_pure, World.alloc_eq]
      have harr : ((z.take n).flatten.toArray ++ ((z2.drop 0).take m).flatten.toArray ++ Builtin.zeroCells zv.cells (grownCap w (n + m) cap e - (n + m))) = ((z.take n ++ (z2.drop 0).take m).flatten ++ (Builtin.zeroCells zv.cells (grownCap w (n + m) cap e - (n + m))).toList).toArray := by
        apply Array.ext'
        simp
      show Result.ok (Value.slice (some ⟨w.drew.heap.size, 0, none⟩) (n + m) (grownCap w (n + m) cap e)) (w.drew.alloc (.cells ((z.take n).flatten.toArray ++ ((z2.drop 0).take m).flatten.toArray ++ Builtin.zeroCells zv.cells (grownCap w (n + m) cap e - (n + m))) e)) = _
      rw [harr]
    -- the ways
    rcases has_slc hvx with ⟨b, tt, cap, e1, e2, e3, e4⟩ | ⟨rfl, ad, e4⟩
    · rcases hzc with ⟨b', tt', ex, c1, c2, c3, c4⟩ | ⟨c1, _⟩
      · rw [e1] at c1
        cases c1
        simp only at c2
        rcases Nat.lt_or_ge cap (n + m) with hlt | hge
        · refine grow _ cap e4 hlt ?_
          obtain ⟨z3, hz3, hrun3, _⟩ := run_first (P := P) hvx (hp.hfk k _ hf) hl hw (by simpa using hn)
          intro w' hw'
          have h0 := run_firstCells_some (P := P) w' te.size n ⟨b, 0 * te.size, none⟩ n cap ((z.take n).flatten) (by
            rw [flatten_len (s := te.size) _ (fun u hu => zw u (List.mem_of_mem_take hu)), List.length_take]; congr 1; omega) (by
            intro j u hj
            have hblt : b < w.heap.size := by
              rcases Nat.lt_or_ge b w.heap.size with h' | h'
              · exact h'
              · simp [Array.getElem?_eq_none h'] at c2
            have hh : w'.heap[b]? = some (.cells (z.flatten ++ ex).toArray e (0, 0)) := by rw [hw' b hblt]; exact c2
            have hadd : (⟨b, 0 * te.size, none⟩ : Addr).add j = ⟨b, j, none⟩ := addr_add0 b te.size j
            rw [hadd, cell_of_row w' b j _ e (0, 0) hh]
            rw [flatten_take (s := te.size) _ _ zw] at hj
            have h6 : z.flatten[j]? = some u := by
              rw [List.getElem?_take] at hj
              split at hj
              · exact hj
              · cases hj
            have hlt2 : j < z.flatten.length := (List.getElem?_eq_some_iff.1 h6).1
            simp only [List.getElem?_toArray]
            rw [List.getElem?_append_left hlt2]
            exact h6)
          exact h0
        · -- in place
          have hblt : b < w.heap.size := by
            rcases Nat.lt_or_ge b w.heap.size with h' | h'
            · exact h'
            · simp [Array.getElem?_eq_none h'] at c2
          have hr2 := hrun2 w (fun b _ => rfl)
          have hfitc : 0 * te.size + n * te.size + (((z2.drop 0).take m).flatten).length ≤ (z.flatten ++ ex).length := by
            rw [hnews, c3, Nat.zero_mul, Nat.zero_add, ← Nat.add_mul]
            exact Nat.le_trans (Nat.mul_le_mul_right _ hge) (by simpa using e3)
          have hsc := run_storeCells_at (P := P) b (n * te.size) e (((z2.drop 0).take m).flatten) 0 (z.flatten ++ ex).toArray w c2 (by simp only [List.size_toArray]; simpa using hfitc) hnone
          have hadd : (⟨b, 0 * te.size, none⟩ : Addr).add (n * te.size) = ⟨b, n * te.size, none⟩ := addr_add0 b te.size _
          have hcells : ((z.flatten ++ ex).take (n * te.size + 0) ++ (((z2.drop 0).take m).flatten) ++ (z.flatten ++ ex).drop (n * te.size + 0 + (((z2.drop 0).take m).flatten).length)) =
              (z.take n ++ (z2.drop 0).take m).flatten ++ (z.flatten ++ ex).drop (n * te.size + m * te.size) := by
            rw [Nat.add_zero, hnews, List.flatten_append, flatten_take (s := te.size) _ _ zw, List.take_append_of_le_length (by rw [flatten_len (s := te.size) _ zw]; exact Nat.mul_le_mul_right _ (by omega))]
          rw [hcells] at hsc
          let ρ' : Rho := ⟨fun j => if j = kn then some (b, tt) else ρ.key j, ρ.imm, ρ.glob⟩
          have hle : ρ.Le ρ' := ⟨fun j q hq => by
            show (if j = kn then _ else _) = _
            by_cases hj : j = kn
            · subst hj; rw [hfresh] at hq; cases hq
            · rw [if_neg hj]; exact hq, fun b o hb => hb⟩
          refine ⟨.slice (some ⟨b, 0 * te.size, none⟩) (n + m) cap, w.setRow b ((z.take n ++ (z2.drop 0).take m).flatten ++ (z.flatten ++ ex).drop (n * te.size + m * te.size)).toArray, ρ', hcall _ _ ?_, ?_⟩
          · simp only [Builtin.append_, hts, e4, List.getElem?_toArray, List.getElem?_cons_zero, List.getElem?_cons_succ, Sem.run_bind, run_underlying hu, run_underlying hu2, Result.andThen_ok, he.sizeOf, Sem.run_pure, Bool.false_eq_true, if_false, hlen2, hge, if_true, Bool.not_false, hr2, hadd, hsc]
          · refine ⟨hle, slc_has (.inl ⟨b, tt, cap, ?_, hge, e3, rfl⟩), ?_, ⟨rfl, rfl, rfl, by simp [World.setRow], ?_⟩, ?_, ?_, ?_, ?_, fun b o hb => .inl hb⟩
            · show (if kn = kn then _ else _) = _
              rw [if_pos rfl]
            · intro j hj
              show (if j = kn then _ else _) = _
              rw [if_neg]
              rintro rfl
              exact hj _ (List.mem_cons_self ..)
            · intro q hq hnq
              refine heap_setRow_other fun hqb => hnq ⟨k, _, tt, List.mem_cons_self .., ?_⟩
              rw [hqb]; exact e1
            · intro j bj hj
              rcases hj with hj | hj
              · simp only [List.mem_singleton, Prod.mk.injEq] at hj
                obtain ⟨rfl, rfl⟩ := hj
                exact .inl rfl
              · simp only [List.mem_singleton, Prod.mk.injEq] at hj
                obtain ⟨rfl, rfl⟩ := hj
                refine .inr (.inl ⟨b, tt, _, (z.flatten ++ ex).drop (n * te.size + m * te.size), ?_, by rw [Data.obj_cells hrows.notLoop]; exact heap_setRow_same c2, hrows.data.mono hle, ?_, ?_⟩)
                · show (if j = j then _ else _) = _
                  rw [if_pos rfl]
                · have h1 : ((z.take n ++ (z2.drop 0).take m).flatten).length = (n + m) * te.size := by
                    rw [flatten_len (s := te.size) _ (fun u hu => (List.mem_append.1 hu).elim (fun h => zw u (List.mem_of_mem_take h)) (hsegw u)), List.length_append, hsegl, List.length_take]
                    congr 1
                    omega
                  rw [List.length_append, h1, List.length_drop, c3, Nat.add_mul]
                  rw [hnews, c3] at hfitc
                  omega
                · intro u hu
                  have := List.mem_of_mem_drop hu
                  rcases List.mem_append.1 this with h | h
                  · obtain ⟨q, hq, hu'⟩ := List.mem_flatten.1 h
                    exact hz.one' q hq u hu'
                  · exact c4 u h
            · intro j c c' h1 h2 h3 h4
              simp only [List.mem_singleton, Prod.mk.injEq] at h1 h2
              rw [h2.2] at h4
              cases h4
            · intro j bj q hj hq
              simp only [List.mem_singleton, Prod.mk.injEq] at hj
              obtain ⟨rfl, rfl⟩ := hj
              have hq' : (if j = j then some (b, tt) else ρ.key j) = some q := hq
              rw [if_pos rfl] at hq'
              cases hq'
              exact .inr ⟨k, _, tt, List.mem_cons_self .., rfl, e1⟩
            · intro j bj j' bj' q q' hj hj' hne
              simp only [List.mem_singleton, Prod.mk.injEq] at hj hj'
              exact absurd (hj.1.trans hj'.1.symm) hne
      · rw [e1] at c1; cases c1
    · rcases Nat.eq_zero_or_pos m with rfl | hm0
      · -- nothing onto nothing
        have hr2 := hrun2 w (fun b _ => rfl)
        refine ⟨.slice ad 0 0, w, ρ, hcall _ _ ?_, ?_⟩
        · have hst : ∀ q : Addr, (storeCells q ([] : List Value)).run P w = .ok () w := fun q => rfl
          have hseg0 : ((z2.drop 0).take 0).flatten = [] := by simp
          rw [hseg0] at hr2
          cases ad <;> simp only [Builtin.append_, hts, e4, List.getElem?_toArray, List.getElem?_cons_zero, List.getElem?_cons_succ, Sem.run_bind, run_underlying hu, run_underlying hu2, Result.andThen_ok, he.sizeOf, Sem.run_pure, Bool.false_eq_true, if_false, hlen2, Nat.add_zero, Nat.le_refl, if_true, Bool.not_false, hr2, hst]
        · have hemp : d'.empty ∨ True := .inr trivial
          have hd0 : d'.empty := by
            unfold dapp at hd
            split at hd
            · split at hd
              · simp only [Option.some.injEq] at hd; subst hd; simp [Data.empty]
              · simp at hd
            · simp only [Option.some.injEq] at hd; subst hd; simp [Data.empty]
            · split at hd
              · simp only [Option.some.injEq] at hd; subst hd; simp [Data.empty]
              · simp at hd
            · simp at hd
          refine ⟨.refl ρ, slc_has (.inr ⟨rfl, ad, rfl⟩), fun _ _ => rfl, .refl _ _, ?_, ?_, ?_, ?_, fun b o hb => .inl hb⟩
          · intro j bj hj
            rcases hj with hj | hj
            · simp only [List.mem_singleton, Prod.mk.injEq] at hj
              obtain ⟨rfl, rfl⟩ := hj
              exact .inl rfl
            · simp only [List.mem_singleton, Prod.mk.injEq] at hj
              obtain ⟨rfl, rfl⟩ := hj
              exact .inr (.inr ⟨hfresh, hd0⟩)
          · intro j c c' h1 h2 h3 h4
            simp only [List.mem_singleton, Prod.mk.injEq] at h1 h2
            rw [h2.2] at h4
            cases h4
          · intro j bj q hj hq
            simp only [List.mem_singleton, Prod.mk.injEq] at hj
            obtain ⟨rfl, rfl⟩ := hj
            rw [hfresh] at hq; cases hq
          · intro j bj j' bj' q q' hj hj' hne
            simp only [List.mem_singleton, Prod.mk.injEq] at hj hj'
            exact absurd (hj.1.trans hj'.1.symm) hne
      · refine grow ad 0 e4 (by omega) ?_
        intro w' _
        cases ad with
        | none => simp [Builtin.firstCells]
        | some q => simp [Builtin.firstCells, loadCells, loadCellsFrom]

end Go.Proofs.YtdcaodkjofkmgaaGreatDoor

namespace Go.Proofs.YtdcaodkjofkmgaaGreatDoor
open Go.Sx
set_option linter.unusedSimpArgs false
set_option linter.unusedVariables false
set_option maxRecDepth 100000
set_option maxHeartbeats 4000000

theorem SWx_frzP {E : Env} (t k : Nat) {c : Code} {K : Post'} {fr : List (Nat × SV)} {hp : List (Nat × Blk)} {ty : TypeId} {n : Nat} {kd : IntKind} {xs ys : List Int} (hW : ∀ b, ¬ E.W0 b) (ht : lk fr t = some (.slc k 1 0 n)) (hk : find hp k = some ⟨ty, true, .ints kd xs⟩)
    (hn : n ≤ xs.length) (hy : xs.take n = ys) (hs : SWx E c K ((t, ivec kd ys) :: fr) (setB hp k ⟨ty, true, .dead⟩)) : SWx E c K fr hp := by
  refine SWx_freeze t k (xs := xs.map (iel kd)) hW ht hk rfl rfl (keylessL_map (fun _ => rfl) xs) (by simp; omega) ?_
  have e : cutL (xs.map (iel kd)) 0 (0 + n) = ys.map (iel kd) := by
    rw [cutL, List.drop_zero, Nat.sub_zero, Nat.zero_add, ← List.map_take, hy]
  rw [e]
  exact hs

theorem r_trimM (xs : List Int) (n : Nat) (hn : n ≤ xs.length) (hl : xs.length < 1099511627776) (K : Nat) (wr : Bool) :
    CallOK Tryz.prog 113 [.slc K 1 0 n] [(K, ⟨3, wr, .ints .i64 xs⟩)] (.slc K 1 0 (cutN xs n)) [] [] := by
  refine CallOK.anyWr ?_
  refine callK (Z := []) tabOK mixedOK Tryz.func113 rfl (by kernel_rfl) (args := [.slc 1001 1 0 n]) (fk := [(1001, ⟨3, false, .ints .i64 xs⟩)]) (c := .slc 1001 1 0 (cutN xs n)) (new := []) (upd := []) (ShapeOK.of rfl rfl rfl rfl rfl rfl rfl rfl rfl rfl rfl) rfl (fun _ => K) (NamesOK.ro rfl) ?_
  intro W0 w0 ρ0 hE
  conv => whnf
  skip
  refine SW_loopN hE (fun k => k) [0] [1001] (fun m fr hp => m ≤ n ∧ cutN xs m = cutN xs n ∧ fr = [(0, .slc 1001 1 0 m)] ∧ hp = [(1001, ⟨3, false, .ints .i64 xs⟩)]) n ?_ ?_ ?_
  · kernel_rfl
  · exact ⟨by omega, rfl, rfl, rfl⟩
  rintro m _ _ ⟨hm, hc, rfl, rfl⟩
  conv => whnf
  by_cases h0 : m = 0
  · subst h0
    have t1 : decide (((0 : Nat) : Int) > 0) = false := rfl
    have e : cutN xs n = 0 := hc.symm
    rw [e]
    (repeat (first | (refine step_w2 rfl rfl ?_; conv => whnf) | (refine g_o (op_pickF rfl (ev_ok rfl) (ev_ok rfl)) ?_; conv => whnf)))
    exact ⟨Recast.refl _, (fun _ _ h => by cases h), (fun _ _ h => by cases h)⟩
  · obtain ⟨m, rfl⟩ : ∃ k, m = k + 1 := ⟨m - 1, by omega⟩
    have t1 : decide (((m + 1 : Nat) : Int) > 0) = true := decide_eq_true (by omega)
    have e1 : IntKind.i64.wrap (((m + 1 : Nat) : Int) - 1) = (m : Int) := by rw [wrap_i64 (by omega) (by omega)]; omega
    by_cases hx : xs.getD m 0 = 0
    · have t2 : (xs.getD m 0 == 0) = true := beq_iff_eq.2 hx
      rw [cutN, if_pos hx] at hc
      (repeat ((first | refine step_w1 rfl rfl ?_ | refine step_oL (by first | omega | decide | (simp only [tiB5, tiB23, tiB3, tiB2, tiB9, tiB36, tiB54, tiB121, tiB34, tiB28, tiB4, tiB50, tiB52, dlen, List.length_replicate, List.length_set, List.length_map, List.length_zipWith, List.length_take, List.length_append, List.length_cons, List.length_nil]; omega)) ?_ | refine step_oA (by first | omega | decide | (simp only [tiB5, tiB23, tiB3, tiB2, tiB9, tiB36, tiB54, tiB121, tiB34, tiB28, tiB4, tiB50, tiB52, dlen, List.length_replicate, List.length_set, List.length_map, List.length_zipWith, List.length_take, List.length_append, List.length_cons, List.length_nil]; omega)) ?_ | refine g_o (op_pickT rfl (ev_ok rfl) (ev_ok rfl)) ?_ | rw [t1] | rw [e1] | rw [show 0 + (m : Int).toNat = m from by omega] | rw [t2] | rw [show ((m : Int) - 0).toNat = m from by omega] | rw [Nat.zero_add]); conv => whnf))
      exact ⟨m, fun k => k, [0], [1001], by omega, by kernel_rfl, by omega, hc, rfl, rfl⟩
    · have t2 : (xs.getD m 0 == 0) = false := beq_false_of_ne hx
      rw [cutN, if_neg hx] at hc
      rw [← hc]
      (repeat ((first | refine step_w1 rfl rfl ?_ | refine step_w2 rfl rfl ?_ | refine step_oL (by first | omega | decide | (simp only [tiB5, tiB23, tiB3, tiB2, tiB9, tiB36, tiB54, tiB121, tiB34, tiB28, tiB4, tiB50, tiB52, dlen, List.length_replicate, List.length_set, List.length_map, List.length_zipWith, List.length_take, List.length_append, List.length_cons, List.length_nil]; omega)) ?_ | refine step_oA (by first | omega | decide | (simp only [tiB5, tiB23, tiB3, tiB2, tiB9, tiB36, tiB54, tiB121, tiB34, tiB28, tiB4, tiB50, tiB52, dlen, List.length_replicate, List.length_set, List.length_map, List.length_zipWith, List.length_take, List.length_append, List.length_cons, List.length_nil]; omega)) ?_ | refine g_o (op_pickT rfl (ev_ok rfl) (ev_ok rfl)) ?_ | rw [t1] | rw [e1] | rw [show 0 + (m : Int).toNat = m from by omega] | rw [t2]); conv => whnf))
      exact ⟨Recast.refl _, (fun _ _ h => by cases h), (fun _ _ h => by cases h)⟩

/-- Dividing by a power, one place more. -/
theorem div_pow_step (R i : Nat) : R / 10000 ^ i = 10000 * (R / 10000 ^ (i + 1)) + R / 10000 ^ i % 10000 := by
  have := Nat.div_add_mod (R / 10000 ^ i) 10000
  rw [Nat.div_div_eq_div_mul, ← Nat.pow_succ] at this
  exact this.symm

theorem r_leading (R F : Nat) (hR : (td R).length < 1099511627776) (hF : F < 1099511627776) (hb : R / 10000 ^ F < 100000000000000000) : CallOK Tryz.prog 134 [nN R, .val (.int .i64 (F : Nat))] [] (.val (.int .i64 ((R / 10000 ^ F : Nat) : Int))) [] [] := by
  have e0 : IntKind.i64.wrap (((td R).length : Int) - 1) = ((td R).length : Int) - 1 := wrap_i64 (by omega) (by omega)
  refine callV (Z := []) tabOK mixedOK Tryz.func134 rfl (by kernel_rfl) rfl rfl (by kernel_rfl) rfl ?_
  intro W0 w0 ρ0 hE
  conv => whnf
  (repeat (first | (refine g_o (op_lenM rfl rfl rfl (ev_ok rfl) (tgt rfl) rfl) ?_; conv => whnf) | (rw [e0]; conv => whnf)))
  refine SW_loopN hE (fun k => k) [0, 1, 5, 6] [] (fun q fr hp => ∃ j : Nat, q = j - F ∧ j ≤ (td R).length ∧ (F ≤ j ∨ j = (td R).length) ∧ fr = [(0, nN R), (1, .val (.int .i64 (F : Nat))), (5, .val (.int .i64 ((R / 10000 ^ j : Nat) : Int))), (6, .val (.int .i64 ((j : Int) - 1)))] ∧ hp = []) ((td R).length - F) ?_ ?_ ?_
  · kernel_rfl
  · exact ⟨(td R).length, rfl, Nat.le_refl _, .inr rfl, by rw [Nat.div_eq_of_lt (tlt_len R)]; rfl, rfl⟩
  rintro q _ _ ⟨j, rfl, hj, hjF, rfl, rfl⟩
  conv => whnf
  by_cases hgo : F < j
  · obtain ⟨i, rfl⟩ : ∃ i, j = i + 1 := ⟨j - 1, by omega⟩
    have ei : (((i + 1 : Nat) : Int) - 1) = (i : Int) := by omega
    rw [ei]
    have hs := div_pow_step R i
    have hle : R / 10000 ^ i ≤ R / 10000 ^ F := Nat.div_le_div_left (Nat.pow_le_pow_right (by decide) (by omega)) (Nat.pow_pos (by decide))
    have hg := td_get R i
    have t1 : decide ((i : Int) ≥ (F : Int)) = true := decide_eq_true (by omega)
    generalize hA : R / 10000 ^ (i + 1) = A at *
    generalize hB : R / 10000 ^ i = B at *
    have e1 : IntKind.i64.wrap (10000 * (A : Int)) = 10000 * (A : Int) := wrap_i64 (by omega) (by omega)
    have e2 : IntKind.i64.wrap (10000 * (A : Int) + ((B % 10000 : Nat) : Int)) = (B : Int) := by rw [wrap_i64 (by omega) (by omega)]; omega
    have e3 : IntKind.i64.wrap ((i : Int) - 1) = (i : Int) - 1 := wrap_i64 (by omega) (by omega)
    have hiT : i < (td R).length := by omega
    clear hs hle
    (repeat ((first | refine step_w1 rfl rfl ?_ | refine g_o (op_loadA rfl (ev_ok rfl) (tgt rfl) rfl (Nat.succ_ne_zero _) rfl) ?_ | refine g_o (op_indexN (α := Int) (d := 0) rfl (ev_ok rfl) (ev_ok rfl) (tgt rfl) rfl (tgt rfl) rfl (by omega)) ?_ | rw [t1] | rw [hg] | rw [e1] | rw [e2] | rw [e3]); conv => whnf))
    exact ⟨i - F, fun k => k, [0, 1, 5, 6], [], by omega, by kernel_rfl, i, rfl, by omega, by omega, by rw [hB]; rfl, rfl⟩
  · have t1 : decide ((j : Int) - 1 ≥ (F : Int)) = false := decide_eq_false (by omega)
    have e : R / 10000 ^ F = R / 10000 ^ j := by
      rcases hjF with h | h
      · rw [show j = F by omega]
      · rw [h, Nat.div_eq_of_lt (tlt_len R), Nat.div_eq_of_lt (td_lt_pow (by omega))]
    rw [e]
    (repeat (first | (refine step_w2 rfl rfl ?_; conv => whnf) | (rw [t1]; conv => whnf))); (first | exact Recast.refl _ | exact Frz.recast (Recast.refl _) rfl | (refine Frz.one rfl rfl ?_; skip) | (refine Frz.tup ?_; skip))
theorem r_leadingM (L : List Int) (R F : Nat) (hL : L.take (td R).length = td R) (hLl : (td R).length ≤ L.length) (hR : (td R).length < 1099511627776) (hF : F < 1099511627776) (hb : R / 10000 ^ F < 100000000000000000) (K : Nat) (wr : Bool) :
    CallOK Tryz.prog 134 [.slc K 1 0 (td R).length, .val (.int .i64 (F : Nat))] [(K, ⟨3, wr, .ints .i64 L⟩)] (.val (.int .i64 ((R / 10000 ^ F : Nat) : Int))) [] [] := by
  have e0 : IntKind.i64.wrap (((td R).length : Int) - 1) = ((td R).length : Int) - 1 := wrap_i64 (by omega) (by omega)
  have hLg : ∀ i, i < (td R).length → L.getD i 0 = ((R / 10000 ^ i % 10000 : Nat) : Int) := fun i hi => by rw [← td_get, ← hL, getD_take, if_pos hi]
  refine CallOK.anyWr ?_
  refine callK (Z := []) tabOK mixedOK Tryz.func134 rfl (by kernel_rfl) (args := [.slc 1001 1 0 (td R).length, .val (.int .i64 (F : Nat))]) (fk := [(1001, ⟨3, false, .ints .i64 L⟩)]) (c := .val (.int .i64 ((R / 10000 ^ F : Nat) : Int))) (new := []) (upd := []) (ShapeOK.of rfl rfl rfl rfl rfl rfl rfl rfl rfl rfl rfl) rfl (fun _ => K) (NamesOK.ro rfl) ?_
  intro W0 w0 ρ0 hE
  conv => whnf
  (repeat (first | (rw [e0]; conv => whnf)))
  refine SW_loopN hE (fun k => k) [0, 1, 5, 6] [1001] (fun q fr hp => ∃ j : Nat, q = j - F ∧ j ≤ (td R).length ∧ (F ≤ j ∨ j = (td R).length) ∧ fr = [(0, .slc 1001 1 0 (td R).length), (1, .val (.int .i64 (F : Nat))), (5, .val (.int .i64 ((R / 10000 ^ j : Nat) : Int))), (6, .val (.int .i64 ((j : Int) - 1)))] ∧ hp = [(1001, ⟨3, false, .ints .i64 L⟩)]) ((td R).length - F) ?_ ?_ ?_
  · kernel_rfl
  · exact ⟨(td R).length, rfl, Nat.le_refl _, .inr rfl, by rw [Nat.div_eq_of_lt (tlt_len R)]; rfl, rfl⟩
  rintro q _ _ ⟨j, rfl, hj, hjF, rfl, rfl⟩
  conv => whnf
  by_cases hgo : F < j
  · obtain ⟨i, rfl⟩ : ∃ i, j = i + 1 := ⟨j - 1, by omega⟩
    have ei : (((i + 1 : Nat) : Int) - 1) = (i : Int) := by omega
    rw [ei]
    have hs := div_pow_step R i
    have hle : R / 10000 ^ i ≤ R / 10000 ^ F := Nat.div_le_div_left (Nat.pow_le_pow_right (by decide) (by omega)) (Nat.pow_pos (by decide))
    have hg := hLg i (by omega)
    have t1 : decide ((i : Int) ≥ (F : Int)) = true := decide_eq_true (by omega)
    generalize hA : R / 10000 ^ (i + 1) = A at *
    generalize hB : R / 10000 ^ i = B at *
    have e1 : IntKind.i64.wrap (10000 * (A : Int)) = 10000 * (A : Int) := wrap_i64 (by omega) (by omega)
    have e2 : IntKind.i64.wrap (10000 * (A : Int) + ((B % 10000 : Nat) : Int)) = (B : Int) := by rw [wrap_i64 (by omega) (by omega)]; omega
    have e3 : IntKind.i64.wrap ((i : Int) - 1) = (i : Int) - 1 := wrap_i64 (by omega) (by omega)
    have hiT : i < (td R).length := by omega
    clear hs hle
    (repeat ((first | refine step_w1 rfl rfl ?_ | refine step_oL (by first | omega | decide | (simp only [tiB5, tiB23, tiB3, tiB2, tiB9, tiB36, tiB54, tiB121, tiB34, tiB28, tiB4, tiB50, tiB52, dlen, List.length_replicate, List.length_set, List.length_map, List.length_zipWith, List.length_take, List.length_append, List.length_cons, List.length_nil]; omega)) ?_ | refine step_oA (by first | omega | decide | (simp only [tiB5, tiB23, tiB3, tiB2, tiB9, tiB36, tiB54, tiB121, tiB34, tiB28, tiB4, tiB50, tiB52, dlen, List.length_replicate, List.length_set, List.length_map, List.length_zipWith, List.length_take, List.length_append, List.length_cons, List.length_nil]; omega)) ?_ | rw [t1] | rw [hg] | rw [e1] | rw [e2] | rw [e3] | rw [Int.toNat_natCast] | rw [Nat.zero_add]); conv => whnf))
    exact ⟨i - F, fun k => k, [0, 1, 5, 6], [1001], by omega, by kernel_rfl, i, rfl, by omega, by omega, by rw [hB]; rfl, rfl⟩
  · have t1 : decide ((j : Int) - 1 ≥ (F : Int)) = false := decide_eq_false (by omega)
    have e : R / 10000 ^ F = R / 10000 ^ j := by
      rcases hjF with h | h
      · rw [show j = F by omega]
      · rw [h, Nat.div_eq_of_lt (tlt_len R), Nat.div_eq_of_lt (td_lt_pow (by omega))]
    rw [e]
    (repeat (first | (refine step_w2 rfl rfl ?_; conv => whnf) | (rw [t1]; conv => whnf)))
    exact ⟨Recast.refl _, (fun _ _ h => by cases h), (fun _ _ h => by cases h)⟩

section
variable {a b R d P F T lb : Nat}
theorem guess_lo {R b P T : Nat} (hb : 0 < b) (hP : 0 < P) (hT : b < (T + 1) * P) : R / P / (T + 1) ≤ R / b := by
  rw [Nat.le_div_iff_mul_le hb]
  have h1 : R / P / (T + 1) * (T + 1) ≤ R / P := Nat.div_mul_le_self _ _
  have h2 : R / P * P ≤ R := Nat.div_mul_le_self _ _
  have h3 : R / P / (T + 1) * b ≤ R / P / (T + 1) * ((T + 1) * P) := Nat.mul_le_mul_left _ (Nat.le_of_lt hT)
  have h4 : R / P / (T + 1) * (T + 1) * P ≤ R / P * P := Nat.mul_le_mul_right P h1
  rw [Nat.mul_assoc] at h4
  omega
theorem guess_hi {R b P T : Nat} (hT0 : 0 < T) (hP : 0 < P) (hT : T * P ≤ b) : R / b ≤ R / P / T := by
  rw [Nat.le_div_iff_mul_le hT0, Nat.le_div_iff_mul_le hP]
  have h1 : R / b * b ≤ R := Nat.div_mul_le_self _ _
  have h2 : R / b * (T * P) ≤ R / b * b := Nat.mul_le_mul_left _ hT
  rw [Nat.mul_assoc]
  omega
end
theorem step_div {A b d : Nat} (hb : 0 < b) : (10000 * A + d) / b = 10000 * (A / b) + (A % b * 10000 + d) / b := by
  have h : 10000 * A + d = A % b * 10000 + d + b * (10000 * (A / b)) := by
    have := Nat.div_add_mod A b
    have e : b * (10000 * (A / b)) = 10000 * (b * (A / b)) := by rw [← Nat.mul_assoc, Nat.mul_comm b 10000, Nat.mul_assoc]
    omega
  rw [h, Nat.add_mul_div_left _ _ hb]; omega
theorem step_mod {A b d : Nat} : (10000 * A + d) % b = (A % b * 10000 + d) % b := by
  have h : 10000 * A + d = A % b * 10000 + d + b * (10000 * (A / b)) := by
    have := Nat.div_add_mod A b
    have e : b * (10000 * (A / b)) = 10000 * (b * (A / b)) := by rw [← Nat.mul_assoc, Nat.mul_comm b 10000, Nat.mul_assoc]
    omega
  rw [h, Nat.add_mul_mod_self_left]
theorem digit_lt {r b d : Nat} (hb : 0 < b) (hr : r < b) (hd : d < 10000) : (r * 10000 + d) / b < 10000 := by
  rw [Nat.div_lt_iff_lt_mul hb]
  have : (r + 1) * 10000 ≤ b * 10000 := Nat.mul_le_mul_right _ hr
  rw [Nat.add_mul] at this
  rw [Nat.mul_comm 10000 b]; omega
/-- The first digits of a number. -/
theorem top_pos {b : Nat} (hb : 0 < b) : 0 < b / 10000 ^ ((td b).length - 3) := by
  refine Nat.div_pos (Nat.le_trans (Nat.pow_le_pow_right (by decide) (by omega)) (td_ge_pow (by omega))) (Nat.pow_pos (by decide))
theorem top_lt {b : Nat} : b / 10000 ^ ((td b).length - 3) < 1000000000000 := by
  rw [Nat.div_lt_iff_lt_mul (Nat.pow_pos (by decide)), show 1000000000000 = 10000 ^ 3 from rfl, ← Nat.pow_add]
  exact td_lt_pow (by omega)
theorem td_cons {d R : Nat} (hd : d < 10000) (h : R * 10000 + d ≠ 0) : td (R * 10000 + d) = (d : Int) :: td R := by
  rw [td_succ h, show (R * 10000 + d) % 10000 = d by omega, show (R * 10000 + d) / 10000 = R by omega]
theorem td_drop : ∀ (k n : Nat), (td n).drop k = td (n / 10000 ^ k)
  | 0, n => by simp
  | k + 1, n => by
    by_cases h : n = 0
    · subst h; rw [td_zero, Nat.zero_div]; rfl
    · rw [td_succ h, List.drop_succ_cons, td_drop k, Nat.div_div_eq_div_mul, Nat.pow_succ, Nat.mul_comm]
/-- A digit in front of a number's. -/
theorem cut_cons {d R : Nat} (hd : d < 10000) : cutN ((d : Int) :: td R) ((td R).length + 1) = (td (R * 10000 + d)).length ∧ ((d : Int) :: td R).take (td (R * 10000 + d)).length = td (R * 10000 + d) := by
  by_cases h : R * 10000 + d = 0
  · obtain rfl : R = 0 := by omega
    obtain rfl : d = 0 := by omega
    exact ⟨rfl, rfl⟩
  · have e := td_cons hd h
    have hl : (td (R * 10000 + d)).length = (td R).length + 1 := by rw [e]; rfl
    have ht := (td_top h).2
    rw [hl, e, Nat.add_sub_cancel] at ht
    refine ⟨?_, ?_⟩
    · rw [hl, cutN, if_neg ht]
    · rw [← e, List.take_length]

theorem wrap_nat {n : Nat} (h : n < 9223372036854775808) : IntKind.i64.wrap (n : Int) = n := wrap_i64 (by omega) (by omega)
theorem r_Div (a b : Nat) (hb : 0 < b) (ha : (td a).length < 268435456) (hbl : (td b).length < 268435456) : CallOK Tryz.prog 109 [nN a, nN b] [] (.tup [nN (a / b), nN (a % b)]) [] [] := by
  have k1 := r_Cmp a b (by omega) (by omega)
  by_cases hlt : a < b
  · have t1 : decide (((a : Int) - b).sign < 0) = true := decide_eq_true (by rw [Int.sign_eq_neg_one_of_neg (by omega)]; omega)
    have e0 : nN (a / b) = vecA 1 [] := by rw [Nat.div_eq_of_lt hlt]; rfl
    have e1 : nN (a % b) = nN a := by rw [Nat.mod_eq_of_lt hlt]
    rw [e0, e1]
    refine callF (Z := []) tabOK mixedOK Tryz.func109 rfl (by kernel_rfl) (by first | rfl | (simp [keylessL, keyless, keylessL_map, *]; done)) (by first | rfl | (simp [keylessL, keyless, keylessL_map, *]; done)) (by kernel_rfl) rfl ?_
    intro w0 ρ0 hE
    conv => whnf
    (repeat (first | (refine step_w1 rfl rfl ?_; conv => whnf) | (refine g_c (by assumption) ?_; conv => whnf) | (rw [t1]; conv => whnf))); (first | exact Recast.refl _ | exact Frz.recast (Recast.refl _) rfl | (refine Frz.one rfl rfl ?_; skip) | (refine Frz.tup ?_; (repeat (first | exact FrzC.keyless rfl | exact FrzL.nil | refine FrzL.cons ?_ ?_ | exact FrzC.nilS))))
  have t1 : decide (((a : Int) - b).sign < 0) = false := decide_eq_false (by have := Int.sign_nonneg_iff.2 (show 0 ≤ (a : Int) - b by omega); omega)
  have hle := td_len_mono (show b ≤ a by omega)
  have hlb0 : 0 < (td b).length := by have := (td_len_zero (n := b)); omega
  have hT0 := top_pos hb
  have hT1 := top_lt (b := b)
  have hPos : 0 < 10000 ^ ((td b).length - 3) := Nat.pow_pos (by decide)
  have hTb : b / 10000 ^ ((td b).length - 3) * 10000 ^ ((td b).length - 3) ≤ b := Nat.div_mul_le_self _ _
  have hbT : b < (b / 10000 ^ ((td b).length - 3) + 1) * 10000 ^ ((td b).length - 3) := by rw [Nat.mul_comm]; exact Nat.lt_mul_div_succ b hPos
  have k2 := r_leading b ((td b).length - 3) (by omega) (by omega) (by omega)
  generalize hF : (td b).length - 3 = F at *
  generalize hT : b / 10000 ^ F = T at *
  have e1 : IntKind.i64.wrap (((td b).length : Int) - 3) = ((td b).length : Int) - 3 := wrap_i64 (by omega) (by omega)
  have e2 : (if ((td b).length : Int) - 3 > 0 then ((td b).length : Int) - 3 else 0) = (F : Int) := by split <;> omega
  generalize hD : (td a).length - (td b).length = D
  have e3 : IntKind.i64.wrap (((td a).length : Int) - ((td b).length : Int)) = (D : Int) := by rw [wrap_i64 (by omega) (by omega)]; omega
  have e4 : IntKind.i64.wrap ((D : Int) + 1) = ((D + 1 : Nat) : Int) := by rw [wrap_i64 (by omega) (by omega)]; omega
  have hA0 : a / 10000 ^ (D + 1) < b := by
    have h1 := tlt_len a
    have h2 := td_ge_pow (n := b) (by omega)
    rw [Nat.div_lt_iff_lt_mul (Nat.pow_pos (by decide))]
    refine Nat.lt_of_lt_of_le h1 (Nat.le_trans (m := 10000 ^ ((td b).length - 1) * 10000 ^ (D + 1)) ?_ (Nat.mul_le_mul_right _ h2))
    rw [← Nat.pow_add]
    exact Nat.pow_le_pow_right (by decide) (by omega)
  have hdrop : ((td a).drop (D + 1)).take ((td a).length - (D + 1)) = td (a / 10000 ^ (D + 1)) := by
    rw [td_drop, List.take_of_length_le]
    rw [← td_drop, List.length_drop]; omega
  have wb := td_w32 b
  refine callF (Z := []) tabOK mixedOK Tryz.func109 rfl (by kernel_rfl) (by first | rfl | (simp [keylessL, keyless, keylessL_map, *]; done)) (by first | rfl | (simp [keylessL, keyless, keylessL_map, *]; done)) (by kernel_rfl) rfl ?_
  intro w0 ρ0 hE
  conv => whnf
  have hR0l : (td (a / 10000 ^ (D + 1))).length < 1099511627776 := by have := td_len_mono (Nat.div_le_self a (10000 ^ (D + 1))); omega
  generalize hR0 : a / 10000 ^ (D + 1) = R0 at *
  (repeat (first | (refine step_w2 rfl rfl ?_; conv => whnf) | (refine step_oA (by first | omega | decide | (simp only [tiB5, tiB23, tiB3, tiB2, tiB9, tiB36, tiB54, tiB121, tiB34, tiB28, tiB4, tiB50, tiB52, dlen, List.length_replicate, List.length_set, List.length_map, List.length_zipWith, List.length_take, List.length_append, List.length_cons, List.length_nil]; omega)) ?_; conv => whnf) | (refine g_c (by assumption) ?_; conv => whnf) | (refine g_o (op_lenM rfl rfl rfl (ev_ok rfl) (tgt rfl) rfl) ?_; conv => whnf) | (refine g_o (op_sliceM rfl (ev_ok rfl) (bound_spec rfl) (bound_spec rfl) (.inl rfl) (tgt rfl) rfl (tgt rfl) rfl (by omega)) ?_; conv => whnf) | (refine ⟨.slc 40 1 0 (0 + (td R0).length), [(35, ⟨3, true, .ints .i64 []⟩)], [(40, ⟨3, true, .ints .i64 (td R0)⟩)], [(35, ⟨3, true, .dead⟩)], op_appendV rfl rfl rfl (ev_ok rfl) (ev_ok rfl) (rows_ints (td R0)) (tabOK.get (t := 50) rfl) rfl (tabOK.get (t := 50) rfl) rfl (tabOK.get (t := 3) rfl) (List.mem_cons_self ..) rfl rfl (by simp [dlen]) (by simp) (by simp [dlen]) (by simp [dapp]) (by show (0 + _) * ti3.bytes ≤ _; simp only [tiB3]; omega) (by omega), one_fk rfl, one_new rfl, one_upd (List.mem_cons_self ..) rfl rfl rfl, ?_⟩; conv => whnf) | (rw [t1]; conv => whnf) | (rw [e1]; conv => whnf) | (rw [e2]; conv => whnf) | (rw [e3]; conv => whnf) | (rw [e4]; conv => whnf) | (rw [hdrop]; conv => whnf) | (rw [Int.toNat_natCast]; conv => whnf) | (rw [Nat.zero_add]; conv => whnf)))
  refine SWx_frzP 10 40 (fun _ h => h) rfl rfl (Nat.le_refl _) (List.take_length) ?_
  have e5 : ((D + 1 : Nat) : Int) - 1 = (D : Int) := by omega
  refine SW_loopS hE (fun k => k) [0, 1, 6, 7, 8, 9, 10] [34] (fun m fr hp => ∃ Q : List Int, m ≤ D + 1 ∧ Q.length = D + 1 ∧ W4 Q ∧ (∀ k, k < m → Q.getD k 0 = 0) ∧ valT Q (D + 1) = ((a / 10000 ^ m / b : Nat) : Int) * 10000 ^ m ∧
    fr = [(0, nN a), (1, nN b), (6, .val (.int .i64 (F : Nat))), (7, .val (.int .i64 (T : Nat))), (8, .val (.int .i64 ((m : Int) - 1))), (9, .slc 34 1 0 (D + 1)), (10, nN (a / 10000 ^ m % b))] ∧ hp = [(34, zblk Q)]) (D + 1) ?_ ?_ ?_
  · kernel_rfl
  · refine ⟨List.replicate (D + 1) 0, Nat.le_refl _, List.length_replicate, W4_of (fun x hx => by rw [(List.mem_replicate.1 hx).2]; omega), (fun k _ => getD_replicate), ?_, ?_, rfl⟩
    · rw [valT_zeros (k := 0) (fun i _ _ => getD_replicate) (Nat.zero_le _), hR0, Nat.div_eq_of_lt hA0]; simp [valT]
    · rw [e5, hR0, Nat.mod_eq_of_lt hA0]; rfl
  rintro m _ _ ⟨Q, hm, hQl, hQw, hQ0, hQv, rfl, rfl⟩
  by_cases h0 : m = 0
  · subst h0
    rw [Nat.pow_zero, Nat.div_one, Int.pow_zero, Int.mul_one] at hQv
    have hz : nN (a / 10000 ^ 0 % b) = nN (a % b) := by rw [Nat.pow_zero, Nat.div_one]
    rw [hz]
    have t2 : decide (((0 : Nat) : Int) - 1 ≥ 0) = false := rfl
    have kt := r_trim Q (by omega) hQw
    rw [show (valT Q Q.length).toNat = a / b by rw [hQl, hQv]; exact Int.toNat_natCast _] at kt
    refine SWx_frzI 9 34 (fun _ h => h) rfl rfl hQl.symm ?_
    refine SWx.of hE ?_
    conv => whnf
    (repeat (first | (refine step_w2 rfl rfl ?_; conv => whnf) | (refine g_c (by assumption) ?_; conv => whnf))); (first | exact Recast.refl _ | exact Frz.recast (Recast.refl _) rfl | (refine Frz.one rfl rfl ?_; skip) | (refine Frz.tup ?_; skip))
  · obtain ⟨i, rfl⟩ : ∃ i, m = i + 1 := ⟨m - 1, by omega⟩
    have ei : (((i + 1 : Nat) : Int) - 1) = (i : Int) := by omega
    rw [ei]
    have hst := div_pow_step a i
    have hdig : (td a).getD i 0 = ((a / 10000 ^ i % 10000 : Nat) : Int) := td_get a i
    have hdlt : a / 10000 ^ i % 10000 < 10000 := Nat.mod_lt _ (by decide)
    have hia : i < (td a).length := by omega
    have hAle := td_len_mono (Nat.le_trans (Nat.mod_le (a / 10000 ^ (i + 1)) b) (Nat.div_le_self a _))
    have hq1 := hQv
    have hfin : ((a / 10000 ^ i / b : Nat) : Int) = 10000 * ((a / 10000 ^ (i + 1) / b : Nat) : Int) + (((a / 10000 ^ (i + 1) % b * 10000 + a / 10000 ^ i % 10000) / b : Nat) : Int) := by
      rw [hst, step_div hb]
      have : (10000 * (a / 10000 ^ (i + 1)) + a / 10000 ^ i % 10000) % 10000 = a / 10000 ^ i % 10000 := by rw [← hst]
      rw [this]; omega
    have hfinr : a / 10000 ^ i % b = (a / 10000 ^ (i + 1) % b * 10000 + a / 10000 ^ i % 10000) % b := by
      have h := step_mod (A := a / 10000 ^ (i + 1)) (b := b) (d := a / 10000 ^ i % 10000)
      rw [← hst] at h; exact h
    have hRb : a / 10000 ^ (i + 1) % b < b := Nat.mod_lt _ hb
    clear hst
    generalize hd : a / 10000 ^ i % 10000 = d at *
    generalize hR : a / 10000 ^ (i + 1) % b = R at *
    obtain ⟨hc1, hc2⟩ := cut_cons (R := R) hdlt
    have hR'l : (td (R * 10000 + d)).length ≤ (td R).length + 1 := tlen_le (by have := tlt_len R; rw [Nat.pow_succ]; omega)
    have hqlt := digit_lt (d := d) hb hRb hdlt
    have hR'b : (td (R * 10000 + d)).length ≤ (td b).length + 1 := tlen_le (by have := tlt_len b; rw [Nat.pow_succ]; omega)
    have kt := r_trimM ((d : Int) :: td R) (1 + (td R).length) (by rw [List.length_cons]; omega) (by rw [List.length_cons]; omega) 51 true
    rw [Nat.add_comm 1, hc1, Nat.add_comm] at kt
    have hfst : (R * 10000 + d) / 10000 ^ F < 10000 ^ 4 := by
      rw [Nat.div_lt_iff_lt_mul (Nat.pow_pos (by decide)), ← Nat.pow_add]
      exact td_lt_pow (by omega)
    have kl := r_leadingM ((d : Int) :: td R) (R * 10000 + d) F hc2 (by rw [List.length_cons]; omega) (by omega) (by omega) (by omega) 51 true
    have glo := guess_lo (R := R * 10000 + d) hb hPos hbT
    have ghi := guess_hi (R := R * 10000 + d) hT0 hPos hTb
    have hsub : R * 10000 + d - b * ((R * 10000 + d) / b) = a / 10000 ^ i % b := by
      rw [hfinr]; have := Nat.div_add_mod (R * 10000 + d) b; omega
    have hmulle : b * ((R * 10000 + d) / b) ≤ R * 10000 + d := Nat.mul_div_le _ _
    have hqle : ∀ x, b * x ≤ R * 10000 + d ↔ x ≤ (R * 10000 + d) / b := fun x => by rw [Nat.le_div_iff_mul_le hb, Nat.mul_comm]
    generalize hR' : R * 10000 + d = R' at *
    generalize hfe : R' / 10000 ^ F = fst at *
    generalize hqd : R' / b = qd at *
    have e6 : IntKind.i64.wrap ((T : Int) + 1) = ((T + 1 : Nat) : Int) := by rw [wrap_i64 (by omega) (by omega)]; omega
    have e7 : IntKind.i64.wrap ((fst : Int).tdiv ((T + 1 : Nat) : Int)) = ((fst / (T + 1) : Nat) : Int) := by
      rw [Int.tdiv_eq_ediv_of_nonneg (by omega), ← Int.natCast_ediv]
      exact wrap_nat (Nat.lt_of_le_of_lt (Nat.div_le_self fst (T + 1)) (by omega))
    have e8 : IntKind.i64.wrap ((fst : Int).tdiv (T : Int)) = ((fst / T : Nat) : Int) := by
      rw [Int.tdiv_eq_ediv_of_nonneg (by omega), ← Int.natCast_ediv]
      exact wrap_nat (Nat.lt_of_le_of_lt (Nat.div_le_self fst T) (by omega))
    have e9 : (if (9999 : Int) < ((fst / T : Nat) : Int) then (9999 : Int) else ((fst / T : Nat) : Int)) = ((min (fst / T) 9999 : Nat) : Int) := by split <;> omega
    have t2 : decide ((i : Int) ≥ 0) = true := decide_eq_true (by omega)
    have hRl : (td R).length < 1099511627776 := by omega
    refine SWx.of hE ?_
    conv => whnf
    (repeat (first | (refine step_w1 rfl rfl ?_; conv => whnf) | (refine step_i (by kernel_rfl) ?_; conv => whnf) | (refine step_oN (by first | omega | decide | (simp only [tiB5, tiB23, tiB3, tiB2, tiB9, tiB36, tiB54, tiB121, tiB34, tiB28, tiB4, tiB50, tiB52, dlen, List.length_replicate, List.length_set, List.length_map, List.length_zipWith, List.length_take, List.length_append, List.length_cons, List.length_nil]; omega)) ?_; conv => whnf) | (refine g_c1 (by assumption) rfl ?_; conv => whnf) | (refine g_o (op_loadA rfl (ev_ok rfl) (tgt rfl) rfl (Nat.succ_ne_zero _) rfl) ?_; conv => whnf) | (refine g_o (op_indexN (α := Int) (d := 0) rfl (ev_ok rfl) (ev_ok rfl) (tgt rfl) rfl (tgt rfl) rfl (by omega)) ?_; conv => whnf) | (refine ⟨.slc 51 1 0 (1 + (td R).length), [(49, ⟨3, true, .ints .i64 [(d : Int)]⟩)], [(51, ⟨3, true, .ints .i64 ((d : Int) :: td R)⟩)], [(49, ⟨3, true, .dead⟩)], op_appendV rfl rfl rfl (ev_ok rfl) (ev_ok rfl) (rows_ints (td R)) (tabOK.get (t := 50) rfl) rfl (tabOK.get (t := 50) rfl) rfl (tabOK.get (t := 3) rfl) (List.mem_cons_self ..) rfl rfl (by simp [dlen]) (by simp) (by simp [dlen]) (by simp [dapp]) (by show (1 + _) * ti3.bytes ≤ _; simp only [tiB3]; omega) (by omega), one_fk rfl, one_new rfl, one_upd (List.mem_cons_self ..) rfl rfl rfl, ?_⟩; conv => whnf) | (rw [t2]; conv => whnf) | (rw [hdig]; conv => whnf) | (rw [e6]; conv => whnf) | (rw [e7]; conv => whnf) | (rw [e8]; conv => whnf) | (rw [e9]; conv => whnf)))
    refine SWx_frzP 10 51 (fun _ h => h) rfl rfl (by rw [List.length_cons]; omega) hc2 ?_
    have hmin1 : fst / (T + 1) ≤ qd := glo
    have hmin2 : qd ≤ min (fst / T) 9999 := by omega
    have hmin3 : min (fst / T) 9999 ≤ 9999 := Nat.min_le_right _ _
    clear kl kt hc1 hc2 glo ghi hbT hTb e9 e8 e7 e6 hfst
    generalize fst / (T + 1) = lo0 at *
    generalize min (fst / T) 9999 = hi0 at *
    refine SW_loopN hE (fun k => k) [0, 1, 6, 7, 8, 9, 10, 12, 13] [34] (fun q fr hp => ∃ lo hi : Nat, q = hi - lo ∧ lo ≤ qd ∧ qd ≤ hi ∧ hi ≤ 9999 ∧
      fr = [(0, nN a), (1, nN b), (6, .val (.int .i64 (F : Nat))), (7, .val (.int .i64 (T : Nat))), (8, .val (.int .i64 (i : Nat))), (9, .slc 34 1 0 (D + 1)), (10, nN R'), (12, .val (.int .i64 (lo : Nat))), (13, .val (.int .i64 (hi : Nat)))] ∧ hp = [(34, zblk Q)]) (hi0 - lo0) ?_ ?_ ?_
    · kernel_rfl
    · exact ⟨lo0, hi0, rfl, hmin1, hmin2, hmin3, rfl, rfl⟩
    rintro q _ _ ⟨lo, hi, rfl, hlo, hhi, hhi2, rfl, rfl⟩
    conv => whnf
    by_cases hl : lo < hi
    · have t3 : decide ((lo : Int) < (hi : Int)) = true := decide_eq_true (by omega)
      have e10 : IntKind.i64.wrap ((lo : Int) + (hi : Int)) = ((lo + hi : Nat) : Int) := by rw [wrap_i64 (by omega) (by omega)]; omega
      have e11 : IntKind.i64.wrap (((lo + hi : Nat) : Int) + 1) = ((lo + hi + 1 : Nat) : Int) := by rw [wrap_i64 (by omega) (by omega)]; omega
      have e12 : IntKind.i64.wrap (((lo + hi + 1 : Nat) : Int).tdiv 2) = (((lo + hi + 1) / 2 : Nat) : Int) := by
        rw [Int.tdiv_eq_ediv_of_nonneg (by omega)]
        exact wrap_i64 (by omega) (by omega)
      have e12' : (((lo + hi + 1 : Nat) : Int).tdiv 2) = (((lo + hi + 1) / 2 : Nat) : Int) := by rw [Int.tdiv_eq_ediv_of_nonneg (by omega)]; rfl
      have hmid : lo < (lo + hi + 1) / 2 ∧ (lo + hi + 1) / 2 ≤ hi := by omega
      generalize (lo + hi + 1) / 2 = mid at *
      have e13 : IntKind.u64.wrap (mid : Int) = (mid : Int) := wrap_u64 (by omega) (by omega)
      have hbm : (td (b * mid)).length ≤ (td b).length + 1 := tlen_le (by
        have h1 := tlt_len b
        have h2 : b * mid ≤ b * 10000 := Nat.mul_le_mul_left _ (by omega)
        rw [Nat.pow_succ]; omega)
      have hml : (td mid).length ≤ 1 := tlen_le (by omega)
      have o1 := r_Of mid (by omega)
      have o2 := r_Mul b mid (by omega) (by omega)
      have o3 := r_Cmp (b * mid) R' (by omega) (by omega)
      by_cases hc : b * mid ≤ R'
      · have t4 : decide ((((b * mid : Nat) : Int) - R').sign ≤ 0) = true := decide_eq_true (by
          have := Int.sign_nonpos_iff.2 (show ((b * mid : Nat) : Int) - R' ≤ 0 by omega); omega)
        have := (hqle mid).1 hc
        (repeat ((first | refine step_w1 rfl rfl ?_ | refine step_oN (by first | omega | decide | (simp only [tiB5, tiB23, tiB3, tiB2, tiB9, tiB36, tiB54, tiB121, tiB34, tiB28, tiB4, tiB50, tiB52, dlen, List.length_replicate, List.length_set, List.length_map, List.length_zipWith, List.length_take, List.length_append, List.length_cons, List.length_nil]; omega)) ?_ | refine g_c (by assumption) ?_ | rw [t3] | rw [e10] | rw [e11] | rw [e12] | rw [e13] | rw [t4]); conv => whnf))
        exact ⟨hi - mid, fun k => k, [0, 1, 6, 7, 8, 9, 10, 12, 13], [34], by omega, by kernel_rfl, mid, hi, rfl, this, hhi, hhi2, rfl, rfl⟩
      · have t4 : decide ((((b * mid : Nat) : Int) - R').sign ≤ 0) = false := decide_eq_false (by
          rw [Int.sign_eq_one_of_pos (show 0 < ((b * mid : Nat) : Int) - R' by omega)]; omega)
        have : ¬ mid ≤ qd := fun h => hc ((hqle mid).2 h)
        have e14 : IntKind.i64.wrap ((mid : Int) - 1) = ((mid - 1 : Nat) : Int) := by rw [wrap_i64 (by omega) (by omega)]; omega
        (repeat ((first | refine step_w1 rfl rfl ?_ | refine step_w2 rfl rfl ?_ | refine step_oN (by first | omega | decide | (simp only [tiB5, tiB23, tiB3, tiB2, tiB9, tiB36, tiB54, tiB121, tiB34, tiB28, tiB4, tiB50, tiB52, dlen, List.length_replicate, List.length_set, List.length_map, List.length_zipWith, List.length_take, List.length_append, List.length_cons, List.length_nil]; omega)) ?_ | refine g_c (by assumption) ?_ | rw [t3] | rw [e10] | rw [e11] | rw [e12] | rw [e13] | rw [t4] | rw [e14]); conv => whnf))
        exact ⟨mid - 1 - lo, fun k => k, [0, 1, 6, 7, 8, 9, 10, 12, 13], [34], by omega, by kernel_rfl, lo, mid - 1, rfl, hlo, by omega, by omega, rfl, rfl⟩
    · have t3 : decide ((lo : Int) < (hi : Int)) = false := decide_eq_false (by omega)
      obtain rfl : lo = qd := by omega
      have e13 : IntKind.u64.wrap (lo : Int) = (lo : Int) := wrap_u64 (by omega) (by omega)
      have e14 : IntKind.i64.wrap ((i : Int) - 1) = (i : Int) - 1 := wrap_i64 (by omega) (by omega)
      have hbm : (td (b * lo)).length ≤ (td b).length + 1 := tlen_le (by
        have h1 := tlt_len b
        have h2 : b * lo ≤ b * 10000 := Nat.mul_le_mul_left _ (by omega)
        rw [Nat.pow_succ]; omega)
      have hml : (td lo).length ≤ 1 := tlen_le (by omega)
      have o1 := r_Of lo (by omega)
      have o2 := r_Mul b lo (by omega) (by omega)
      have o3 := r_Sub R' (b * lo) hmulle (by omega)
      rw [hsub] at o3
      have hiQ : i < Q.length := by omega
      have hQs : (Q.set i (lo : Int)).length = D + 1 := by rw [List.length_set]; exact hQl
      have hQw2 := hQw.set (i := i) (show (0 : Int) ≤ lo by omega) (by omega)
      have hQ02 : ∀ k, k < i → (Q.set i (lo : Int)).getD k 0 = 0 := fun k hk => by rw [getD_set, if_neg (by omega)]; exact hQ0 k (by omega)
      have hQv2 : valT (Q.set i (lo : Int)) (D + 1) = ((a / 10000 ^ i / b : Nat) : Int) * 10000 ^ i := by
        rw [valT_set (by omega) hiQ, hQ0 i (by omega), hQv, hfin, Int.pow_succ]; grind
      (repeat ((first | refine step_w2 rfl rfl ?_ | refine step_oL (by first | omega | decide | (simp only [tiB5, tiB23, tiB3, tiB2, tiB9, tiB36, tiB54, tiB121, tiB34, tiB28, tiB4, tiB50, tiB52, dlen, List.length_replicate, List.length_set, List.length_map, List.length_zipWith, List.length_take, List.length_append, List.length_cons, List.length_nil]; omega)) ?_ | refine step_oA (by first | omega | decide | (simp only [tiB5, tiB23, tiB3, tiB2, tiB9, tiB36, tiB54, tiB121, tiB34, tiB28, tiB4, tiB50, tiB52, dlen, List.length_replicate, List.length_set, List.length_map, List.length_zipWith, List.length_take, List.length_append, List.length_cons, List.length_nil]; omega)) ?_ | refine g_c (by assumption) ?_ | rw [t3] | rw [show 0 + (i : Int).toNat = i from by omega] | rw [e13] | rw [e14]); conv => whnf))
      exact ⟨i, fun k => k, [0, 1, 6, 7, 8, 9, 10], [34], by omega, by kernel_rfl, Q.set i (lo : Int), by omega, hQs, hQw2, hQ02, hQv2, rfl, rfl⟩

theorem td_lt_len {a b : Nat} (h : a ≤ b) {M : Nat} (hb : (td b).length < M) : (td a).length < M := Nat.lt_of_le_of_lt (td_len_mono h) hb
theorem r_Gcd (a b : Nat) (ha : (td a).length < 268435456) (hb : (td b).length < 268435456) : CallOK Tryz.prog 108 [nN a, nN b] [] (nN (Nat.gcd a b)) [] [] := by
  refine callV (Z := []) tabOK mixedOK Tryz.func108 rfl (by kernel_rfl) rfl rfl (by kernel_rfl) rfl ?_
  intro W0 w0 ρ0 hE
  conv => whnf
  skip
  refine SW_loopN hE (fun k => k) [0, 1] [] (fun q fr hp => ∃ x y : Nat, q = y ∧ Nat.gcd x y = Nat.gcd a b ∧ (td x).length < 268435456 ∧ (td y).length < 268435456 ∧ fr = [(0, nN x), (1, nN y)] ∧ hp = []) b ?_ ?_ ?_
  · kernel_rfl
  · exact ⟨a, b, rfl, rfl, ha, hb, rfl, rfl⟩
  rintro q _ _ ⟨x, y, rfl, hg, hx, hy, rfl, rfl⟩
  conv => whnf
  by_cases h0 : 0 < q
  · have t1 : decide (((td q).length : Int) > 0) = true := decide_eq_true (by have := td_len_zero (n := q); omega)
    have k1 := r_Div x q h0 hx hy
    have hlt := Nat.mod_lt x h0
    (repeat ((first | refine step_w1 rfl rfl ?_ | refine g_c (by assumption) ?_ | refine g_o (op_lenM rfl rfl rfl (ev_ok rfl) (tgt rfl) rfl) ?_ | rw [t1]); conv => whnf))
    exact ⟨x % q, fun k => k, [0, 1], [], hlt, by kernel_rfl, q, x % q, rfl, by rw [← hg, Nat.gcd_comm x q, Nat.gcd_rec q x]; exact Nat.gcd_comm _ _, hy, td_lt_len (Nat.le_of_lt hlt) hy, rfl, rfl⟩
  · obtain rfl : q = 0 := by omega
    rw [Nat.gcd_zero_right] at hg
    subst hg
    have t1 : decide (((td 0).length : Int) > 0) = false := rfl
    (repeat (first | (refine step_w2 rfl rfl ?_; conv => whnf) | (refine g_o (op_lenM rfl rfl rfl (ev_ok rfl) (tgt rfl) rfl) ?_; conv => whnf))); (first | exact Recast.refl _ | exact Frz.recast (Recast.refl _) rfl | (refine Frz.one rfl rfl ?_; skip) | (refine Frz.tup ?_; skip))
end Go.Proofs.YtdcaodkjofkmgaaGreatDoor

namespace Go.Proofs.YtdcaodkjofkmgaaGreatDoor
open Go.Sx
set_option linter.unusedSimpArgs false
set_option linter.unusedVariables false
set_option maxRecDepth 100000
set_option maxHeartbeats 4000000

/-- A reference integer, a reference fraction. -/
abbrev zZ (z : Int) : SV := .agg [.val (.bool (decide (z < 0))), nN z.natAbs]
abbrev fF (q : Rat) : SV := .agg [zZ q.num, nN (q.den - 1)]

theorem tl_sz {n M : Nat} (h : sz n ≤ M) : (td n).length ≤ M := tlen_le (Nat.lt_of_lt_of_le (sz_le.1 h) (Nat.pow_le_pow_left (by decide) M))

theorem r2_From (neg : Bool) (n : Nat) (hn : (td n).length < 1099511627776) : CallOK Tryz.prog 110 [.val (.bool neg), nN n] [] (zZ (signed neg n)) [] [] := by
  refine callV (Z := []) tabOK mixedOK Tryz.func110 rfl (by kernel_rfl) rfl rfl (by kernel_rfl) rfl ?_
  intro W0 w0 ρ0 hE
  conv => whnf
  cases neg with
  | false =>
    have e : zZ (signed false n) = .agg [.val (.bool false), nN n] := by
      have h : ¬ (signed false n < 0) := by show ¬ ((n : Int) < 0); omega
      rw [zZ, decide_eq_false h, signed_abs]
    rw [e]
    (repeat (first | (refine step_w2 rfl rfl ?_; conv => whnf) | (refine g_o (op_pickF rfl (ev_ok rfl) (ev_ok rfl)) ?_; conv => whnf)))
    exact Recast.refl _
  | true =>
    by_cases h0 : 0 < n
    · have t1 : decide (((td n).length : Int) > 0) = true := decide_eq_true (by have := td_len_zero (n := n); omega)
      have e : zZ (signed true n) = .agg [.val (.bool true), nN n] := by
        have h : signed true n < 0 := by show -(n : Int) < 0; omega
        rw [zZ, decide_eq_true h, signed_abs]
      rw [e]
      (repeat ((first | refine step_w1 rfl rfl ?_ | refine g_o (op_pickT rfl (ev_ok rfl) (ev_ok rfl)) ?_ | refine g_o (op_lenM rfl rfl rfl (ev_ok rfl) (tgt rfl) rfl) ?_ | rw [t1]); conv => whnf))
      exact Recast.refl _
    · obtain rfl : n = 0 := by omega
      have t1 : decide (((td 0).length : Int) > 0) = false := rfl
      have e : zZ (signed true 0) = .agg [.val (.bool false), nN 0] := rfl
      rw [e]
      (repeat ((first | refine step_w1 rfl rfl ?_ | refine g_o (op_pickT rfl (ev_ok rfl) (ev_ok rfl)) ?_ | refine g_o (op_lenM rfl rfl rfl (ev_ok rfl) (tgt rfl) rfl) ?_ | rw [t1]); conv => whnf))
      exact Recast.refl _
/-- From, where the sign and the size are known. -/
theorem r2_From' {neg : Bool} {n : Nat} {z : Int} (hz : signed neg n = z) (hn : (td n).length < 1099511627776) : CallOK Tryz.prog 110 [.val (.bool neg), nN n] [] (zZ z) [] [] := by
  rw [← hz]; exact r2_From neg n hn

theorem r2_Sign (z : Int) (hz : (td z.natAbs).length < 1099511627776) : CallOK Tryz.prog 140 [zZ z] [] (.val (.int .i64 z.sign)) [] [] := by
  refine callV (Z := [1]) tabOK mixedOK Tryz.func140 rfl (by kernel_rfl) rfl rfl (by kernel_rfl) rfl ?_
  intro W0 w0 ρ0 hE
  conv => whnf
  by_cases h0 : z = 0
  · subst h0
    have t1 : (((td (Int.natAbs 0)).length : Int) == 0) = true := rfl
    (repeat ((first | refine step_w1 rfl rfl ?_ | refine g_o (op_lenM rfl rfl rfl (ev_ok rfl) (tgt rfl) rfl) ?_ | refine g_o (op_loadA rfl (ev_ok rfl) (tgt rfl) rfl (Nat.succ_ne_zero _) rfl) ?_ | refine g_o (op_fieldA rfl (ev_ok rfl) (tgt rfl) rfl rfl (Nat.succ_ne_zero _) rfl) ?_); conv => whnf)); (first | exact Recast.refl _ | exact Frz.recast (Recast.refl _) rfl | (refine Frz.one rfl rfl ?_; skip) | (refine Frz.tup ?_; skip))
  · have t1 : (((td z.natAbs).length : Int) == 0) = false := beq_false_of_ne (by have := td_len_zero (n := z.natAbs); omega)
    by_cases hn : z < 0
    · have t2 : decide (z < 0) = true := decide_eq_true hn
      rw [Int.sign_eq_neg_one_of_neg hn]
      (repeat ((first | refine step_w1 rfl rfl ?_ | refine step_w2 rfl rfl ?_ | refine g_o (op_lenM rfl rfl rfl (ev_ok rfl) (tgt rfl) rfl) ?_ | refine g_o (op_loadA rfl (ev_ok rfl) (tgt rfl) rfl (Nat.succ_ne_zero _) rfl) ?_ | refine g_o (op_fieldA rfl (ev_ok rfl) (tgt rfl) rfl rfl (Nat.succ_ne_zero _) rfl) ?_ | rw [t1] | rw [t2]); conv => whnf)); (first | exact Recast.refl _ | exact Frz.recast (Recast.refl _) rfl | (refine Frz.one rfl rfl ?_; skip) | (refine Frz.tup ?_; skip))
    · have t2 : decide (z < 0) = false := decide_eq_false hn
      rw [Int.sign_eq_one_of_pos (by omega)]
      (repeat ((first | refine step_w2 rfl rfl ?_ | refine g_o (op_lenM rfl rfl rfl (ev_ok rfl) (tgt rfl) rfl) ?_ | refine g_o (op_loadA rfl (ev_ok rfl) (tgt rfl) rfl (Nat.succ_ne_zero _) rfl) ?_ | refine g_o (op_fieldA rfl (ev_ok rfl) (tgt rfl) rfl rfl (Nat.succ_ne_zero _) rfl) ?_ | rw [t1] | rw [t2]); conv => whnf)); (first | exact Recast.refl _ | exact Frz.recast (Recast.refl _) rfl | (refine Frz.one rfl rfl ?_; skip) | (refine Frz.tup ?_; skip))

theorem tl_mul {a b : Nat} : (td (a * b)).length ≤ (td a).length + (td b).length := tlen_le (by
  rcases Nat.eq_zero_or_pos b with h | h
  · subst h; rw [Nat.mul_zero]; exact Nat.pow_pos (by decide)
  · rw [Nat.pow_add]
    exact Nat.lt_of_lt_of_le (Nat.mul_lt_mul_of_pos_right (tlt_len a) h) (Nat.mul_le_mul_left _ (Nat.le_of_lt (tlt_len b))))
theorem r2_Mul (a b : Int) (ha : (td a.natAbs).length < 134217728) (hb : (td b.natAbs).length < 134217728) : CallOK Tryz.prog 76 [zZ a, zZ b] [] (zZ (a * b)) [] [] := by
  have k1 := r_Mul a.natAbs b.natAbs (by omega) (by omega)
  have k2 := r2_From' (signed_mul a b) (Nat.lt_of_le_of_lt tl_mul (by omega))
  refine callV (Z := [2, 3]) tabOK mixedOK Tryz.func76 rfl (by kernel_rfl) rfl rfl (by kernel_rfl) rfl ?_
  intro W0 w0 ρ0 hE
  conv => whnf
  (repeat ((first | refine step_i (by kernel_rfl) ?_ | refine g_c (by assumption) ?_ | refine g_o (op_loadA rfl (ev_ok rfl) (tgt rfl) rfl (Nat.succ_ne_zero _) rfl) ?_ | refine g_o (op_fieldA rfl (ev_ok rfl) (tgt rfl) rfl rfl (Nat.succ_ne_zero _) rfl) ?_); conv => whnf))
  exact Recast.refl _

theorem r2_Of (n : Int) (h0 : -9223372036854775808 ≤ n) (h1 : n < 9223372036854775808) : CallOK Tryz.prog 80 [.val (.int .i64 n)] [] (zZ n) [] [] := by
  have k1 := r_Of n.natAbs (by omega)
  have hl : (td n.natAbs).length < 1099511627776 := Nat.lt_of_le_of_lt (tlen_le (k := 5) (by omega)) (by decide)
  refine callV (Z := []) tabOK mixedOK Tryz.func80 rfl (by kernel_rfl) rfl rfl (by kernel_rfl) rfl ?_
  intro W0 w0 ρ0 hE
  conv => whnf
  by_cases hn : n < 0
  · have t1 : decide (n < 0) = true := decide_eq_true hn
    have e1 : IntKind.i64.wrap (n + 1) = n + 1 := wrap_i64 (by omega) (by omega)
    have e2 : IntKind.i64.wrap (0 - (n + 1)) = -(n + 1) := by rw [Int.zero_sub]; exact wrap_i64 (by omega) (by omega)
    have e3 : IntKind.u64.wrap (-(n + 1)) = -(n + 1) := wrap_u64 (by omega) (by omega)
    have e4 : IntKind.u64.wrap (-(n + 1) + 1) = (n.natAbs : Int) := by rw [wrap_u64 (by omega) (by omega)]; omega
    have k2 := r2_From' (neg := true) (n := n.natAbs) (z := n) (by show -(n.natAbs : Int) = n; omega) hl
    have e : zZ n = .agg [.val (.bool true), nN n.natAbs] := by rw [zZ, t1]
    rw [e] at *
    (repeat ((first | refine step_w1 rfl rfl ?_ | refine g_c (by assumption) ?_ | rw [t1] | rw [e1] | rw [e2] | rw [e3] | rw [e4]); conv => whnf))
    exact Recast.refl _
  · have t1 : decide (n < 0) = false := decide_eq_false hn
    have e1 : IntKind.u64.wrap n = (n.natAbs : Int) := by rw [wrap_u64 (by omega) (by omega)]; omega
    have k2 := r2_From' (neg := false) (n := n.natAbs) (z := n) (by show (n.natAbs : Int) = n; omega) hl
    have e : zZ n = .agg [.val (.bool false), nN n.natAbs] := by rw [zZ, t1]
    rw [e] at *
    (repeat ((first | refine step_w2 rfl rfl ?_ | refine g_c (by assumption) ?_ | rw [t1] | rw [e1]); conv => whnf))
    exact Recast.refl _

theorem r3_one : CallOK Tryz.prog 107 [] [] (nN 1) [] [] := by
  have k1 := r_Of 1 (by decide)
  refine callV (Z := []) tabOK mixedOK Tryz.func107 rfl (by kernel_rfl) rfl rfl (by kernel_rfl) rfl ?_
  intro W0 w0 ρ0 hE
  conv => whnf
  (repeat (first | (refine g_c (by assumption) ?_; conv => whnf))); (first | exact Recast.refl _ | exact Frz.recast (Recast.refl _) rfl | (refine Frz.one rfl rfl ?_; skip) | (refine Frz.tup ?_; skip))
theorem r3_Den (q : Rat) (h : (td q.den).length < 134217728) : CallOK Tryz.prog 74 [fF q] [] (nN q.den) [] [] := by
  have k0 := r3_one
  have k1 := r_Add (q.den - 1) 1 (Nat.lt_of_le_of_lt (td_len_mono (Nat.sub_le q.den 1)) (by omega)) (by decide)
  rw [den_pred] at k1
  refine callV (Z := [1]) tabOK mixedOK Tryz.func74 rfl (by kernel_rfl) rfl rfl (by kernel_rfl) rfl ?_
  intro W0 w0 ρ0 hE
  conv => whnf
  (repeat ((first | refine step_i (by kernel_rfl) ?_ | refine g_c (by assumption) ?_ | refine g_o (op_loadA rfl (ev_ok rfl) (tgt rfl) rfl (Nat.succ_ne_zero _) rfl) ?_ | refine g_o (op_fieldA rfl (ev_ok rfl) (tgt rfl) rfl rfl (Nat.succ_ne_zero _) rfl) ?_); conv => whnf)); (first | exact Recast.refl _ | exact Frz.recast (Recast.refl _) rfl | (refine Frz.one rfl rfl ?_; skip) | (refine Frz.tup ?_; skip))
theorem signed_num {n : Int} {d : Nat} (hd : d ≠ 0) : signed (decide (n < 0)) (n.natAbs / Nat.gcd n.natAbs d) = (mkRat n d).num := by
  rw [num_mkRat hd]
  have hdv : Nat.gcd n.natAbs d ∣ n.natAbs := Nat.gcd_dvd_left _ _
  unfold signed
  by_cases hn : n < 0
  · rw [decide_eq_true hn, if_pos rfl]
    have : n = -(n.natAbs : Int) := by omega
    rw [Int.natCast_ediv, ← Int.neg_ediv_of_dvd (Int.natCast_dvd_natCast.2 hdv), ← this]
  · rw [decide_eq_false hn]
    simp only [Bool.false_eq_true, if_false]
    have : n = (n.natAbs : Int) := by omega
    rw [Int.natCast_ediv, ← this]
theorem r3_From (n : Int) (d : Nat) (hd : d ≠ 0) (h1 : (td n.natAbs).length < 268435456) (h2 : (td d).length < 268435456) : CallOK Tryz.prog 75 [zZ n, nN d] [] (fF (mkRat n d)) [] [] := by
  have hg : Nat.gcd n.natAbs d ≠ 0 := fun h => hd (Nat.gcd_eq_zero_iff.1 h).2
  have hgl : (td (Nat.gcd n.natAbs d)).length < 268435456 := td_lt_len (Nat.le_of_dvd (by omega) (Nat.gcd_dvd_right _ _)) h2
  have hq : d / Nat.gcd n.natAbs d ≠ 0 := Nat.div_ne_zero_iff.2 ⟨hg, Nat.le_of_dvd (by omega) (Nat.gcd_dvd_right _ _)⟩
  have k1 := r_Gcd n.natAbs d h1 h2
  have k2 := r_Div n.natAbs (Nat.gcd n.natAbs d) (by omega) h1 hgl
  have k3 := r_Div d (Nat.gcd n.natAbs d) (by omega) h2 hgl
  have k4 := r2_From' (signed_num (n := n) hd) (td_lt_len (Nat.div_le_self _ _) (by omega))
  have k5 := r3_one
  have k6 : CallOK Tryz.prog 111 [nN (d / Nat.gcd n.natAbs d), nN 1] [] (nN ((mkRat n d).den - 1)) [] [] := by
    rw [den_mkRat hd]; exact r_Sub (d / Nat.gcd n.natAbs d) 1 (Nat.pos_of_ne_zero hq) (td_lt_len (Nat.div_le_self _ _) (by omega))
  refine callV (Z := [2]) tabOK mixedOK Tryz.func75 rfl (by kernel_rfl) rfl rfl (by kernel_rfl) rfl ?_
  intro W0 w0 ρ0 hE
  conv => whnf
  (repeat (first | (refine g_c (by assumption) ?_; conv => whnf) | (refine g_o (op_loadA rfl (ev_ok rfl) (tgt rfl) rfl (Nat.succ_ne_zero _) rfl) ?_; conv => whnf) | (refine g_o (op_fieldA rfl (ev_ok rfl) (tgt rfl) rfl rfl (Nat.succ_ne_zero _) rfl) ?_; conv => whnf)))
  exact Recast.refl _

theorem tl_fs {q : Rat} {M : Nat} (h : fs q ≤ M) : (td q.num.natAbs).length ≤ M ∧ (td q.den).length ≤ M := by
  have h1 := fsz_num q; have h2 := fsz_den q
  unfold fs at h
  exact ⟨tl_sz (by omega), tl_sz (by omega)⟩
theorem r3_Int (n : Int) (h0 : -9223372036854775808 ≤ n) (h1 : n < 9223372036854775808) : CallOK Tryz.prog 48 [.val (.int .i64 n)] [] (fF (n : Rat)) [] [] := by
  have k1 := r2_Of n h0 h1
  have e : fF (n : Rat) = .agg [zZ n, vecA 1 []] := by rw [fF]; rfl
  rw [e]
  refine callF (Z := []) tabOK mixedOK Tryz.func48 rfl (by kernel_rfl) (by first | rfl | (simp [keylessL, keyless, keylessL_map, *]; done)) (by first | rfl | (simp [keylessL, keyless, keylessL_map, *]; done)) (by kernel_rfl) rfl ?_
  intro w0 ρ0 hE
  conv => whnf
  (repeat (first | (refine g_c (by assumption) ?_; conv => whnf))); (first | exact Recast.refl _ | exact Frz.recast (Recast.refl _) rfl | (refine Frz.one rfl rfl ?_; (repeat (first | exact FrzC.keyless rfl | exact FrzL.nil | refine FrzL.cons ?_ ?_ | exact FrzC.nilS | refine FrzC.agg ?_))) | (refine Frz.tup ?_; skip))
theorem r3_Sign (q : Rat) (h : (td q.num.natAbs).length < 1099511627776) : CallOK Tryz.prog 124 [fF q] [] (.val (.int .i64 q.num.sign)) [] [] := by
  have k1 := r2_Sign q.num h
  refine callV (Z := [1]) tabOK mixedOK Tryz.func124 rfl (by kernel_rfl) rfl rfl (by kernel_rfl) rfl ?_
  intro W0 w0 ρ0 hE
  conv => whnf
  (repeat (first | (refine g_c (by assumption) ?_; conv => whnf) | (refine g_o (op_loadA rfl (ev_ok rfl) (tgt rfl) rfl (Nat.succ_ne_zero _) rfl) ?_; conv => whnf) | (refine g_o (op_fieldA rfl (ev_ok rfl) (tgt rfl) rfl rfl (Nat.succ_ne_zero _) rfl) ?_; conv => whnf))); (first | exact Recast.refl _ | exact Frz.recast (Recast.refl _) rfl | (refine Frz.one rfl rfl ?_; skip) | (refine Frz.tup ?_; skip))
theorem r3_Mul (a b : Rat) (h : fs a + fs b ≤ 100000000) : CallOK Tryz.prog 45 [fF a, fF b] [] (fF (a * b)) [] [] := by
  obtain ⟨a1, a2⟩ := tl_fs (q := a) (Nat.le_refl _)
  obtain ⟨b1, b2⟩ := tl_fs (q := b) (Nat.le_refl _)
  have m1 := tl_mul (a := a.num.natAbs) (b := b.num.natAbs)
  have m3 := tl_mul (a := a.den) (b := b.den)
  have k3 := r2_Mul a.num b.num (by omega) (by omega)
  have k6 := r3_Den a (by omega)
  have k7 := r3_Den b (by omega)
  have k8 := r_Mul a.den b.den (by omega) (by omega)
  have k9 := r3_From (a.num * b.num) (a.den * b.den) (Nat.mul_ne_zero a.den_nz b.den_nz) (by rw [Int.natAbs_mul]; omega) (by omega)
  rw [← Rat.mul_def'] at k9
  clear m1 m3
  refine callV (Z := [2, 3]) tabOK mixedOK Tryz.func45 rfl (by kernel_rfl) rfl rfl (by kernel_rfl) rfl ?_
  intro W0 w0 ρ0 hE
  conv => whnf
  (repeat ((first | refine step_i (by kernel_rfl) ?_ | refine g_c (by assumption) ?_ | refine g_o (op_loadA rfl (ev_ok rfl) (tgt rfl) rfl (Nat.succ_ne_zero _) rfl) ?_ | refine g_o (op_fieldA rfl (ev_ok rfl) (tgt rfl) rfl rfl (Nat.succ_ne_zero _) rfl) ?_); conv => whnf))
  exact Recast.refl _
theorem r3_Div (a b : Rat) (hb : b ≠ 0) (h : fs a + fs b ≤ 100000000) : CallOK Tryz.prog 98 [fF a, fF b] [] (fF (a / b)) [] [] := by
  have hn : b.num ≠ 0 := fun h => hb (Rat.num_eq_zero.1 h)
  obtain ⟨b1, b2⟩ := tl_fs (q := b) (Nat.le_refl _)
  have k1 := r3_Sign b (by omega)
  have t1 : (b.num.sign == 0) = false := beq_false_of_ne (fun h => hn (Int.sign_eq_zero_iff_zero.1 h))
  have k2 := r3_Den b (by omega)
  have k3 := r2_From (decide (b.num < 0)) b.den (by omega)
  have e1 : decide (b.num < 0) = decide (b.num.sign < 0) := decide_eq_decide.2 Int.sign_neg_iff.symm
  have k4 := r3_From (signed (decide (b.num < 0)) b.den) b.num.natAbs (by omega) (by rw [signed_abs]; omega) (by omega)
  rw [e1, mkRat_inv hn, ← e1] at k4
  have k5 := r3_Mul a b⁻¹ (by have := fs_inv b; omega)
  rw [← Rat.div_def] at k5
  refine callV (Z := [2, 3]) tabOK mixedOK Tryz.func98 rfl (by kernel_rfl) rfl rfl (by kernel_rfl) rfl ?_
  intro W0 w0 ρ0 hE
  conv => whnf
  (repeat ((first | refine step_w2 rfl rfl ?_ | refine step_i (by kernel_rfl) ?_ | refine g_c (by assumption) ?_ | refine g_o (op_loadA rfl (ev_ok rfl) (tgt rfl) rfl (Nat.succ_ne_zero _) rfl) ?_ | refine g_o (op_fieldA rfl (ev_ok rfl) (tgt rfl) rfl rfl (Nat.succ_ne_zero _) rfl) ?_ | rw [t1]); conv => whnf))
  exact Recast.refl _
theorem r3_Of (n d : Int) (hn0 : -9223372036854775808 ≤ n) (hn1 : n < 9223372036854775808) (hd0 : -9223372036854775808 ≤ d) (hd1 : d < 9223372036854775808) (hd : d ≠ 0) : CallOK Tryz.prog 65 [.val (.int .i64 n), .val (.int .i64 d)] [] (fF ((n : Rat) / (d : Rat))) [] [] := by
  have k1 := r3_Int n hn0 hn1
  have k2 := r3_Int d hd0 hd1
  have f1 := fs_int hn0 hn1
  have f2 := fs_int hd0 hd1
  have k3 := r3_Div (n : Rat) (d : Rat) (fun h => hd (by have := congrArg Rat.num h; simpa using this)) (by omega)
  refine callV (Z := []) tabOK mixedOK Tryz.func65 rfl (by kernel_rfl) rfl rfl (by kernel_rfl) rfl ?_
  intro W0 w0 ρ0 hE
  conv => whnf
  (repeat (first | (refine g_c (by assumption) ?_; conv => whnf)))
  exact Recast.refl _
end Go.Proofs.YtdcaodkjofkmgaaGreatDoor

namespace Go.Proofs.YtdcaodkjofkmgaaGreatDoor
open Go.Sx
set_option linter.unusedSimpArgs false
set_option linter.unusedVariables false
set_option maxRecDepth 100000

section
variable {P : Program} {T : List (TypeId × TI)} {good : List TypeId}

theorem cellsOf_TOK {t : TypeId} {ti : TI} (ht : TOK P t ti) : P.cellsOf t = ti.size := by
  obtain ⟨i, z, e1, e2, _⟩ := ht.info
  simp [Program.cellsOf, e1, e2]

/-- Items that are no arrays. -/
theorem eqItems_run (hT : TabOK P T) (hg : GoodOK P good) {e : TypeId} {te : TI} (hte : tfind T e = some te) (xs ys : List Value) (f : Nat → Bool) : ∀ (is : List Nat),
    (∀ i ∈ is, eqTy T good 10 e ((xs.drop (i * te.size)).take te.size) ((ys.drop (i * te.size)).take te.size) = some (f i)) → ∀ (d : Nat) (w : World), 10 ≤ d → (Op.eqItems d e (P.cellsOf e) xs.toArray ys.toArray is).run P w = .ok (is.all f) w
  | [], _, d, w, _ => by simp [Op.eqItems]
  | i :: is, h, d, w, hd => by
    obtain ⟨ti, h1, h2, h3, h4⟩ := eqTy_run hT hg 10 _ _ _ _ (h i (by simp)) d w hd
    rw [hte] at h1
    cases h1
    have ht := hT.get hte
    have hrest := eqItems_run hT hg hte xs ys f is (fun j hj => h j (by simp [hj])) d w hd
    have p1 := part_run ht (xs := xs.toArray) (off := i * te.size) (fun hk => (h3 hk).1) h2 w
    have p2 := part_run ht (xs := ys.toArray) (off := i * te.size) (fun hk => (h3 hk).2) h2 w
    rw [cellsOf_TOK ht] at hrest ⊢
    simp only [Op.eqItems, Sem.run_bind, p1, p2, Result.andThen_ok, h4, List.all_cons]
    cases f i
    · simp
    · simp [hrest]

theorem eqArr_run (hT : TabOK P T) (hg : GoodOK P good) {t e : TypeId} {ti te : TI} {n : Nat} (hti : tfind T t = some ti) (hk : ti.kind = .arr n e) (hte : tfind T e = some te) (xs ys : List Value) (f : Nat → Bool)
    (h : ∀ i, i < n → eqTy T good 10 e ((xs.drop (i * te.size)).take te.size) ((ys.drop (i * te.size)).take te.size) = some (f i)) (d : Nat) (w : World) (hd : 11 ≤ d) :
    (Op.equalIn d t (.agg xs.toArray) (.agg ys.toArray)).run P w = .ok ((List.range n).all f) w := by
  obtain ⟨d, rfl⟩ : ∃ d', d = d' + 1 := ⟨d - 1, by omega⟩
  have hu := (hT.get hti).kind; rw [hk] at hu
  obtain ⟨i, z, e1, _⟩ := (hT.get hte).info
  rw [run_equalIn_array w d xs.toArray ys.toArray hu e1]
  exact eqItems_run hT hg hte xs ys f _ (fun i hi => h i (List.mem_range.1 hi)) d w (by omega)

variable {o : Oper} {ft : List (Nat × SV)} {fk : List (Nat × Blk)} {c c' : SV}

theorem op_eqlE {t t2 : TypeId} {x y : Operand} {l l' : List Value} {r : Bool} (ho : o.op = .binOp .eql t x y t2) (hx : EvOK ft x c) (hy : EvOK ft y c') (hl : flatC c = some l) (hl' : flatC c' = some l')
    (hr : ∀ w, (Op.equalIn 10000 t (.agg l.toArray) (.agg l'.toArray)).run P w = .ok r w) (hgd : P.eqGuardType P.depth t = false) : OpOK P o ft fk (.val (.bool r)) [] [] :=
  ok_pure fun ρ a w hp => by
    have e1 := flatC_spec hl (hx ρ a hp.hft)
    have e2 := flatC_spec hl' (hy ρ a hp.hft)
    refine ⟨_, ?_, has_val rfl⟩
    simp only [execOp, ho, e1, e2, Sem.run_bind, run_eqGuard_agg w .eql t x y _ _ hgd, Result.andThen_ok, run_eql_struct, hr, Sem.run_pure]
theorem op_neqE {t t2 : TypeId} {x y : Operand} {l l' : List Value} {r : Bool} (ho : o.op = .binOp .neq t x y t2) (hx : EvOK ft x c) (hy : EvOK ft y c') (hl : flatC c = some l) (hl' : flatC c' = some l')
    (hr : ∀ w, (Op.equalIn 10000 t (.agg l.toArray) (.agg l'.toArray)).run P w = .ok r w) (hgd : P.eqGuardType P.depth t = false) : OpOK P o ft fk (.val (.bool (!r))) [] [] :=
  ok_pure fun ρ a w hp => by
    have e1 := flatC_spec hl (hx ρ a hp.hft)
    have e2 := flatC_spec hl' (hy ρ a hp.hft)
    refine ⟨_, ?_, has_val rfl⟩
    simp only [execOp, ho, e1, e2, Sem.run_bind, run_eqGuard_agg w .neq t x y _ _ hgd, Result.andThen_ok, run_neq_struct, hr, Sem.run_pure]
end

theorem g_3F : Tryz.prog.eqGuardType Tryz.prog.depth 40 = false := by kernel_rfl
/-- Three fractions. -/
theorem eq_3F (a0 a1 a2 b0 b1 b2 : Rat) (w : World) : (Op.equalIn 10000 40 (.agg (fracCells a0 ++ (fracCells a1 ++ (fracCells a2 ++ []))).toArray) (.agg (fracCells b0 ++ (fracCells b1 ++ (fracCells b2 ++ []))).toArray)).run Tryz.prog w = .ok (decide (a0 = b0 ∧ a1 = b1 ∧ a2 = b2)) w := by
  have h := eqArr_run tabOK goodOK (t := 40) (e := 36) (n := 3) rfl rfl rfl (fracCells a0 ++ (fracCells a1 ++ (fracCells a2 ++ []))) (fracCells b0 ++ (fracCells b1 ++ (fracCells b2 ++ [])))
    (fun i => match i with | 0 => decide (a0 = b0) | 1 => decide (a1 = b1) | _ => decide (a2 = b2)) (fun i hi => by
      obtain rfl | rfl | rfl : i = 0 ∨ i = 1 ∨ i = 2 := by omega
      · exact q_same a0 b0
      · exact q_same a1 b1
      · exact q_same a2 b2) 10000 w (by decide)
  rw [h]
  congr 1
  show (decide (a0 = b0) && (decide (a1 = b1) && (decide (a2 = b2) && true))) = _
  rw [Bool.eq_iff_iff]; simp
end Go.Proofs.YtdcaodkjofkmgaaGreatDoor

namespace Go.Sx

set_option maxRecDepth 100000

mutual
theorem renS_id : ∀ c : SV, renS (fun k => k) c = c
  | .any => rfl
  | .val _ => rfl
  | .ptr .. => rfl
  | .slc .. => rfl
  | .nat _ => rfl
  | .int _ => rfl
  | .frac _ => rfl
  | .atom _ => rfl
  | .agg cs => by simp only [renS, renL_id cs]
  | .tup cs => by simp only [renS, renL_id cs]
  | .clo f a b => by simp only [renS, renL_id a, renL_id b]
  | .yld k rc ts a => by simp only [renS, renL_id a]
theorem renL_id : ∀ l : List SV, renL (fun k => k) l = l
  | [] => rfl
  | c :: l => by simp only [renL, renS_id c, renL_id l]
end
theorem renB_id (b : Blk) : renB (fun k => k) b = b := by
  obtain ⟨ty, wr, d⟩ := b
  cases d <;> simp only [renB, renD, renL_id]

/-- Data that names no key. -/
def keylessD : Data → Bool
  | .one cs => keylessL cs
  | .loop _ => false
  | _ => true
theorem keylessD_has {ρ ρ' : Rho} (hi : ∀ b o, ρ.imm b = some o → ρ'.imm b = some o) {d : Data} {vs : List Value} (hk : keylessD d = true) (h : DataC ρ d vs) : DataC ρ' d vs := by
  cases d with
  | one cs =>
    obtain ⟨z, h1, h2⟩ := h
    exact ⟨z, keylessL_has hi cs z hk h1, h2⟩
  | seq w xs =>
    obtain ⟨z, h1, h2⟩ := h
    exact ⟨z, HasZ.mono (bareR_le hi _ _) _ _ h1, h2⟩
  | ints kd xs => exact h
  | fracs xs => exact h
  | dead => exact h
  | loop rc => cases hk
theorem keylessD_cells {d : Data} (hk : keylessD d = true) : d.isLoop = false := by cases d <;> first | rfl | cases hk

/-- What is asked of the blocks that a round is handed. -/
structure RoundOK (x : SV) (cap : List SV) (fk upd : List (Nat × Blk)) : Prop where
  px : passable x = true
  pc : cap.all passable = true
  nd : nodupN (keysOf fk) = true
  rx : subN (refs x) (keysOf fk) = true
  rc : subN (refsL cap) (keysOf fk) = true
  rf : subN (refsB fk) (keysOf fk) = true
  lp : ∀ q b, (q, b) ∈ fk → b.data.isLoop = false
  up : ∀ q b, (q, b) ∈ upd → ∃ b0, (q, b0) ∈ fk ∧ b0.wr = true ∧ b0.data.live = true ∧ b.wr = true ∧ b.data.live = true ∧ keylessD b.data = true
  all : ∀ q b, (q, b) ∈ fk → b.wr = true → b.data.live = true → ∃ b', (q, b') ∈ upd

theorem has_cap {ρ : Rho} : ∀ (cap : List SV) (zc : List (List Value)) (ts : List Nat) (tm : Array Value), HasZ ρ cap zc → cap.all passable = true → (List.zipWith mkV cap zc = ts.map fun t => tm.getD t undef) →
    ∀ t c, lk (ts.zip cap) t = some c → Has ρ c (tm.getD t undef)
  | [], zc, ts, tm, _, _, _, t, c, h => by cases ts <;> simp [lk] at h
  | d :: cap, zc, [], tm, hz, _, he, t, c, h => by simp [lk] at h
  | d :: cap, zc, u :: ts, tm, hz, hp, he, t, c, h => by
    simp only [HasZ] at hz
    obtain ⟨y, r, rfl, h1, h2⟩ := hz
    simp only [List.all_cons, Bool.and_eq_true] at hp
    simp only [List.zipWith_cons_cons, List.map_cons, List.cons.injEq] at he
    simp only [List.zip_cons_cons, lk] at h
    cases hb : Nat.beq u t with
    | true =>
      rw [hb] at h
      simp only [Option.some.injEq] at h
      subst h
      obtain rfl := Nat.eq_of_beq_eq_true hb
      rw [← he.1]
      exact (Has_iff hp.1).2 ⟨y, h1, rfl⟩
    | false =>
      rw [hb] at h
      exact has_cap cap r ts tm h2 hp.2 he.2 t c h

def endsU (upd : List (Nat × Blk)) : Post' := fun e _ hp => match e with
  | .normal => ∀ q b, (q, b) ∈ upd → find hp q = some b
  | _ => False

/-- THE CONTRACT OF A ROUND from the walk of the loop's assignment and body. -/
theorem yldK {P : Program} {T : List (TypeId × TI)} {Z : List Nat} (hT : TabOK P T) (hm : P.follows .mixedOrders = true) {k : Nat} {rc : Loop} {p : Nat} {asg bdy : Code} {n : Nat} (hst : rc.state = .ready) (hpd : rc.pending = none)
    (hps : rc.params = #[p]) (hasg : rc.assign = asg) (hbdy : rc.body = bdy) (hn : rc.tmps.size = n) (hpn : p < n) {ts : List Nat} {cap : List SV} {x : SV} {fk upd : List (Nat × Blk)} (hs : RoundOK x cap fk upd)
    (h : ∀ W0 w0 ρ0 l, Env.OK ⟨P, T, W0, w0, n, ρ0, keysOf fk, Z, some l⟩ → cwp ⟨P, T, W0, w0, n, ρ0, keysOf fk, Z, some l⟩ asg (fun e fr' hp' => match e with
      | .normal => (hp'.all (fun y => !y.2.data.isLoop)) = true ∧ ∀ w1, Env.OK ⟨P, T, W0, w1, n, ρ0, keysOf fk, Z, some l⟩ → (∃ r, w1.heap[l]? = some (.loop r)) → ¬ W0 l →
          cwp ⟨P, T, W0, w1, n, ρ0, keysOf fk, Z, some l⟩ bdy (endsU upd) fr' hp'
      | _ => False) ((p, x) :: ts.zip cap) fk) :
    YldOK P k rc ts cap [x] ((k, ⟨0, true, .loop rc⟩) :: fk) (.val (.bool true)) [] ((k, ⟨0, true, .loop rc⟩) :: upd) := by
  intro ρ w z zc l t hz hzc hcap hkl hpw
  obtain ⟨lvs, lex, hl, hl3, hl4⟩ : ∃ vs ex : List Value, w.heap[l]? = some (.loop rc) ∧ DataC ρ (.loop rc) vs ∧ (vs ++ ex).length = t ∧ ∀ v ∈ ex, v.oneCell' = true := by
    rcases hpw.hfk k _ (List.mem_cons_self ..) with h0 | ⟨b', t', vs, ex, g1, g2, g3⟩ | ⟨g1, _⟩
    · cases h0
    · rw [hkl] at g1; cases g1; exact ⟨vs, ex, g2, g3⟩
    · rw [hkl] at g1; cases g1
  have himm : ρ.imm l = none := hpw.immw k _ (l, t) (List.mem_cons_self ..) rfl rfl hkl
  have hlt : l < w.heap.size := (Array.getElem?_eq_some_iff.1 hl).1
  simp only [HasZ] at hz
  obtain ⟨y, r, rfl, hxy, rfl⟩ := hz
  have hargs : (List.zipWith mkV [x] [y]).toArray = #[mkV x y] := rfl
  rw [hargs]
  have hy := run_yield (P := P) (args := #[mkV x y]) hl (by rw [hps]; rfl)
  refine ⟨_, _, _, _, hy, ?_⟩
  rw [hps, hasg, hbdy]
  have htm : ((#[p].zip #[mkV x y]).foldl (fun tmps (t, a) => tmps.setIfInBounds t a) rc.tmps) = rc.tmps.setIfInBounds p (mkV x y) := by simp
  rw [htm]
  -- the map of the round
  have hmem : ∀ {q b}, (q, b) ∈ fk → (q, b) ∈ (k, (⟨0, true, .loop rc⟩ : Blk)) :: fk := fun h => List.mem_cons_of_mem _ h
  let ρ1 : Rho := ⟨fun q => if q ∈ keysOf fk then ρ.key q else none, ρ.imm, ρ.glob⟩
  have hρ1 : ∀ q ∈ keysOf fk, ρ.key q = ρ1.key q := fun q hq => by
    show _ = if q ∈ keysOf fk then _ else _
    rw [if_pos hq]
  have hρ1' : ∀ q y, ρ1.key q = some y → q ∈ keysOf fk := fun q y hx => by
    have hx : (if q ∈ keysOf fk then ρ.key q else none) = some y := hx
    by_cases hq : q ∈ keysOf fk
    · exact hq
    · rw [if_neg hq] at hx; cases hx
  have hnd := nodupN_spec hs.nd
  let W0 : Nat → Prop := fun b => ∃ q blk t, (q, blk) ∈ upd ∧ ρ1.key q = some (b, t)
  have hcells : ∀ q b y, (q, b) ∈ fk → b.data.live = true → ρ.key q = some y → ∃ vs ex : List Value, w.heap[y.1]? = some (.cells (vs ++ ex).toArray b.ty (0, 0)) := by
    intro q b y hq hlv hy
    rcases hpw.hfk q b (hmem hq) with h0 | ⟨b', t', vs, ex, g1, g2, _⟩ | ⟨g1, _⟩
    · rw [hlv] at h0; cases h0
    · rw [hy] at g1; cases g1; rw [Data.obj_cells (hs.lp q b hq)] at g2; exact ⟨vs, ex, g2⟩
    · rw [hy] at g1; cases g1
  have hW0l : ¬ W0 l := by
    rintro ⟨q, blk, t', hq, hkq⟩
    obtain ⟨b0, g1, g2, g3, _⟩ := hs.up q blk hq
    rw [← hρ1 q (keysOf_mem.2 ⟨b0, g1⟩)] at hkq
    obtain ⟨vs, ex, g4⟩ := hcells q b0 _ g1 g3 hkq
    rw [hl] at g4; cases g4
  have hE : Env.OK ⟨P, T, W0, w, n, ρ1, keysOf fk, Z, some l⟩ := ⟨hT, hm, hρ1'⟩
  have hx1 : HasC ρ1 x y := by
    have := (renS_iff (ρ := ρ1) (ρ' := ρ) (σ := fun k => k) rfl x y (fun j hj => hρ1 j (subN_spec hs.rx j hj))).1 (by rw [renS_id]; exact hxy)
    exact this
  have hc1 : HasZ ρ1 cap zc := by
    have := (renL_iff (ρ := ρ1) (ρ' := ρ) (σ := fun k => k) rfl cap zc (fun j hj => hρ1 j (subN_spec hs.rc j hj))).1 (by rw [renL_id]; exact hzc)
    exact this
  have hR : R W0 w n ρ1 (fn ((p, x) :: ts.zip cap) fk) { tmps := rc.tmps.setIfInBounds p (mkV x y), defers := [] } w := {
    defers := .nil
    size := by simp [hn]
    fr := fun t sv ht => by
      simp only [fn, LV.sv, lk] at ht
      cases hb : Nat.beq p t with
      | true =>
        rw [hb] at ht
        simp only [Option.some.injEq] at ht
        subst ht
        obtain rfl := Nat.eq_of_beq_eq_true hb
        rw [show (rc.tmps.setIfInBounds p (mkV x y)).getD p undef = mkV x y from by simp [Array.getD_eq_getD_getElem?, hn, hpn]]
        exact (Has_iff hs.px).2 ⟨y, hx1, rfl⟩
      | false =>
        rw [hb] at ht
        have hne : p ≠ t := by rintro rfl; simp [Nat.beq_refl] at hb
        rw [show (rc.tmps.setIfInBounds p (mkV x y)).getD t undef = rc.tmps.getD t undef from by simp [Array.getD_eq_getD_getElem?, Array.getElem?_setIfInBounds_ne hne]]
        exact has_cap cap zc ts rc.tmps hc1 hs.pc hcap t sv ht
    pres := .refl _ _
    hp := {
      blk := fun q b hb => by
        have hq := find_mem (show find fk q = some b from hb)
        have h1 := hpw.hfk q b (hmem hq)
        have := (renB_iff (ρ := ρ1) (ρ' := ρ) (σ := fun k => k) (w := w) rfl q b (hρ1 q (keysOf_mem.2 ⟨b, hq⟩)) (fun j hj => hρ1 j (subN_spec hs.rf j (refsB_mem hq j hj)))).1 (by rw [renB_id]; exact h1)
        exact this
      sep := fun q q' a a' b b' ha ha' hne he hb hb' hv hv' => by
        have hq := find_mem (show find fk q = some b from hb)
        have hq' := find_mem (show find fk q' = some b' from hb')
        rw [← hρ1 q (keysOf_mem.2 ⟨b, hq⟩)] at ha
        rw [← hρ1 q' (keysOf_mem.2 ⟨b', hq'⟩)] at ha'
        exact hpw.sep q q' a a' b b' (hmem hq) (hmem hq') ha ha' hne he hv hv'
      own := fun q b a hb hw hv ha => by
        have hq := find_mem (show find fk q = some b from hb)
        obtain ⟨b', hu⟩ := hs.all q b hq hw hv
        exact .inr ⟨q, b', a.2, hu, ha⟩
      dom := fun q a ha => by
        obtain ⟨b, hb⟩ := keysOf_mem.1 (hρ1' q a ha)
        exact ⟨b, by simp only [fn, LV.blk]; exact find_of_mem hnd hb⟩
      imm := hpw.imm
      immw := fun q b a hb hw hv ha => by
        have hq := find_mem (show find fk q = some b from hb)
        rw [← hρ1 q (keysOf_mem.2 ⟨b, hq⟩)] at ha
        exact hpw.immw q b a (hmem hq) hw hv ha } }
  refine roundIn_of_wpIn (F := Fence.wide) (n := 0) trivial ?_
  have hwp := cwp_sound hE asg _ _ _ (h W0 w ρ1 l hE) _ w ⟨ρ1, ⟨.refl _, (fun b o hb => .inl hb), (fun _ _ => rfl)⟩, (fun q hq => by
    obtain ⟨b, hb⟩ := keysOf_mem.1 hq
    simp only [fn, LV.blk, find_of_mem hnd hb]
    simp), hR⟩
  refine wpIn_mono hwp ?_
  rintro e a1 w1 ⟨fr1, hp1, hK1, ρ2, hext, hfx, hR2⟩
  cases e with
  | normal =>
    obtain ⟨hnl, hK1⟩ := hK1
    have hl1 : w1.heap[l]? = some (.loop rc) := by rw [hR2.pres.block l hlt hW0l]; exact hl
    have hlt1 : l < w1.heap.size := (Array.getElem?_eq_some_iff.1 hl1).1
    refine ⟨_, run_beginRound hl1 hst, ?_⟩
    obtain ⟨wb, hwb⟩ : ∃ wb, w.putObj l (.loop { rc with state := .busy }) = wb := ⟨_, rfl⟩
    have hwbl : wb.heap[l]? = some (.loop { rc with state := .busy }) := by rw [← hwb]; exact World.putObj_heap_same hlt
    have hwbo : ∀ b, b ≠ l → wb.heap[b]? = w.heap[b]? := fun b hb => by rw [← hwb]; exact World.putObj_heap_other hb
    have hwbs : wb.heap.size = w.heap.size := by rw [← hwb]; exact World.putObj_size
    have hE2 : Env.OK ⟨P, T, W0, wb, n, ρ1, keysOf fk, Z, some l⟩ := ⟨hT, hm, hρ1'⟩
    have hnokey : ∀ q b a, find hp1 q = some b → b.data.live = true → ρ2.key q = some a → a.1 ≠ l := by
      intro q b a hb hv ha he
      rcases hR2.hp.blk q b (by simp only [fn, LV.blk]; exact hb) with h0 | ⟨b', t', vs, ex, g1, g2, _⟩ | ⟨g1, _⟩
      · rw [hv] at h0; cases h0
      · rw [ha] at g1; cases g1
        have hnb : b.data.isLoop = false := by
          have := List.all_eq_true.1 hnl _ (find_mem hb)
          simpa using this
        rw [Data.obj_cells hnb] at g2
        rw [show b' = l from he] at g2
        rw [hl1] at g2; cases g2
      · rw [ha] at g1; cases g1
    have hR3 : R W0 wb n ρ2 (fn fr1 hp1) a1 (w1.putObj l (.loop { rc with state := .busy })) := {
      defers := by
        obtain ⟨Ds, d1, d2, d3⟩ := hR2.defers
        refine ⟨Ds, d1, d2, fun D hD => ?_⟩
        obtain ⟨e1, e2, e3⟩ := d3 D hD
        refine ⟨by rw [hwbs]; exact e1, ?_, e3⟩
        rw [World.putObj_heap_other (by rintro rfl; rw [hl1] at e2; cases e2)]
        exact e2
      size := hR2.size
      fr := hR2.fr
      pres := by
        refine ⟨?_, ?_, ?_, ?_, fun b hb hw => ?_⟩
        · rw [← hwb]; exact hR2.pres.os
        · rw [← hwb]; exact hR2.pres.tape
        · rw [← hwb]; exact hR2.pres.output
        · rw [hwbs, World.putObj_size]; exact hR2.pres.size
        · by_cases he : b = l
          · subst he; rw [hwbl]; exact World.putObj_heap_same hlt1
          · rw [World.putObj_heap_other he, hwbo b he]
            exact hR2.pres.block b (by rw [← hwbs]; exact hb) hw
      hp := {
        blk := fun q b hb => by
          rcases hR2.hp.blk q b hb with h0 | ⟨b', t', vs, ex, g1, g2, g3⟩ | h0
          · exact .inl h0
          · cases hv : b.data.live with
            | false => exact .inl hv
            | true =>
              refine .inr (.inl ⟨b', t', vs, ex, g1, ?_, g3⟩)
              rw [World.putObj_heap_other (hnokey q b _ (by simpa only [fn, LV.blk] using hb) hv g1)]
              exact g2
          · exact .inr (.inr h0)
        sep := hR2.hp.sep
        own := fun q b a hb hw hv ha => by rw [hwbs]; exact hR2.hp.own q b a hb hw hv ha
        dom := hR2.hp.dom
        imm := fun b o hb => by
          have := hR2.hp.imm b o hb
          by_cases he : b = l
          · subst he
            exfalso
            rcases hext.imm b o hb with h1 | h1
            · rw [show ρ1.imm b = none from himm] at h1; cases h1
            · exact absurd hlt (Nat.not_lt.2 h1)
          · rw [World.putObj_heap_other he]; exact this
        immw := hR2.hp.immw } }
    have hwp2 := cwp_sound hE2 bdy _ _ _ (hK1 wb hE2 ⟨_, hwbl⟩ hW0l) a1 _ ⟨ρ2, ⟨hext.le, (fun b o hb => by show _ ∨ wb.heap.size ≤ b; rw [hwbs]; exact hext.imm b o hb), hext.fix⟩, hfx, hR3⟩
    refine wpIn_mono hwp2 ?_
    rintro e a2 w3 ⟨fr2, hp2, hK2, ρ3, hext3, hfx3, hR4⟩
    cases e with
    | normal =>
      have hl5 : w3.heap[l]? = some (.loop { rc with state := .busy }) := by rw [hR4.pres.block l (by rw [hwbs]; exact hlt) hW0l]; exact hwbl
      have hlt3 : l < w3.heap.size := (Array.getElem?_eq_some_iff.1 hl5).1
      have hrec : ({ ({ rc with state := .busy } : Loop) with state := if (none : Option Code).isNone then .ready else .done, pending := none } : Loop) = rc := by
        cases rc
        simp only at hst hpd
        subst hst; subst hpd
        rfl
      have hend := run_endRound (P := P) none hl5
      rw [hrec] at hend
      have hkey3 : ∀ q ∈ keysOf fk, ρ3.key q = ρ.key q := fun q hq => by rw [hext3.fix q hq]; exact (hρ1 q hq).symm
      have hupdf : ∀ q b, (q, b) ∈ upd → q ∈ keysOf fk := fun q b hq => by
        obtain ⟨b0, g1, _⟩ := hs.up q b hq
        exact keysOf_mem.2 ⟨b0, g1⟩
      refine ⟨_, _, hend, .bool true, ⟨ρ.key, ρ3.imm, ρ3.glob⟩, rfl, ⟨⟨fun _ _ hx => hx, fun b o hb => hext3.le.imm b o hb⟩, has_val rfl, fun _ _ => rfl, ?_, ?_, ?_, (fun _ _ _ hq => by cases hq), (fun _ _ _ _ _ _ hq => by cases hq), ?_⟩⟩
      · refine ⟨?_, ?_, ?_, ?_, fun b hb hw => ?_⟩
        · have := hR4.pres.os; rw [← hwb] at this; exact this
        · have := hR4.pres.tape; rw [← hwb] at this; exact this
        · have := hR4.pres.output; rw [← hwb] at this; exact this
        · rw [World.putObj_size, ← hwbs]; exact hR4.pres.size
        · have hbl : b ≠ l := by
            rintro rfl
            exact hw ⟨k, _, t, List.mem_cons_self .., hkl⟩
          rw [World.putObj_heap_other hbl, hR4.pres.block b (by rw [hwbs]; exact hb) ?_, hwbo b hbl]
          rintro ⟨q, blk, t', hq, hkq⟩
          rw [← hρ1 q (hupdf q blk hq)] at hkq
          exact hw ⟨q, blk, t', List.mem_cons_of_mem _ hq, hkq⟩
      · intro q b hq
        rcases hq with hq | hq
        · rcases List.mem_cons.1 hq with hq | hq
          · cases hq
            refine .inr (.inl ⟨l, t, lvs, lex, hkl, World.putObj_heap_same hlt3, ?_, hl4⟩)
            exact hl3
          · obtain ⟨b0, _, _, _, _, g5, g6⟩ := hs.up q b hq
            rcases hR4.hp.blk q b (by simp only [fn, LV.blk]; exact hK2 q b hq) with h0 | ⟨b', t', vs, ex, g1, g2, g3, g4⟩ | ⟨g1, g2⟩
            · rw [g5] at h0; cases h0
            · refine .inr (.inl ⟨b', t', vs, ex, by rw [← hkey3 q (hupdf q b hq)]; exact g1, ?_, keylessD_has (ρ := ρ3) (ρ' := ⟨ρ.key, ρ3.imm, ρ3.glob⟩) (fun _ _ h => h) g6 g3, g4⟩)
              rw [World.putObj_heap_other ?_]
              · exact g2
              · rintro rfl
                rw [Data.obj_cells (keylessD_cells g6)] at g2
                rw [hl5] at g2; cases g2
            · exact .inr (.inr ⟨by rw [← hkey3 q (hupdf q b hq)]; exact g1, g2⟩)
        · cases hq
      · intro q b b' h1 _ h3 _
        rcases List.mem_cons.1 h1 with h1 | h1
        · cases h1; cases h3
        · obtain ⟨_, _, _, _, _, g5, _⟩ := hs.up q b h1
          rw [g5] at h3; cases h3
      · intro b o hb
        rcases hext3.imm b o hb with h1 | h1
        · exact .inl h1
        · have h1 : w.heap.size ≤ b := by rw [← hwbs]; exact h1
          refine .inr ⟨h1, ?_, fun _ _ _ hq => by cases hq⟩
          rw [World.putObj_heap_other (by omega)]
          exact hR4.hp.imm b o hb
    | _ => exact hK2.elim
  | _ => exact hK1.elim

theorem enter_run {P : Program} {ro : Option Nat} {w : World} (f : FuncId) (tmps : Array Value) (ps : Array Tmp) (asg bdy : Code) (hro : ∀ l, ro = some l → ∃ r, w.heap[l]? = some (.loop r)) :
    ∃ l mark W1 D0, (Instr.enterLoop f tmps ps asg bdy ro).run P w = .ok (l, mark) W1 ∧ W1.heap[l]? = some (.loop { state := .ready, pending := none, fn := f, tmps, params := ps, assign := asg, body := bdy, defers := D0 }) ∧
      w.heap.size ≤ l ∧ Pres (fun _ => False) w W1 ∧ (mark = [] ∨ ∃ D, mark = [mk1 D] ∧ w.heap.size ≤ D ∧ W1.heap[D]? = some (.deferred (some []))) := by
  cases ro with
  | none =>
    refine ⟨_, _, _, w.heap.size, run_enterLoop_outer f tmps ps asg bdy, ?_, by omega, ?_, .inr ⟨w.heap.size, rfl, Nat.le_refl _, ?_⟩⟩
    · have := World.alloc_heap_new (w.alloc (.deferred (some []))) (.loop { state := .ready, pending := none, fn := f, tmps, params := ps, assign := asg, body := bdy, defers := w.heap.size })
      rwa [World.size_alloc] at this
    · exact .of_below (((RowKit.Below.refl _ w).alloc (Nat.le_refl _) _).alloc (by simp) _)
    · exact (RowKit.Below.heap_alloc _ _ _ (by simp)).trans (World.alloc_heap_new w _)
  | some l =>
    obtain ⟨r, hr⟩ := hro l rfl
    refine ⟨_, _, _, r.defers, run_enterLoop_inner hr f tmps ps asg bdy, World.alloc_heap_new w _, Nat.le_refl _, ?_, .inl rfl⟩
    exact .of_below ((RowKit.Below.refl _ w).alloc (Nat.le_refl _) _)

/-- THE STATEMENT 'for .. := range g': by the iterator's contract at whatever record the loop has. -/
theorem SWx_range {E : Env} {g : Operand} {ps : Array Tmp} {asg bdy : Code} {K : Post'} {fr : List (Nat × SV)} {hp : List (Nat × Blk)} {f : FuncId} {icap : List SV} (kl : Nat) (ts : List Nat) (cap : List SV) (fk upd : List (Nat × Blk)) {cc : SV} (L : List Nat)
    (hg : ev (pick fr L) g = some (.clo f [] icap)) (hro : ∀ l, E.ro = some l → (∃ r, E.w0.heap[l]? = some (.loop r)) ∧ ¬ E.W0 l)
    (hcap : evs (pick fr L) (ts.map Operand.tmp) = some cap) (hf : FnOK E.P f)
    (hcall : ∀ rc : Loop, rc.state = .ready → rc.pending = none → rc.params = ps → rc.assign = asg → rc.body = bdy → rc.tmps.size = E.n →
      CallOK E.P f (.yld kl rc ts cap :: icap) ((kl, ⟨0, true, .loop rc⟩) :: fk) cc [] ((kl, ⟨0, true, .loop rc⟩) :: upd))
    (hkl : find hp kl = none) (hfk : ∀ j b, (j, b) ∈ fk → find hp j = some b)
    (hupd : ∀ j b, (j, b) ∈ upd → ∃ b0, (j, b0) ∈ fk ∧ b0.wr = true ∧ b0.data.live = true ∧ b.wr = true) (hlv : ∀ j b, (j, b) ∈ upd → b.data.live = true ∧ keylessD b.data = true)
    (hK : K .normal fr (layH upd hp)) : SWx E (.rangeFunc g ps asg bdy) K fr hp := by
  refine ⟨fun a w hRR => ?_⟩
  obtain ⟨ρ, hext, hfx, hR⟩ := hRR
  have hpres := hR.pres
  refine wpIn_rangeFunc fun fid _ => ?_
  have hrec : ∀ l, E.ro = some l → ∃ r, w.heap[l]? = some (.loop r) := fun l hl => by
    obtain ⟨⟨r, hr⟩, hn⟩ := hro l hl
    exact ⟨r, by rw [hpres.block l (Array.getElem?_eq_some_iff.1 hr).1 hn]; exact hr⟩
  obtain ⟨l, mark, W1, D0, hent, hl1, hlw, hp1, hmark⟩ := enter_run (P := E.P) fid a.tmps ps asg bdy hrec
  obtain ⟨rc, hrc⟩ : ∃ rc : Loop, ({ state := .ready, pending := none, fn := fid, tmps := a.tmps, params := ps, assign := asg, body := bdy, defers := D0 } : Loop) = rc := ⟨_, rfl⟩
  rw [hrc] at hl1
  have hlt1 : l < W1.heap.size := (Array.getElem?_eq_some_iff.1 hl1).1
  have hc := hcall rc (by rw [← hrc]) (by rw [← hrc]) (by rw [← hrc]) (by rw [← hrc]) (by rw [← hrc]) (by rw [← hrc]; exact hR.size)
  -- the state's keys
  have hnk : ρ.key kl = none := by
    cases hx : ρ.key kl with
    | none => rfl
    | some x =>
      obtain ⟨b, hb⟩ := hR.hp.dom kl x hx
      simp only [fn, LV.blk, hkl] at hb
      cases hb
  have hfkne : ∀ j b, (j, b) ∈ fk → j ≠ kl := fun j b hj he => by have := hfk j b hj; rw [he, hkl] at this; cases this
  have hbsz : ∀ j b x, (j, b) ∈ fk → b.data.live = true → ρ.key j = some x → x.1 < w.heap.size := by
    intro j b x hj hv hx
    rcases hR.hp.blk j b (by simp only [fn, LV.blk]; exact hfk j b hj) with h0 | ⟨b', t, vs, ex, h1, h2, _⟩ | ⟨h1, _⟩
    · rw [hv] at h0; cases h0
    · rw [hx] at h1; cases h1; exact (Array.getElem?_eq_some_iff.1 h2).1
    · rw [hx] at h1; cases h1
  let ρ1 : Rho := ⟨fun j => if j = kl then some (l, 0) else ρ.key j, ρ.imm, ρ.glob⟩
  have h1kl : ρ1.key kl = some (l, 0) := by show (if kl = kl then _ else _) = _; rw [if_pos rfl]
  have h1ne : ∀ j, j ≠ kl → ρ1.key j = ρ.key j := fun j hj => by show (if j = kl then _ else _) = _; rw [if_neg hj]
  have hle1 : ρ.Le ρ1 := ⟨fun j x hx => by rw [h1ne j (by rintro rfl; rw [hnk] at hx; cases hx)]; exact hx, fun _ _ h => h⟩
  have himml : ρ.imm l = none := by
    cases hx : ρ.imm l with
    | none => rfl
    | some o =>
      have := (Array.getElem?_eq_some_iff.1 (hR.hp.imm l o hx)).1
      omega
  have hpw : PreW ((kl, ⟨0, true, .loop rc⟩) :: fk) [] ρ1 W1 := {
    hfk := fun j b hj => by
      rcases List.mem_cons.1 hj with hj | hj
      · cases hj
        exact .inr (.inl ⟨l, 0, [], [], h1kl, hl1, rfl, rfl, fun _ h => by cases h⟩)
      · rcases hR.hp.blk j b (by simp only [fn, LV.blk]; exact hfk j b hj) with h0 | ⟨b', t, vs, ex, h1, h2, h3, h4⟩ | ⟨h1, h2⟩
        · exact .inl h0
        · exact .inr (.inl ⟨b', t, vs, ex, by rw [h1ne j (hfkne j b hj)]; exact h1, by rw [hp1.block b' (Array.getElem?_eq_some_iff.1 h2).1 (fun h => h)]; exact h2, h3.mono hle1, h4⟩)
        · exact .inr (.inr ⟨by rw [h1ne j (hfkne j b hj)]; exact h1, h2⟩)
    sep := fun j j' x x' b b' hj hj' hx hx' hne he hv hv' => by
      rcases List.mem_cons.1 hj with hj | hj
      · cases hj
        rcases List.mem_cons.1 hj' with hj' | hj'
        · cases hj'; exact absurd rfl hne
        · rw [h1kl] at hx; cases hx
          rw [h1ne j' (hfkne j' b' hj')] at hx'
          have := hbsz j' b' x' hj' hv' hx'
          have he : l = x'.1 := he
          omega
      · rw [h1ne j (hfkne j b hj)] at hx
        rcases List.mem_cons.1 hj' with hj' | hj'
        · cases hj'
          rw [h1kl] at hx'; cases hx'
          have := hbsz j b x hj hv hx
          have he : x.1 = l := he
          omega
        · rw [h1ne j' (hfkne j' b' hj')] at hx'
          exact hR.hp.sep j j' x x' b b' hx hx' hne he (by simp only [fn, LV.blk]; exact hfk j b hj) (by simp only [fn, LV.blk]; exact hfk j' b' hj') hv hv'
    imm := fun b o hb => by
      have := hR.hp.imm b o hb
      rw [hp1.block b (Array.getElem?_eq_some_iff.1 this).1 (fun h => h)]; exact this
    immw := fun j b x hj hw hv hx => by
      rcases List.mem_cons.1 hj with hj | hj
      · cases hj
        rw [h1kl] at hx; cases hx; exact himml
      · rw [h1ne j (hfkne j b hj)] at hx
        exact hR.hp.immw j b x (by simp only [fn, LV.blk]; exact hfk j b hj) hw hv hx
    fresh := fun _ _ h => by cases h }
  -- the call's arguments
  have hfr : ∀ t s, (t, s) ∈ pick fr L → Has ρ s (a.tmps.getD t undef) := fun t s h => hR.fr t s (by simp only [fn, LV.sv]; exact (pick_mem h).1)
  have hgv := ev_ok hg ρ a hfr
  simp only [Has, HasC] at hgv
  obtain ⟨_, ⟨fz, cz, _, g2, rfl⟩, hv⟩ := hgv
  simp only [mkV, SV.isOne, if_true, List.headD_cons, List.zipWith_nil_left] at hv
  obtain ⟨z, h3, h4⟩ := evs_ok hcap ρ a hfr
  have hz : HasZ ρ1 (.yld kl rc ts cap :: icap) ([.func (.yield l) #[] #[]] :: cz) := by
    simp only [HasZ]
    refine ⟨_, _, rfl, ?_, HasZ.mono hle1 _ _ g2⟩
    simp only [HasC]
    refine ⟨l, 0, h1kl, rfl, z, HasZ.mono hle1 _ _ h3, ?_⟩
    rw [← h4, ← hrc, List.map_map]
    rfl
  have henterF : ∀ args w', (callFunc f args).run E.P w' = .ok (.enter f args) w' := fun args w' => by
    obtain ⟨fn1, hf1, hn1, hb1⟩ := hf
    have hn' : ¬ fn1.name = "runtime.NumGoroutine" := by simpa using hn1
    have hb' : ¬ fn1.body = none := fun h => by rw [h] at hb1; cases hb1
    simp [callFunc, hf1, hn', hb']
  have hcalls : Calls E.P f (List.zipWith mkV (.yld kl rc ts cap :: icap) ([.func (.yield l) #[] #[]] :: cz)).toArray W1 fun e w' => ∃ v ρ', e = .returned v ∧ Post ρ1 W1 cc [] ((kl, ⟨0, true, .loop rc⟩) :: upd) v ρ' w' := by
    rcases hc with ⟨_, hc⟩ | hc
    · exact hc ρ1 W1 _ hz hpw
    · obtain ⟨v, ρ', w', hr, _⟩ := hc ρ1 W1 _ hz hpw
      rw [henterF] at hr; cases hr
  have hargs : (List.zipWith mkV (.yld kl rc ts cap :: icap) ([.func (.yield l) #[] #[]] :: cz)).toArray = #[.func (.yield l) #[] #[]] ++ (List.zipWith mkV icap cz).toArray := by
    simp [mkV, SV.isOne]
  rw [hargs] at hcalls
  refine ⟨l, mark, W1, { target := .fn (.func f) (List.zipWith mkV icap cz).toArray, args := #[.func (.yield l) #[] #[]] }, W1, f, #[.func (.yield l) #[] #[]] ++ (List.zipWith mkV icap cz).toArray, W1, hent, ?_, fun _ _ => trivial, ?_, (fun hx => by cases hx), ?_⟩
  · simp only [resolve, hv]
    simp [go_sem]
  · simp [invoke, go_sem, henterF]
  refine CallsIn.mono (F := fen E.ro) (show CallsIn (fen E.ro) (0 - 1) _ _ _ _ _ from callsIn_wide (n := 0 - 1).2 hcalls) ?_
  rintro e w3 ⟨v, ρ2, rfl, hpost⟩
  have h2key : ∀ j, ρ2.key j = ρ1.key j := fun j => hpost.key j (fun b h => by cases h)
  have hl3 : w3.heap[l]? = some (.loop rc) := by
    rcases hpost.blk kl _ (.inl (List.mem_cons_self ..)) with h0 | ⟨b', t, vs, ex, q1, q2, _⟩ | ⟨q1, _⟩
    · cases h0
    · rw [h2key, h1kl] at q1; cases q1; exact q2
    · rw [h2key, h1kl] at q1; cases q1
  have hend := run_endLoop (P := E.P) hl3 (by rw [← hrc]; simp)
  obtain ⟨w4, hw4⟩ : ∃ w4, w3.putObj l (.loop { rc with state := .exhausted }) = w4 := ⟨_, rfl⟩
  rw [hw4, show rc.pending = none from by rw [← hrc]] at hend
  have h4o : ∀ b, b ≠ l → w4.heap[b]? = w3.heap[b]? := fun b hb => by rw [← hw4]; exact World.putObj_heap_other hb
  have h4s : w4.heap.size = w3.heap.size := by rw [← hw4]; exact World.putObj_size
  have hupdf : ∀ j b, (j, b) ∈ upd → j ≠ kl ∧ ∀ x, ρ.key j = some x → x.1 < w.heap.size := fun j b hj => by
    obtain ⟨b0, q1, _, q3, _⟩ := hupd j b hj
    exact ⟨hfkne j b0 q1, fun x hx => hbsz j b0 x q1 q3 hx⟩
  have hpo : Post ρ w (.tup []) [] upd undef ⟨ρ.key, ρ2.imm, ρ2.glob⟩ w4 := by
    refine ⟨⟨fun _ _ h => h, fun b o hb => hpost.le.imm b o hb⟩, ?_, fun _ _ => rfl, ?_, ?_, ?_, (fun _ _ _ h => by cases h), (fun _ _ _ _ _ _ h => by cases h), ?_⟩
    · simp only [Has]
      exact ⟨[], by simp [HasZ], by simp [undef]⟩
    · refine ⟨by rw [← hw4]; exact hpost.pres.os.trans hp1.os, by rw [← hw4]; exact hpost.pres.tape.trans hp1.tape, by rw [← hw4]; exact hpost.pres.output.trans hp1.output, by rw [h4s]; exact Nat.le_trans hp1.size hpost.pres.size, fun b hb hw => ?_⟩
      rw [h4o b (by omega), hpost.pres.block b (Nat.lt_of_lt_of_le hb hp1.size) ?_, hp1.block b hb (fun h => h)]
      rintro ⟨j, blk, t, hj, hkj⟩
      rcases List.mem_cons.1 hj with hj | hj
      · cases hj; rw [h1kl] at hkj; cases hkj; omega
      · rw [h1ne j (hupdf j blk hj).1] at hkj
        exact hw ⟨j, blk, t, hj, hkj⟩
    · intro j b hj
      rcases hj with hj | hj
      · obtain ⟨v1, v2⟩ := hlv j b hj
        have hne := (hupdf j b hj).1
        rcases hpost.blk j b (.inl (List.mem_cons_of_mem _ hj)) with h0 | ⟨b', t, vs, ex, q1, q2, q3, q4⟩ | ⟨q1, q2⟩
        · exact .inl h0
        · refine .inr (.inl ⟨b', t, vs, ex, by rw [← h1ne j hne, ← h2key]; exact q1, ?_, keylessD_has (ρ := ρ2) (ρ' := ⟨ρ.key, ρ2.imm, ρ2.glob⟩) (fun _ _ h => h) v2 q3, q4⟩)
          rw [h4o b' ?_]
          · exact q2
          · rintro rfl
            rw [Data.obj_cells (keylessD_cells v2), hl3] at q2; cases q2
        · exact .inr (.inr ⟨by rw [← h1ne j hne, ← h2key]; exact q1, q2⟩)
      · cases hj
    · intro j b b' q1 _ q3 _
      rw [(hlv j b q1).1] at q3; cases q3
    · intro b o hb
      rcases hpost.imm b o hb with q | ⟨q1, q2, _⟩
      · exact .inl q
      · refine .inr ⟨Nat.le_trans hp1.size q1, ?_, fun _ _ _ h => by cases h⟩
        rw [h4o b (by omega)]; exact q2
  obtain ⟨k1, k2, k3, k4⟩ := lay_post (dst := none) (new := []) hR (fun _ _ h => by cases h) (fun j b hj => by
    obtain ⟨b0, q1, q2, q3, q4⟩ := hupd j b hj
    exact ⟨b0, by simp only [fn, LV.blk]; exact hfk j b0 q1, q2, q3, q4⟩) (fun _ h => by cases h) hpo
  rw [List.append_nil, fn_lay] at k4
  refine ⟨none, _, hend, fr, layH upd hp, hK, _, ⟨hext.le.trans k1, fun b o hb => (k3 b o hb).elim (hext.imm b o) .inr, fun j hj => hext.fix j hj⟩, fun j hj => ?_, { defers := ?_, size := k4.size, fr := k4.fr, pres := k4.pres, hp := k4.hp }⟩
  · have := hfx j hj
    simp only [fn, LV.blk, find_layH] at this ⊢
    cases find upd j with
    | some b => simp
    | none => exact this
  · obtain ⟨Ds, d1, d2, d3⟩ := hR.defers
    obtain ⟨Ds', e1, e2, e3⟩ := k4.defers
    have hDs : Ds' = Ds := by
      have e1 : a.defers = Ds'.map mk1 := e1
      rw [d1] at e1
      exact ((List.map_inj_right (fun x y h => by simpa [mk1] using h)).1 e1).symm
    subst hDs
    rcases hmark with hmk | ⟨D, hmk, hDw, hD1⟩
    · subst hmk; exact ⟨Ds', d1, d2, e3⟩
    · subst hmk
      have hDlt : D < W1.heap.size := (Array.getElem?_eq_some_iff.1 hD1).1
      have hDl : D ≠ l := by rintro rfl; rw [hl1] at hD1; cases hD1
      refine ⟨D :: Ds', by simp [d1], ?_, fun D' hD' => ?_⟩
      · refine List.nodup_cons.2 ⟨fun hm => ?_, d2⟩
        have := (Array.getElem?_eq_some_iff.1 (d3 D hm).2.1).1
        omega
      · rcases List.mem_cons.1 hD' with rfl | hD'
        · refine ⟨Nat.le_trans hpres.size hDw, ?_, ?_⟩
          · rw [h4o _ hDl, hpost.pres.block D' hDlt ?_]
            · exact hD1
            · rintro ⟨j, blk, t, hj, hkj⟩
              rcases List.mem_cons.1 hj with hj | hj
              · cases hj; rw [h1kl] at hkj; cases hkj; exact hDl rfl
              · rw [h1ne j (hupdf j blk hj).1] at hkj
                have := (hupdf j blk hj).2 _ hkj
                have : D' < w.heap.size := this
                omega
          · show ρ2.imm D' = none
            cases hx : ρ2.imm D' with
            | none => rfl
            | some o =>
              rcases hpost.imm D' o hx with q | ⟨q, _⟩
              · have := (Array.getElem?_eq_some_iff.1 (hR.hp.imm D' o q)).1
                omega
              · omega
        · exact e3 D' hD'
end Go.Sx

namespace Go.Proofs.YtdcaodkjofkmgaaGreatDoor
open Go.Sx
set_option linter.unusedSimpArgs false
set_option linter.unusedVariables false
set_option maxRecDepth 100000
set_option maxHeartbeats 4000000

/-- A power: three exponents, a coefficient. -/
structure Pw where
  i : Nat
  j : Nat
  k : Nat
  c : Rat
def Pw.sv (p : Pw) : SV := .agg [.val (.int .i64 (p.i : Nat)), .val (.int .i64 (p.j : Nat)), .val (.int .i64 (p.k : Nat)), .frac p.c]
def pw0 : Pw := ⟨0, 0, 0, 0⟩
def fb (s : Rat) : Blk := ⟨36, true, .one [.frac s]⟩
def lb (rc : Loop) : Blk := ⟨0, true, .loop rc⟩

section
variable {P : Program} {kl : Nat} {rc : Loop} {us : List Nat} {cap : List SV} {args : List SV} {hp : List (Nat × Blk)} {c : SV}
end
theorem fin2 {a b : Nat} {A B : Blk} {hp : List (Nat × Blk)} (ha : find hp a = some A) (hb : find hp b = some B) : ∀ k x, (k, x) ∈ [(a, A), (b, B)] → find hp k = some x := fun k x hm => by
  simp only [List.mem_cons, Prod.mk.injEq, List.not_mem_nil, or_false] at hm
  rcases hm with ⟨rfl, rfl⟩ | ⟨rfl, rfl⟩ <;> assumption

/-- An iterator over a list of powers, as a loop with one changing block wants it: the block's number goes through S. -/
def ItOK (f : FuncId) (icap : List SV) (l : List Pw) : Prop := ∀ (rc : Loop) (ts : List Nat) (cs : List SV) (S : Nat → Rat),
  (∀ i, i < l.length → YldOK Tryz.prog 5000 rc ts [ptrA cs, .ptr 5004 0 0 0] [(l.getD i pw0).sv] [(5000, lb rc), (5004, fb (S i))] (.val (.bool true)) [] [(5000, lb rc), (5004, fb (S (i + 1)))]) →
  CallOK Tryz.prog f (.yld 5000 rc ts [ptrA cs, .ptr 4 0 0 0] :: icap) [(5000, lb rc), (4, fb (S 0))] (.tup []) [] [(5000, lb rc), (4, fb (S l.length))]

theorem c_Values (l : List Pw) : CallOK Tryz.prog 38 [mvec 8 Pw.sv l] [] (.clo 68 [] [ptrA [mvec 8 Pw.sv l]]) [] [] := by
  refine callV (Z := [1]) tabOK mixedOK Tryz.func38 rfl (by kernel_rfl) rfl rfl (by kernel_rfl) rfl ?_
  intro W0 w0 ρ0 hE
  conv => whnf
  (repeat (first | (refine g_o (op_makeFunc rfl rfl rfl) ?_; conv => whnf)))
  exact Recast.refl _

theorem it_Values (l : List Pw) (hl : l.length < 1000) : ItOK 68 [ptrA [mvec 8 Pw.sv l]] l := by
  intro rc ts cs S hY
  refine callK (Z := []) tabOK mixedOK Tryz.func68 rfl (by kernel_rfl) (args := [.yld 5000 rc ts [ptrA cs, .ptr 5004 0 0 0], ptrA [mvec 8 Pw.sv l]]) (fk := [(5000, lb rc), (5004, fb (S 0))]) (c := .tup []) (new := []) (upd := [(5000, lb rc), (5004, fb (S l.length))]) (ShapeOK.of rfl rfl rfl rfl rfl rfl rfl rfl rfl rfl rfl) rfl (renBy [(5004, 4)]) (NamesOK.two (by decide)) ?_
  intro W0 w0 ρ0 hE
  conv => whnf
  (repeat (first | (refine g_o (op_lenM rfl rfl rfl (ev_ok rfl) (tgt rfl) rfl) ?_; conv => whnf) | (refine g_o (op_loadA rfl (ev_ok rfl) (tgt rfl) rfl (Nat.succ_ne_zero _) rfl) ?_; conv => whnf)))
  refine SW_loopN hE (fun k => k) [0, 5, 6, 7] [5000, 5004] (fun m fr hp => ∃ i, m = l.length - i ∧ i ≤ l.length ∧ fr = [(0, .yld 5000 rc ts [ptrA cs, .ptr 5004 0 0 0]), (5, mvec 8 Pw.sv l), (6, .val (.int .i64 (l.length : Nat))), (7, .val (.int .i64 (i : Nat)))] ∧
    hp = [(5000, lb rc), (5004, fb (S i))]) l.length ?_ ?_ ?_
  · kernel_rfl
  · exact ⟨0, rfl, Nat.zero_le _, rfl, rfl⟩
  rintro m _ _ ⟨i, rfl, hi, rfl, rfl⟩
  conv => whnf
  by_cases hlt : i < l.length
  · have t1 := dlt hlt
    have t2 := winc (i := i) (by omega)
    have hy := hY i hlt
    (repeat ((first | refine step_w1 rfl rfl ?_ | refine step_w2 rfl rfl ?_ | refine ⟨[_, _], _, [], [_, _], (by assumption), two_fk rfl rfl, nil_new, two_upd (List.mem_cons_self ..) rfl rfl rfl (List.mem_cons_of_mem _ (List.mem_cons_self ..)) rfl rfl rfl, ?_⟩ | refine g_o (op_loadA rfl (ev_ok rfl) (tgt rfl) rfl (Nat.succ_ne_zero _) rfl) ?_ | refine g_o (op_indexN (α := Pw) (d := pw0) rfl (ev_ok rfl) (ev_ok rfl) (tgt rfl) rfl (tgt rfl) rfl (by omega)) ?_ | rw [t1] | rw [t2]); conv => whnf))
    exact ⟨l.length - (i + 1), fun k => k, [0, 5, 6, 7], [5000, 5004], by omega, by kernel_rfl, i + 1, rfl, hlt, rfl, rfl⟩
  · have t1 := dge hlt
    have hI : i = l.length := by omega
    subst hI
    (repeat (first | (refine step_w2 rfl rfl ?_; conv => whnf) | (rw [t1]; conv => whnf)))
    exact ⟨Recast.refl _, (fun _ _ h => by cases h), fin2 rfl rfl⟩

def Pw.e (p : Pw) (b : Nat) : Nat := match b with
  | 0 => p.i
  | 1 => p.j
  | _ => p.k
def slopeP (b : Nat) (p : Pw) : Pw := match b with
  | 0 => ⟨p.i - 1, p.j, p.k, p.c * (((p.i : Nat) : Int) : Rat)⟩
  | 1 => ⟨p.i, p.j - 1, p.k, p.c * (((p.j : Nat) : Int) : Rat)⟩
  | _ => ⟨p.i, p.j, p.k - 1, p.c * (((p.k : Nat) : Int) : Rat)⟩
def slopeL (b : Nat) (l : List Pw) : List Pw := (l.filter fun p => p.e b != 0).map (slopeP b)
theorem slopeL_snoc (b : Nat) (l : List Pw) (p : Pw) : slopeL b (l ++ [p]) = if p.e b = 0 then slopeL b l else slopeL b l ++ [slopeP b p] := by
  unfold slopeL
  rw [List.filter_append, List.map_append]
  by_cases h : p.e b = 0
  · rw [if_pos h]; simp [h]
  · rw [if_neg h]; simp [h]
theorem take_snocP (l : List Pw) (i : Nat) (hi : i < l.length) : l.take (i + 1) = l.take i ++ [l.getD i pw0] := by rw [List.take_add_one, List.getD_eq_getElem?_getD, List.getElem?_eq_getElem hi]; rfl
theorem slopeL_take (b : Nat) (l : List Pw) (i : Nat) (hi : i < l.length) : slopeL b (l.take (i + 1)) = if (l.getD i pw0).e b = 0 then slopeL b (l.take i) else slopeL b (l.take i) ++ [slopeP b (l.getD i pw0)] := by
  rw [take_snocP l i hi, slopeL_snoc]
/-- Where a power that stays lies in the derivative's list. -/
theorem slopeL_at (b : Nat) (l : List Pw) (i : Nat) (hi : i < l.length) (h : (l.getD i pw0).e b ≠ 0) : (slopeL b (l.take i)).length < (slopeL b l).length ∧ (slopeL b l).getD (slopeL b (l.take i)).length pw0 = slopeP b (l.getD i pw0) := by
  have h1 := slopeL_take b l i hi
  rw [if_neg h] at h1
  have h2 : slopeL b l = slopeL b (l.take (i + 1)) ++ slopeL b (l.drop (i + 1)) := by
    unfold slopeL
    rw [← List.map_append, ← List.filter_append, List.take_append_drop]
  rw [h1] at h2
  rw [h2]
  refine ⟨by simp, ?_⟩
  rw [List.append_assoc, List.getD_eq_getElem?_getD, List.getElem?_append_right (Nat.le_refl _), Nat.sub_self]
  rfl

theorem c_slope (l : List Pw) (b : Int) : CallOK Tryz.prog 39 [mvec 8 Pw.sv l, .val (.int .i64 b)] [] (.clo 69 [] [ptrA [mvec 8 Pw.sv l], ptrA [.val (.int .i64 b)]]) [] [] := by
  refine callV (Z := [2, 3]) tabOK mixedOK Tryz.func39 rfl (by kernel_rfl) rfl rfl (by kernel_rfl) rfl ?_
  intro W0 w0 ρ0 hE
  conv => whnf
  (repeat (first | (refine g_o (op_makeFunc rfl rfl rfl) ?_; conv => whnf)))
  exact Recast.refl _

/-- What is asked of a power: small exponents, a small coefficient. -/
def Pw.ok (p : Pw) : Prop := p.i ≤ 100 ∧ p.j ≤ 100 ∧ p.k ≤ 100 ∧ fs p.c ≤ 1000
theorem wdec {n : Nat} (h : n ≠ 0) (h2 : n ≤ 1000) : IntKind.i64.wrap ((n : Int) - 1) = ((n - 1 : Nat) : Int) := by rw [wrap_i64 (by omega) (by omega)]; omega
theorem it_slope0 (l : List Pw) (hl : l.length < 1000) (hL : ∀ p ∈ l, p.ok) : ItOK 69 [ptrA [mvec 8 Pw.sv l], ptrA [.val (.int .i64 0)]] (slopeL 0 l) := by
  intro rc ts cs S hY
  refine callK (Z := []) tabOK mixedOK Tryz.func69 rfl (by kernel_rfl) (args := [.yld 5000 rc ts [ptrA cs, .ptr 5004 0 0 0], ptrA [mvec 8 Pw.sv l], ptrA [.val (.int .i64 0)]]) (fk := [(5000, lb rc), (5004, fb (S 0))]) (c := .tup []) (new := []) (upd := [(5000, lb rc), (5004, fb (S (slopeL 0 l).length))]) (ShapeOK.of rfl rfl rfl rfl rfl rfl rfl rfl rfl rfl rfl) rfl (renBy [(5004, 4)]) (NamesOK.two (by decide)) ?_
  intro W0 w0 ρ0 hE
  conv => whnf
  (repeat (first | (refine g_o (op_lenM rfl rfl rfl (ev_ok rfl) (tgt rfl) rfl) ?_; conv => whnf) | (refine g_o (op_loadA rfl (ev_ok rfl) (tgt rfl) rfl (Nat.succ_ne_zero _) rfl) ?_; conv => whnf)))
  refine SW_loopN hE (fun k => k) [0, 2, 8, 9, 10] [5000, 5004] (fun m fr hp => ∃ i, m = l.length - i ∧ i ≤ l.length ∧ fr = [(0, .yld 5000 rc ts [ptrA cs, .ptr 5004 0 0 0]), (2, ptrA [.val (.int .i64 0)]), (8, mvec 8 Pw.sv l), (9, .val (.int .i64 (l.length : Nat))), (10, .val (.int .i64 (i : Nat)))] ∧
    hp = [(5000, lb rc), (5004, fb (S (slopeL 0 (l.take i)).length))]) l.length ?_ ?_ ?_
  · kernel_rfl
  · exact ⟨0, rfl, Nat.zero_le _, rfl, rfl⟩
  rintro m _ _ ⟨i, rfl, hi, rfl, rfl⟩
  conv => whnf
  by_cases hlt : i < l.length
  · have t1 := dlt hlt
    have t2 := winc (i := i) (by omega)
    have hok := hL (l.getD i pw0) (by rw [List.getD_eq_getElem?_getD, List.getElem?_eq_getElem hlt]; exact List.getElem_mem hlt)
    have ht := slopeL_take 0 l i hlt
    by_cases he : (l.getD i pw0).e 0 = 0
    · have t3 : ((((l.getD i pw0).i : Nat) : Int) == 0) = true := by rw [show (l.getD i pw0).i = 0 from he]; rfl
      rw [if_pos he] at ht
      (repeat ((first | refine step_w1 rfl rfl ?_ | refine And.intro (by first | decide | omega | (simp only [tiB5, tiB23, tiB3, tiB2, tiB9, tiB36, tiB54, tiB121, tiB34, tiB28, tiB4, tiB50, tiB52, dlen, List.length_replicate, List.length_set, List.length_map, List.length_zipWith, List.length_take, List.length_append, List.length_cons, List.length_nil]; omega)) ?_ | refine g_o (op_loadA rfl (ev_ok rfl) (tgt rfl) rfl (Nat.succ_ne_zero _) rfl) ?_ | refine g_o (op_indexN (α := Pw) (d := pw0) rfl (ev_ok rfl) (ev_ok rfl) (tgt rfl) rfl (tgt rfl) rfl (by omega)) ?_ | rw [t1] | rw [t2] | rw [t3] | rw [Nat.zero_add]); conv => whnf))
      exact ⟨l.length - (i + 1), fun k => k, [0, 2, 8, 9, 10], [5000, 5004], by omega, by kernel_rfl, i + 1, rfl, hlt, rfl, by rw [ht]; rfl⟩
    · have he' : (l.getD i pw0).i ≠ 0 := he
      have t3 : ((((l.getD i pw0).i : Nat) : Int) == 0) = false := beq_false_of_ne (by omega)
      rw [if_neg he] at ht
      obtain ⟨hp1, hp2⟩ := slopeL_at 0 l i hlt he
      have hy := hY _ hp1
      rw [hp2] at hy
      have t4 := wdec he' (by have := hok.1; have := hok.2.1; have := hok.2.2.1; omega)
      have t5 : IntKind.i64.wrap (((l.getD i pw0).i : Nat) : Int) = (((l.getD i pw0).i : Nat) : Int) := wrap_i64 (by have := hok.1; have := hok.2.1; have := hok.2.2.1; omega) (by have := hok.1; have := hok.2.1; have := hok.2.2.1; omega)
      have k1 := c_fInt (((l.getD i pw0).i : Nat) : Int) (by have := hok.1; have := hok.2.1; have := hok.2.2.1; omega) (by have := hok.1; have := hok.2.1; have := hok.2.2.1; omega)
      have k2 := f_Mul (l.getD i pw0).c ((((l.getD i pw0).i : Nat) : Int) : Rat) (by
        have h1 := hok.2.2.2
        have h2 := fs_int (n := (((l.getD i pw0).i : Nat) : Int)) (by omega) (by have := hok.1; have := hok.2.1; have := hok.2.2.1; omega)
        omega)
      (repeat ((first | refine step_w1 rfl rfl ?_ | refine step_w2 rfl rfl ?_ | refine step_i (by kernel_rfl) ?_ | refine And.intro (by first | decide | omega | (simp only [tiB5, tiB23, tiB3, tiB2, tiB9, tiB36, tiB54, tiB121, tiB34, tiB28, tiB4, tiB50, tiB52, dlen, List.length_replicate, List.length_set, List.length_map, List.length_zipWith, List.length_take, List.length_append, List.length_cons, List.length_nil]; omega)) ?_ | refine g_c (by assumption) ?_ | refine ⟨[_, _], _, [], [_, _], (by assumption), two_fk rfl rfl, nil_new, two_upd (List.mem_cons_self ..) rfl rfl rfl (List.mem_cons_of_mem _ (List.mem_cons_self ..)) rfl rfl rfl, ?_⟩ | refine g_o (op_loadA rfl (ev_ok rfl) (tgt rfl) rfl (Nat.succ_ne_zero _) rfl) ?_ | refine g_o (op_indexN (α := Pw) (d := pw0) rfl (ev_ok rfl) (ev_ok rfl) (tgt rfl) rfl (tgt rfl) rfl (by omega)) ?_ | rw [t1] | rw [t2] | rw [t3] | rw [t4] | rw [Nat.zero_add]); conv => whnf))
      exact ⟨l.length - (i + 1), fun k => k, [0, 2, 8, 9, 10], [5000, 5004], by omega, by kernel_rfl, i + 1, rfl, hlt, rfl, by rw [ht, List.length_append]; rfl⟩
  · have t1 := dge hlt
    have hI : i = l.length := by omega
    subst hI
    rw [List.take_length]
    (repeat (first | (refine step_w2 rfl rfl ?_; conv => whnf) | (rw [t1]; conv => whnf)))
    exact ⟨Recast.refl _, (fun _ _ h => by cases h), fin2 rfl rfl⟩
theorem it_slope1 (l : List Pw) (hl : l.length < 1000) (hL : ∀ p ∈ l, p.ok) : ItOK 69 [ptrA [mvec 8 Pw.sv l], ptrA [.val (.int .i64 1)]] (slopeL 1 l) := by
  intro rc ts cs S hY
  refine callK (Z := []) tabOK mixedOK Tryz.func69 rfl (by kernel_rfl) (args := [.yld 5000 rc ts [ptrA cs, .ptr 5004 0 0 0], ptrA [mvec 8 Pw.sv l], ptrA [.val (.int .i64 1)]]) (fk := [(5000, lb rc), (5004, fb (S 0))]) (c := .tup []) (new := []) (upd := [(5000, lb rc), (5004, fb (S (slopeL 1 l).length))]) (ShapeOK.of rfl rfl rfl rfl rfl rfl rfl rfl rfl rfl rfl) rfl (renBy [(5004, 4)]) (NamesOK.two (by decide)) ?_
  intro W0 w0 ρ0 hE
  conv => whnf
  (repeat (first | (refine g_o (op_lenM rfl rfl rfl (ev_ok rfl) (tgt rfl) rfl) ?_; conv => whnf) | (refine g_o (op_loadA rfl (ev_ok rfl) (tgt rfl) rfl (Nat.succ_ne_zero _) rfl) ?_; conv => whnf)))
  refine SW_loopN hE (fun k => k) [0, 2, 8, 9, 10] [5000, 5004] (fun m fr hp => ∃ i, m = l.length - i ∧ i ≤ l.length ∧ fr = [(0, .yld 5000 rc ts [ptrA cs, .ptr 5004 0 0 0]), (2, ptrA [.val (.int .i64 1)]), (8, mvec 8 Pw.sv l), (9, .val (.int .i64 (l.length : Nat))), (10, .val (.int .i64 (i : Nat)))] ∧
    hp = [(5000, lb rc), (5004, fb (S (slopeL 1 (l.take i)).length))]) l.length ?_ ?_ ?_
  · kernel_rfl
  · exact ⟨0, rfl, Nat.zero_le _, rfl, rfl⟩
  rintro m _ _ ⟨i, rfl, hi, rfl, rfl⟩
  conv => whnf
  by_cases hlt : i < l.length
  · have t1 := dlt hlt
    have t2 := winc (i := i) (by omega)
    have hok := hL (l.getD i pw0) (by rw [List.getD_eq_getElem?_getD, List.getElem?_eq_getElem hlt]; exact List.getElem_mem hlt)
    have ht := slopeL_take 1 l i hlt
    by_cases he : (l.getD i pw0).e 1 = 0
    · have t3 : ((((l.getD i pw0).j : Nat) : Int) == 0) = true := by rw [show (l.getD i pw0).j = 0 from he]; rfl
      rw [if_pos he] at ht
      (repeat ((first | refine step_w1 rfl rfl ?_ | refine And.intro (by first | decide | omega | (simp only [tiB5, tiB23, tiB3, tiB2, tiB9, tiB36, tiB54, tiB121, tiB34, tiB28, tiB4, tiB50, tiB52, dlen, List.length_replicate, List.length_set, List.length_map, List.length_zipWith, List.length_take, List.length_append, List.length_cons, List.length_nil]; omega)) ?_ | refine g_o (op_loadA rfl (ev_ok rfl) (tgt rfl) rfl (Nat.succ_ne_zero _) rfl) ?_ | refine g_o (op_indexN (α := Pw) (d := pw0) rfl (ev_ok rfl) (ev_ok rfl) (tgt rfl) rfl (tgt rfl) rfl (by omega)) ?_ | rw [t1] | rw [t2] | rw [t3] | rw [Nat.zero_add]); conv => whnf))
      exact ⟨l.length - (i + 1), fun k => k, [0, 2, 8, 9, 10], [5000, 5004], by omega, by kernel_rfl, i + 1, rfl, hlt, rfl, by rw [ht]; rfl⟩
    · have he' : (l.getD i pw0).j ≠ 0 := he
      have t3 : ((((l.getD i pw0).j : Nat) : Int) == 0) = false := beq_false_of_ne (by omega)
      rw [if_neg he] at ht
      obtain ⟨hp1, hp2⟩ := slopeL_at 1 l i hlt he
      have hy := hY _ hp1
      rw [hp2] at hy
      have t4 := wdec he' (by have := hok.1; have := hok.2.1; have := hok.2.2.1; omega)
      have t5 : IntKind.i64.wrap (((l.getD i pw0).j : Nat) : Int) = (((l.getD i pw0).j : Nat) : Int) := wrap_i64 (by have := hok.1; have := hok.2.1; have := hok.2.2.1; omega) (by have := hok.1; have := hok.2.1; have := hok.2.2.1; omega)
      have k1 := c_fInt (((l.getD i pw0).j : Nat) : Int) (by have := hok.1; have := hok.2.1; have := hok.2.2.1; omega) (by have := hok.1; have := hok.2.1; have := hok.2.2.1; omega)
      have k2 := f_Mul (l.getD i pw0).c ((((l.getD i pw0).j : Nat) : Int) : Rat) (by
        have h1 := hok.2.2.2
        have h2 := fs_int (n := (((l.getD i pw0).j : Nat) : Int)) (by omega) (by have := hok.1; have := hok.2.1; have := hok.2.2.1; omega)
        omega)
      (repeat ((first | refine step_w1 rfl rfl ?_ | refine step_w2 rfl rfl ?_ | refine step_i (by kernel_rfl) ?_ | refine And.intro (by first | decide | omega | (simp only [tiB5, tiB23, tiB3, tiB2, tiB9, tiB36, tiB54, tiB121, tiB34, tiB28, tiB4, tiB50, tiB52, dlen, List.length_replicate, List.length_set, List.length_map, List.length_zipWith, List.length_take, List.length_append, List.length_cons, List.length_nil]; omega)) ?_ | refine g_c (by assumption) ?_ | refine ⟨[_, _], _, [], [_, _], (by assumption), two_fk rfl rfl, nil_new, two_upd (List.mem_cons_self ..) rfl rfl rfl (List.mem_cons_of_mem _ (List.mem_cons_self ..)) rfl rfl rfl, ?_⟩ | refine g_o (op_loadA rfl (ev_ok rfl) (tgt rfl) rfl (Nat.succ_ne_zero _) rfl) ?_ | refine g_o (op_indexN (α := Pw) (d := pw0) rfl (ev_ok rfl) (ev_ok rfl) (tgt rfl) rfl (tgt rfl) rfl (by omega)) ?_ | rw [t1] | rw [t2] | rw [t3] | rw [t4] | rw [Nat.zero_add]); conv => whnf))
      exact ⟨l.length - (i + 1), fun k => k, [0, 2, 8, 9, 10], [5000, 5004], by omega, by kernel_rfl, i + 1, rfl, hlt, rfl, by rw [ht, List.length_append]; rfl⟩
  · have t1 := dge hlt
    have hI : i = l.length := by omega
    subst hI
    rw [List.take_length]
    (repeat (first | (refine step_w2 rfl rfl ?_; conv => whnf) | (rw [t1]; conv => whnf)))
    exact ⟨Recast.refl _, (fun _ _ h => by cases h), fin2 rfl rfl⟩
theorem it_slope2 (l : List Pw) (hl : l.length < 1000) (hL : ∀ p ∈ l, p.ok) : ItOK 69 [ptrA [mvec 8 Pw.sv l], ptrA [.val (.int .i64 2)]] (slopeL 2 l) := by
  intro rc ts cs S hY
  refine callK (Z := []) tabOK mixedOK Tryz.func69 rfl (by kernel_rfl) (args := [.yld 5000 rc ts [ptrA cs, .ptr 5004 0 0 0], ptrA [mvec 8 Pw.sv l], ptrA [.val (.int .i64 2)]]) (fk := [(5000, lb rc), (5004, fb (S 0))]) (c := .tup []) (new := []) (upd := [(5000, lb rc), (5004, fb (S (slopeL 2 l).length))]) (ShapeOK.of rfl rfl rfl rfl rfl rfl rfl rfl rfl rfl rfl) rfl (renBy [(5004, 4)]) (NamesOK.two (by decide)) ?_
  intro W0 w0 ρ0 hE
  conv => whnf
  (repeat (first | (refine g_o (op_lenM rfl rfl rfl (ev_ok rfl) (tgt rfl) rfl) ?_; conv => whnf) | (refine g_o (op_loadA rfl (ev_ok rfl) (tgt rfl) rfl (Nat.succ_ne_zero _) rfl) ?_; conv => whnf)))
  refine SW_loopN hE (fun k => k) [0, 2, 8, 9, 10] [5000, 5004] (fun m fr hp => ∃ i, m = l.length - i ∧ i ≤ l.length ∧ fr = [(0, .yld 5000 rc ts [ptrA cs, .ptr 5004 0 0 0]), (2, ptrA [.val (.int .i64 2)]), (8, mvec 8 Pw.sv l), (9, .val (.int .i64 (l.length : Nat))), (10, .val (.int .i64 (i : Nat)))] ∧
    hp = [(5000, lb rc), (5004, fb (S (slopeL 2 (l.take i)).length))]) l.length ?_ ?_ ?_
  · kernel_rfl
  · exact ⟨0, rfl, Nat.zero_le _, rfl, rfl⟩
  rintro m _ _ ⟨i, rfl, hi, rfl, rfl⟩
  conv => whnf
  by_cases hlt : i < l.length
  · have t1 := dlt hlt
    have t2 := winc (i := i) (by omega)
    have hok := hL (l.getD i pw0) (by rw [List.getD_eq_getElem?_getD, List.getElem?_eq_getElem hlt]; exact List.getElem_mem hlt)
    have ht := slopeL_take 2 l i hlt
    by_cases he : (l.getD i pw0).e 2 = 0
    · have t3 : ((((l.getD i pw0).k : Nat) : Int) == 0) = true := by rw [show (l.getD i pw0).k = 0 from he]; rfl
      rw [if_pos he] at ht
      (repeat ((first | refine step_w1 rfl rfl ?_ | refine And.intro (by first | decide | omega | (simp only [tiB5, tiB23, tiB3, tiB2, tiB9, tiB36, tiB54, tiB121, tiB34, tiB28, tiB4, tiB50, tiB52, dlen, List.length_replicate, List.length_set, List.length_map, List.length_zipWith, List.length_take, List.length_append, List.length_cons, List.length_nil]; omega)) ?_ | refine g_o (op_loadA rfl (ev_ok rfl) (tgt rfl) rfl (Nat.succ_ne_zero _) rfl) ?_ | refine g_o (op_indexN (α := Pw) (d := pw0) rfl (ev_ok rfl) (ev_ok rfl) (tgt rfl) rfl (tgt rfl) rfl (by omega)) ?_ | rw [t1] | rw [t2] | rw [t3] | rw [Nat.zero_add]); conv => whnf))
      exact ⟨l.length - (i + 1), fun k => k, [0, 2, 8, 9, 10], [5000, 5004], by omega, by kernel_rfl, i + 1, rfl, hlt, rfl, by rw [ht]; rfl⟩
    · have he' : (l.getD i pw0).k ≠ 0 := he
      have t3 : ((((l.getD i pw0).k : Nat) : Int) == 0) = false := beq_false_of_ne (by omega)
      rw [if_neg he] at ht
      obtain ⟨hp1, hp2⟩ := slopeL_at 2 l i hlt he
      have hy := hY _ hp1
      rw [hp2] at hy
      have t4 := wdec he' (by have := hok.1; have := hok.2.1; have := hok.2.2.1; omega)
      have t5 : IntKind.i64.wrap (((l.getD i pw0).k : Nat) : Int) = (((l.getD i pw0).k : Nat) : Int) := wrap_i64 (by have := hok.1; have := hok.2.1; have := hok.2.2.1; omega) (by have := hok.1; have := hok.2.1; have := hok.2.2.1; omega)
      have k1 := c_fInt (((l.getD i pw0).k : Nat) : Int) (by have := hok.1; have := hok.2.1; have := hok.2.2.1; omega) (by have := hok.1; have := hok.2.1; have := hok.2.2.1; omega)
      have k2 := f_Mul (l.getD i pw0).c ((((l.getD i pw0).k : Nat) : Int) : Rat) (by
        have h1 := hok.2.2.2
        have h2 := fs_int (n := (((l.getD i pw0).k : Nat) : Int)) (by omega) (by have := hok.1; have := hok.2.1; have := hok.2.2.1; omega)
        omega)
      (repeat ((first | refine step_w1 rfl rfl ?_ | refine step_w2 rfl rfl ?_ | refine step_i (by kernel_rfl) ?_ | refine And.intro (by first | decide | omega | (simp only [tiB5, tiB23, tiB3, tiB2, tiB9, tiB36, tiB54, tiB121, tiB34, tiB28, tiB4, tiB50, tiB52, dlen, List.length_replicate, List.length_set, List.length_map, List.length_zipWith, List.length_take, List.length_append, List.length_cons, List.length_nil]; omega)) ?_ | refine g_c (by assumption) ?_ | refine ⟨[_, _], _, [], [_, _], (by assumption), two_fk rfl rfl, nil_new, two_upd (List.mem_cons_self ..) rfl rfl rfl (List.mem_cons_of_mem _ (List.mem_cons_self ..)) rfl rfl rfl, ?_⟩ | refine g_o (op_loadA rfl (ev_ok rfl) (tgt rfl) rfl (Nat.succ_ne_zero _) rfl) ?_ | refine g_o (op_indexN (α := Pw) (d := pw0) rfl (ev_ok rfl) (ev_ok rfl) (tgt rfl) rfl (tgt rfl) rfl (by omega)) ?_ | rw [t1] | rw [t2] | rw [t3] | rw [t4] | rw [Nat.zero_add]); conv => whnf))
      exact ⟨l.length - (i + 1), fun k => k, [0, 2, 8, 9, 10], [5000, 5004], by omega, by kernel_rfl, i + 1, rfl, hlt, rfl, by rw [ht, List.length_append]; rfl⟩
  · have t1 := dge hlt
    have hI : i = l.length := by omega
    subst hI
    rw [List.take_length]
    (repeat (first | (refine step_w2 rfl rfl ?_; conv => whnf) | (rw [t1]; conv => whnf)))
    exact ⟨Recast.refl _, (fun _ _ h => by cases h), fin2 rfl rfl⟩
end Go.Proofs.YtdcaodkjofkmgaaGreatDoor

namespace Go.Proofs.YtdcaodkjofkmgaaGreatDoor
open Go.Sx
set_option linter.unusedSimpArgs false
set_option linter.unusedVariables false
set_option maxRecDepth 100000
set_option maxHeartbeats 4000000

/-- v times x, n times. -/
def pwr (v x : Rat) : Nat → Rat
  | 0 => v
  | n + 1 => pwr v x n * x
def monoF (p : Pw) (a b c : Rat) : Rat := pwr (pwr (pwr p.c a p.i) b p.j) c p.k
def atF (l : List Pw) (a b c : Rat) : Rat := l.foldl (fun s p => s + monoF p a b c) 0
theorem fs_pwr (v x : Rat) : ∀ n, fs (pwr v x n) ≤ fs v + n * fs x
  | 0 => by simp [pwr]
  | n + 1 => by
    have h1 := fs_pwr v x n
    have h2 := fs_mul (pwr v x n) x
    rw [pwr, Nat.succ_mul]; omega
theorem fs_pwrB {v x : Rat} {n V B : Nat} (hv : fs v ≤ V) (hx : fs x ≤ B) (hn : n ≤ 100) : fs (pwr v x n) ≤ V + 100 * B := by
  have h1 := fs_pwr v x n
  have h2 := Nat.mul_le_mul hn hx
  omega
theorem fs_mono {p : Pw} (hp : p.ok) {a b c : Rat} {B : Nat} (ha : fs a ≤ B) (hb : fs b ≤ B) (hc : fs c ≤ B) : fs (monoF p a b c) ≤ 1000 + 300 * B := by
  have h1 := fs_pwrB hp.2.2.2 ha hp.1
  have h2 := fs_pwrB h1 hb hp.2.1
  have h3 := fs_pwrB h2 hc hp.2.2.1
  unfold monoF; omega
theorem fs_at {a b c : Rat} {B : Nat} (ha : fs a ≤ B) (hb : fs b ≤ B) (hc : fs c ≤ B) : ∀ (l : List Pw) (s : Rat), (∀ p ∈ l, p.ok) → fs (l.foldl (fun s p => s + monoF p a b c) s) ≤ fs s + l.length * (1000 + 300 * B)
  | [], s, _ => by simp
  | p :: l, s, h => by
    have h1 := fs_at ha hb hc l (s + monoF p a b c) (fun q hq => h q (List.mem_cons_of_mem _ hq))
    have h2 := fs_mono (h p (List.mem_cons_self ..)) ha hb hc
    have h3 := fs_add s (monoF p a b c)
    rw [List.foldl_cons, List.length_cons, Nat.succ_mul]; omega
theorem foldP (f : Rat → Pw → Rat) (l : List Pw) (i : Nat) (hi : i < l.length) (s : Rat) : (l.take (i + 1)).foldl f s = f ((l.take i).foldl f s) (l.getD i pw0) := by
  rw [take_snocP l i hi, List.foldl_append]; rfl
theorem getP_mem {l : List Pw} {i : Nat} (hi : i < l.length) : l.getD i pw0 ∈ l := by
  rw [List.getD_eq_getElem?_getD, List.getElem?_eq_getElem hi]; exact List.getElem_mem hi

/-- The number of a power's exponents. -/
theorem two_up {A B : Blk} {A' B' : Blk} {a b : Nat} (w : A.wr = true ∧ A.data.live = true ∧ A'.wr = true) : ∀ j x, (j, x) ∈ [(a, A')] → ∃ b0, (j, b0) ∈ [(a, A)] ∧ b0.wr = true ∧ b0.data.live = true ∧ x.wr = true := fun j x hm => by
  simp only [List.mem_singleton, Prod.mk.injEq] at hm
  obtain ⟨rfl, rfl⟩ := hm
  exact ⟨A, List.mem_cons_self .., w.1, w.2.1, w.2.2⟩
theorem one_lv {A : Blk} {a : Nat} (w : A.data.live = true ∧ keylessD A.data = true) : ∀ j x, (j, x) ∈ [(a, A)] → x.data.live = true ∧ keylessD x.data = true := fun j x hm => by
  simp only [List.mem_singleton, Prod.mk.injEq] at hm
  obtain ⟨rfl, rfl⟩ := hm
  exact w
theorem RoundOK.one {x : SV} {cap : List SV} {k : Nat} {s t : Rat} (px : passable x = true) (pc : cap.all passable = true) (rx : subN (refs x) [k] = true) (rc : subN (refsL cap) [k] = true) : RoundOK x cap [(k, fb s)] [(k, fb t)] :=
  ⟨px, pc, rfl, rx, rc, rfl, (fun q b hm => by simp only [List.mem_singleton, Prod.mk.injEq] at hm; obtain ⟨rfl, rfl⟩ := hm; rfl),
   (fun q b hm => by simp only [List.mem_singleton, Prod.mk.injEq] at hm; obtain ⟨rfl, rfl⟩ := hm; exact ⟨_, List.mem_cons_self .., rfl, rfl, rfl, rfl, rfl⟩),
   (fun q b hm _ _ => by simp only [List.mem_singleton, Prod.mk.injEq] at hm; obtain ⟨rfl, rfl⟩ := hm; exact ⟨_, List.mem_cons_self ..⟩)⟩

theorem c_atV (l : List Pw) (hl : l.length ≤ 10) (hL : ∀ p ∈ l, p.ok) (v : List SV) (a b c : Rat) (B : Nat) (hB : B ≤ 100000) (ha : fs a ≤ B) (hb : fs b ≤ B) (hc : fs c ≤ B) (hI : ItOK 68 [ptrA v] l) :
    CallOK Tryz.prog 37 [.clo 68 [] [ptrA v], .agg [.frac a, .frac b, .frac c]] [] (.frac (atF l a b c)) [] [] := by
  refine callV (Z := [3]) tabOK mixedOK Tryz.func37 rfl (by kernel_rfl) rfl rfl (by kernel_rfl) rfl ?_
  intro W0 w0 ρ0 hE
  conv => whnf
  skip
  refine SWx_range 5000 [3, 4] [ptrA [.frac a, .frac b, .frac c], .ptr 4 0 0 0] [(4, fb ((l.take 0).foldl (fun s p => s + monoF p a b c) 0))] [(4, fb ((l.take l.length).foldl (fun s p => s + monoF p a b c) 0))] (cc := .tup []) [9, 3, 4] rfl (fun _ h => by cases h) rfl ⟨_, rfl, by kernel_rfl, rfl⟩ (fun rc r1 r2 r3 r4 r5 r6 => ?_) rfl (one_fk rfl) (two_up (B := fb 0) (B' := fb 0) (b := 0) ⟨rfl, rfl, rfl⟩) (one_lv ⟨rfl, rfl⟩) ?_
  · refine hI rc [3, 4] [.frac a, .frac b, .frac c] (fun i => (l.take i).foldl (fun s p => s + monoF p a b c) 0) (fun i hi => ?_)
    have hp := hL _ (getP_mem hi)
    have hs := fs_at ha hb hc (l.take i) 0 (fun p hp => hL p (List.mem_of_mem_take hp))
    have hs2 : (l.take i).length * (1000 + 300 * B) ≤ 10 * (1000 + 300 * B) := Nat.mul_le_mul_right _ (by rw [List.length_take]; omega)
    rw [fs_zero] at hs
    rw [foldP _ l i hi]
    generalize (l.take i).foldl (fun s p => s + monoF p a b c) 0 = s at *
    generalize l.getD i pw0 = p at *
    clear hI hL
    refine yldK (Z := []) tabOK mixedOK r1 r2 r3 r4 r5 r6 (Nat.le_of_ble_eq_true (by kernel_rfl)) (RoundOK.one rfl rfl rfl rfl) ?_
    intro W0 w0 ρ0 lp hE
    conv => whnf
    refine ⟨rfl, fun w1 hE _ _ => ?_⟩
    conv => whnf
    (repeat (first | (rw [Nat.zero_add]; conv => whnf)))
    refine SW_loopN hE (fun k => k) [3, 4, 6, 19, 20] [5004, 6] (fun m fr hp => ∃ r V, m = 3 - r ∧ r ≤ 3 ∧ V = (match r with | 0 => p.c | 1 => pwr p.c a p.i | 2 => pwr (pwr p.c a p.i) b p.j | _ => monoF p a b c) ∧ fr = [(3, ptrA [.frac a, .frac b, .frac c]), (4, .ptr 5004 0 0 0), (6, .ptr 6 0 0 0), (19, .agg [.val (.int .i64 (p.i : Nat)), .val (.int .i64 (p.j : Nat)), .val (.int .i64 (p.k : Nat))]), (20, .val (.int .i64 (r : Nat)))] ∧
      hp = [(5004, fb s), (6, fb V)]) 3 ?_ ?_ ?_
    · kernel_rfl
    · exact ⟨0, _, rfl, Nat.zero_le _, rfl, rfl, rfl⟩
    rintro m _ _ ⟨r, V, rfl, hr, hVe, rfl, rfl⟩
    obtain rfl | rfl | rfl | rfl : r = 0 ∨ r = 1 ∨ r = 2 ∨ r = 3 := by omega
    · have hV : fs V ≤ 1000 := by rw [hVe]; exact hp.2.2.2
      conv => whnf
      have t0 : decide (((0 : Nat) : Int) < 3) = true := by decide
      have t4 := winc (i := 0) (by decide)
      have hn : p.i ≤ 100 := by have := hp.1; have := hp.2.1; have := hp.2.2.1; omega
      (repeat (first | (refine step_w1 rfl rfl ?_; conv => whnf) | (refine ⟨_, [], [], op_indexAgg rfl (ev_ok rfl) (l := [.int .i64 (p.i : Nat), .int .i64 (p.j : Nat), .int .i64 (p.k : Nat)]) rfl (ev_ok rfl) (tgt rfl) rfl (tgt rfl) rfl rfl (by decide) (by decide) (v := .int .i64 (p.i : Nat)) rfl rfl, nil_fk, nil_new, ?_⟩; conv => whnf) | (rw [t0]; conv => whnf)))
      refine SW_loopN hE (fun k => k) [3, 4, 6, 7, 19, 20, 24, 25] [5004, 6] (fun m fr hp => ∃ r, m = p.i - r ∧ r ≤ p.i ∧ fr = [(3, ptrA [.frac a, .frac b, .frac c]), (4, .ptr 5004 0 0 0), (6, .ptr 6 0 0 0), (7, .val (.int .i64 ((0 : Nat) : Int))), (19, .agg [.val (.int .i64 (p.i : Nat)), .val (.int .i64 (p.j : Nat)), .val (.int .i64 (p.k : Nat))]), (20, .val (.int .i64 ((0 : Nat) : Int))), (24, .val (.int .i64 (p.i : Nat))), (25, .val (.int .i64 (r : Nat)))] ∧
        hp = [(5004, fb s), (6, fb (pwr V a r))]) p.i ?_ ?_ ?_
      · kernel_rfl
      · exact ⟨0, rfl, Nat.zero_le _, rfl, rfl⟩
      rintro m _ _ ⟨r, rfl, hr, rfl, rfl⟩
      conv => whnf
      by_cases hlt : r < p.i
      · have t1 := dlt hlt
        have t2 := winc (i := r) (by omega)
        have hv := fs_pwrB (n := r) hV ha (by omega)
        have k1 := f_Mul (pwr V a r) a (by omega)
        (repeat ((first | refine step_w1 rfl rfl ?_ | refine step_i (by kernel_rfl) ?_ | refine g_c (by assumption) ?_ | refine g_o (op_loadA rfl (ev_ok rfl) (tgt rfl) rfl (Nat.succ_ne_zero _) rfl) ?_ | refine g_o (op_indexArrA rfl (ev_ok rfl) (ev_ok rfl) (tgt rfl) rfl (tgt rfl) (by omega) (by omega) (Nat.succ_ne_zero _) rfl) ?_ | rw [t1] | rw [t2]); conv => whnf))
        exact ⟨p.i - (r + 1), fun k => k, [3, 4, 6, 7, 19, 20, 24, 25], [5004, 6], by omega, by kernel_rfl, r + 1, rfl, hlt, rfl, rfl⟩
      · have t1 := dge hlt
        have hR : r = p.i := by omega
        subst hR
        (repeat ((first | refine step_w2 rfl rfl ?_ | rw [t1] | rw [t4] | rw [Nat.zero_add]); conv => whnf))
        exact ⟨2, fun k => k, [3, 4, 6, 19, 20], [5004, 6], by decide, by kernel_rfl, 1, _, rfl, by decide, by rw [hVe]; rfl, rfl, rfl⟩
    · have hV : fs V ≤ 1000 + 100 * B := by rw [hVe]; exact fs_pwrB hp.2.2.2 ha hp.1
      conv => whnf
      have t0 : decide (((1 : Nat) : Int) < 3) = true := by decide
      have t4 := winc (i := 1) (by decide)
      have hn : p.j ≤ 100 := by have := hp.1; have := hp.2.1; have := hp.2.2.1; omega
      (repeat (first | (refine step_w1 rfl rfl ?_; conv => whnf) | (refine ⟨_, [], [], op_indexAgg rfl (ev_ok rfl) (l := [.int .i64 (p.i : Nat), .int .i64 (p.j : Nat), .int .i64 (p.k : Nat)]) rfl (ev_ok rfl) (tgt rfl) rfl (tgt rfl) rfl rfl (by decide) (by decide) (v := .int .i64 (p.j : Nat)) rfl rfl, nil_fk, nil_new, ?_⟩; conv => whnf) | (rw [t0]; conv => whnf)))
      refine SW_loopN hE (fun k => k) [3, 4, 6, 7, 19, 20, 24, 25] [5004, 6] (fun m fr hp => ∃ r, m = p.j - r ∧ r ≤ p.j ∧ fr = [(3, ptrA [.frac a, .frac b, .frac c]), (4, .ptr 5004 0 0 0), (6, .ptr 6 0 0 0), (7, .val (.int .i64 ((1 : Nat) : Int))), (19, .agg [.val (.int .i64 (p.i : Nat)), .val (.int .i64 (p.j : Nat)), .val (.int .i64 (p.k : Nat))]), (20, .val (.int .i64 ((1 : Nat) : Int))), (24, .val (.int .i64 (p.j : Nat))), (25, .val (.int .i64 (r : Nat)))] ∧
        hp = [(5004, fb s), (6, fb (pwr V b r))]) p.j ?_ ?_ ?_
      · kernel_rfl
      · exact ⟨0, rfl, Nat.zero_le _, rfl, rfl⟩
      rintro m _ _ ⟨r, rfl, hr, rfl, rfl⟩
      conv => whnf
      by_cases hlt : r < p.j
      · have t1 := dlt hlt
        have t2 := winc (i := r) (by omega)
        have hv := fs_pwrB (n := r) hV hb (by omega)
        have k1 := f_Mul (pwr V b r) b (by omega)
        (repeat ((first | refine step_w1 rfl rfl ?_ | refine step_i (by kernel_rfl) ?_ | refine g_c (by assumption) ?_ | refine g_o (op_loadA rfl (ev_ok rfl) (tgt rfl) rfl (Nat.succ_ne_zero _) rfl) ?_ | refine g_o (op_indexArrA rfl (ev_ok rfl) (ev_ok rfl) (tgt rfl) rfl (tgt rfl) (by omega) (by omega) (Nat.succ_ne_zero _) rfl) ?_ | rw [t1] | rw [t2]); conv => whnf))
        exact ⟨p.j - (r + 1), fun k => k, [3, 4, 6, 7, 19, 20, 24, 25], [5004, 6], by omega, by kernel_rfl, r + 1, rfl, hlt, rfl, rfl⟩
      · have t1 := dge hlt
        have hR : r = p.j := by omega
        subst hR
        (repeat (first | (refine step_w2 rfl rfl ?_; conv => whnf) | (rw [t1]; conv => whnf) | (rw [t4]; conv => whnf)))
        exact ⟨1, fun k => k, [3, 4, 6, 19, 20], [5004, 6], by decide, by kernel_rfl, 2, _, rfl, by decide, by rw [hVe]; rfl, rfl, rfl⟩
    · have hV : fs V ≤ 1000 + 200 * B := by rw [hVe]; exact Nat.le_trans (fs_pwrB (fs_pwrB hp.2.2.2 ha hp.1) hb hp.2.1) (by omega)
      conv => whnf
      have t0 : decide (((2 : Nat) : Int) < 3) = true := by decide
      have t4 := winc (i := 2) (by decide)
      have hn : p.k ≤ 100 := by have := hp.1; have := hp.2.1; have := hp.2.2.1; omega
      (repeat (first | (refine step_w1 rfl rfl ?_; conv => whnf) | (refine ⟨_, [], [], op_indexAgg rfl (ev_ok rfl) (l := [.int .i64 (p.i : Nat), .int .i64 (p.j : Nat), .int .i64 (p.k : Nat)]) rfl (ev_ok rfl) (tgt rfl) rfl (tgt rfl) rfl rfl (by decide) (by decide) (v := .int .i64 (p.k : Nat)) rfl rfl, nil_fk, nil_new, ?_⟩; conv => whnf) | (rw [t0]; conv => whnf)))
      refine SW_loopN hE (fun k => k) [3, 4, 6, 7, 19, 20, 24, 25] [5004, 6] (fun m fr hp => ∃ r, m = p.k - r ∧ r ≤ p.k ∧ fr = [(3, ptrA [.frac a, .frac b, .frac c]), (4, .ptr 5004 0 0 0), (6, .ptr 6 0 0 0), (7, .val (.int .i64 ((2 : Nat) : Int))), (19, .agg [.val (.int .i64 (p.i : Nat)), .val (.int .i64 (p.j : Nat)), .val (.int .i64 (p.k : Nat))]), (20, .val (.int .i64 ((2 : Nat) : Int))), (24, .val (.int .i64 (p.k : Nat))), (25, .val (.int .i64 (r : Nat)))] ∧
        hp = [(5004, fb s), (6, fb (pwr V c r))]) p.k ?_ ?_ ?_
      · kernel_rfl
      · exact ⟨0, rfl, Nat.zero_le _, rfl, rfl⟩
      rintro m _ _ ⟨r, rfl, hr, rfl, rfl⟩
      conv => whnf
      by_cases hlt : r < p.k
      · have t1 := dlt hlt
        have t2 := winc (i := r) (by omega)
        have hv := fs_pwrB (n := r) hV hc (by omega)
        have k1 := f_Mul (pwr V c r) c (by omega)
        (repeat ((first | refine step_w1 rfl rfl ?_ | refine step_i (by kernel_rfl) ?_ | refine g_c (by assumption) ?_ | refine g_o (op_loadA rfl (ev_ok rfl) (tgt rfl) rfl (Nat.succ_ne_zero _) rfl) ?_ | refine g_o (op_indexArrA rfl (ev_ok rfl) (ev_ok rfl) (tgt rfl) rfl (tgt rfl) (by omega) (by omega) (Nat.succ_ne_zero _) rfl) ?_ | rw [t1] | rw [t2]); conv => whnf))
        exact ⟨p.k - (r + 1), fun k => k, [3, 4, 6, 7, 19, 20, 24, 25], [5004, 6], by omega, by kernel_rfl, r + 1, rfl, hlt, rfl, rfl⟩
      · have t1 := dge hlt
        have hR : r = p.k := by omega
        subst hR
        (repeat (first | (refine step_w2 rfl rfl ?_; conv => whnf) | (rw [t1]; conv => whnf) | (rw [t4]; conv => whnf)))
        exact ⟨0, fun k => k, [3, 4, 6, 19, 20], [5004, 6], by decide, by kernel_rfl, 3, _, rfl, by decide, by rw [hVe]; rfl, rfl, rfl⟩
    · have hV : fs V ≤ 1000 + 300 * B := by rw [hVe]; exact fs_mono hp ha hb hc
      have t0 : decide (((3 : Nat) : Int) < 3) = false := by decide
      have k1 := f_Add s V (by omega)
      have hVe : V = monoF p a b c := hVe
      conv => whnf
      (repeat (first | (refine step_w2 rfl rfl ?_; conv => whnf) | (refine g_c (by assumption) ?_; conv => whnf)))
      intro q x hm
      simp only [List.mem_singleton, Prod.mk.injEq] at hm
      obtain ⟨rfl, rfl⟩ := hm
      rw [← hVe]
      rfl
  conv => whnf
  skip
  rw [List.take_length]
  exact Recast.refl _
theorem c_atS (l : List Pw) (hl : l.length ≤ 10) (hL : ∀ p ∈ l, p.ok) (v u : List SV) (a b c : Rat) (B : Nat) (hB : B ≤ 100000) (ha : fs a ≤ B) (hb : fs b ≤ B) (hc : fs c ≤ B) (hI : ItOK 69 [ptrA v, ptrA u] l) :
    CallOK Tryz.prog 37 [.clo 69 [] [ptrA v, ptrA u], .agg [.frac a, .frac b, .frac c]] [] (.frac (atF l a b c)) [] [] := by
  refine callV (Z := [3]) tabOK mixedOK Tryz.func37 rfl (by kernel_rfl) rfl rfl (by kernel_rfl) rfl ?_
  intro W0 w0 ρ0 hE
  conv => whnf
  skip
  refine SWx_range 5000 [3, 4] [ptrA [.frac a, .frac b, .frac c], .ptr 4 0 0 0] [(4, fb ((l.take 0).foldl (fun s p => s + monoF p a b c) 0))] [(4, fb ((l.take l.length).foldl (fun s p => s + monoF p a b c) 0))] (cc := .tup []) [9, 3, 4] rfl (fun _ h => by cases h) rfl ⟨_, rfl, by kernel_rfl, rfl⟩ (fun rc r1 r2 r3 r4 r5 r6 => ?_) rfl (one_fk rfl) (two_up (B := fb 0) (B' := fb 0) (b := 0) ⟨rfl, rfl, rfl⟩) (one_lv ⟨rfl, rfl⟩) ?_
  · refine hI rc [3, 4] [.frac a, .frac b, .frac c] (fun i => (l.take i).foldl (fun s p => s + monoF p a b c) 0) (fun i hi => ?_)
    have hp := hL _ (getP_mem hi)
    have hs := fs_at ha hb hc (l.take i) 0 (fun p hp => hL p (List.mem_of_mem_take hp))
    have hs2 : (l.take i).length * (1000 + 300 * B) ≤ 10 * (1000 + 300 * B) := Nat.mul_le_mul_right _ (by rw [List.length_take]; omega)
    rw [fs_zero] at hs
    rw [foldP _ l i hi]
    generalize (l.take i).foldl (fun s p => s + monoF p a b c) 0 = s at *
    generalize l.getD i pw0 = p at *
    clear hI hL
    refine yldK (Z := []) tabOK mixedOK r1 r2 r3 r4 r5 r6 (Nat.le_of_ble_eq_true (by kernel_rfl)) (RoundOK.one rfl rfl rfl rfl) ?_
    intro W0 w0 ρ0 lp hE
    conv => whnf
    refine ⟨rfl, fun w1 hE _ _ => ?_⟩
    conv => whnf
    (repeat (first | (rw [Nat.zero_add]; conv => whnf)))
    refine SW_loopN hE (fun k => k) [3, 4, 6, 19, 20] [5004, 6] (fun m fr hp => ∃ r V, m = 3 - r ∧ r ≤ 3 ∧ V = (match r with | 0 => p.c | 1 => pwr p.c a p.i | 2 => pwr (pwr p.c a p.i) b p.j | _ => monoF p a b c) ∧ fr = [(3, ptrA [.frac a, .frac b, .frac c]), (4, .ptr 5004 0 0 0), (6, .ptr 6 0 0 0), (19, .agg [.val (.int .i64 (p.i : Nat)), .val (.int .i64 (p.j : Nat)), .val (.int .i64 (p.k : Nat))]), (20, .val (.int .i64 (r : Nat)))] ∧
      hp = [(5004, fb s), (6, fb V)]) 3 ?_ ?_ ?_
    · kernel_rfl
    · exact ⟨0, _, rfl, Nat.zero_le _, rfl, rfl, rfl⟩
    rintro m _ _ ⟨r, V, rfl, hr, hVe, rfl, rfl⟩
    obtain rfl | rfl | rfl | rfl : r = 0 ∨ r = 1 ∨ r = 2 ∨ r = 3 := by omega
    · have hV : fs V ≤ 1000 := by rw [hVe]; exact hp.2.2.2
      conv => whnf
      have t0 : decide (((0 : Nat) : Int) < 3) = true := by decide
      have t4 := winc (i := 0) (by decide)
      have hn : p.i ≤ 100 := by have := hp.1; have := hp.2.1; have := hp.2.2.1; omega
      (repeat (first | (refine step_w1 rfl rfl ?_; conv => whnf) | (refine ⟨_, [], [], op_indexAgg rfl (ev_ok rfl) (l := [.int .i64 (p.i : Nat), .int .i64 (p.j : Nat), .int .i64 (p.k : Nat)]) rfl (ev_ok rfl) (tgt rfl) rfl (tgt rfl) rfl rfl (by decide) (by decide) (v := .int .i64 (p.i : Nat)) rfl rfl, nil_fk, nil_new, ?_⟩; conv => whnf) | (rw [t0]; conv => whnf)))
      refine SW_loopN hE (fun k => k) [3, 4, 6, 7, 19, 20, 24, 25] [5004, 6] (fun m fr hp => ∃ r, m = p.i - r ∧ r ≤ p.i ∧ fr = [(3, ptrA [.frac a, .frac b, .frac c]), (4, .ptr 5004 0 0 0), (6, .ptr 6 0 0 0), (7, .val (.int .i64 ((0 : Nat) : Int))), (19, .agg [.val (.int .i64 (p.i : Nat)), .val (.int .i64 (p.j : Nat)), .val (.int .i64 (p.k : Nat))]), (20, .val (.int .i64 ((0 : Nat) : Int))), (24, .val (.int .i64 (p.i : Nat))), (25, .val (.int .i64 (r : Nat)))] ∧
        hp = [(5004, fb s), (6, fb (pwr V a r))]) p.i ?_ ?_ ?_
      · kernel_rfl
      · exact ⟨0, rfl, Nat.zero_le _, rfl, rfl⟩
      rintro m _ _ ⟨r, rfl, hr, rfl, rfl⟩
      conv => whnf
      by_cases hlt : r < p.i
      · have t1 := dlt hlt
        have t2 := winc (i := r) (by omega)
        have hv := fs_pwrB (n := r) hV ha (by omega)
        have k1 := f_Mul (pwr V a r) a (by omega)
        (repeat ((first | refine step_w1 rfl rfl ?_ | refine step_i (by kernel_rfl) ?_ | refine g_c (by assumption) ?_ | refine g_o (op_loadA rfl (ev_ok rfl) (tgt rfl) rfl (Nat.succ_ne_zero _) rfl) ?_ | refine g_o (op_indexArrA rfl (ev_ok rfl) (ev_ok rfl) (tgt rfl) rfl (tgt rfl) (by omega) (by omega) (Nat.succ_ne_zero _) rfl) ?_ | rw [t1] | rw [t2]); conv => whnf))
        exact ⟨p.i - (r + 1), fun k => k, [3, 4, 6, 7, 19, 20, 24, 25], [5004, 6], by omega, by kernel_rfl, r + 1, rfl, hlt, rfl, rfl⟩
      · have t1 := dge hlt
        have hR : r = p.i := by omega
        subst hR
        (repeat ((first | refine step_w2 rfl rfl ?_ | rw [t1] | rw [t4] | rw [Nat.zero_add]); conv => whnf))
        exact ⟨2, fun k => k, [3, 4, 6, 19, 20], [5004, 6], by decide, by kernel_rfl, 1, _, rfl, by decide, by rw [hVe]; rfl, rfl, rfl⟩
    · have hV : fs V ≤ 1000 + 100 * B := by rw [hVe]; exact fs_pwrB hp.2.2.2 ha hp.1
      conv => whnf
      have t0 : decide (((1 : Nat) : Int) < 3) = true := by decide
      have t4 := winc (i := 1) (by decide)
      have hn : p.j ≤ 100 := by have := hp.1; have := hp.2.1; have := hp.2.2.1; omega
      (repeat (first | (refine step_w1 rfl rfl ?_; conv => whnf) | (refine ⟨_, [], [], op_indexAgg rfl (ev_ok rfl) (l := [.int .i64 (p.i : Nat), .int .i64 (p.j : Nat), .int .i64 (p.k : Nat)]) rfl (ev_ok rfl) (tgt rfl) rfl (tgt rfl) rfl rfl (by decide) (by decide) (v := .int .i64 (p.j : Nat)) rfl rfl, nil_fk, nil_new, ?_⟩; conv => whnf) | (rw [t0]; conv => whnf)))
      refine SW_loopN hE (fun k => k) [3, 4, 6, 7, 19, 20, 24, 25] [5004, 6] (fun m fr hp => ∃ r, m = p.j - r ∧ r ≤ p.j ∧ fr = [(3, ptrA [.frac a, .frac b, .frac c]), (4, .ptr 5004 0 0 0), (6, .ptr 6 0 0 0), (7, .val (.int .i64 ((1 : Nat) : Int))), (19, .agg [.val (.int .i64 (p.i : Nat)), .val (.int .i64 (p.j : Nat)), .val (.int .i64 (p.k : Nat))]), (20, .val (.int .i64 ((1 : Nat) : Int))), (24, .val (.int .i64 (p.j : Nat))), (25, .val (.int .i64 (r : Nat)))] ∧
        hp = [(5004, fb s), (6, fb (pwr V b r))]) p.j ?_ ?_ ?_
      · kernel_rfl
      · exact ⟨0, rfl, Nat.zero_le _, rfl, rfl⟩
      rintro m _ _ ⟨r, rfl, hr, rfl, rfl⟩
      conv => whnf
      by_cases hlt : r < p.j
      · have t1 := dlt hlt
        have t2 := winc (i := r) (by omega)
        have hv := fs_pwrB (n := r) hV hb (by omega)
        have k1 := f_Mul (pwr V b r) b (by omega)
        (repeat ((first | refine step_w1 rfl rfl ?_ | refine step_i (by kernel_rfl) ?_ | refine g_c (by assumption) ?_ | refine g_o (op_loadA rfl (ev_ok rfl) (tgt rfl) rfl (Nat.succ_ne_zero _) rfl) ?_ | refine g_o (op_indexArrA rfl (ev_ok rfl) (ev_ok rfl) (tgt rfl) rfl (tgt rfl) (by omega) (by omega) (Nat.succ_ne_zero _) rfl) ?_ | rw [t1] | rw [t2]); conv => whnf))
        exact ⟨p.j - (r + 1), fun k => k, [3, 4, 6, 7, 19, 20, 24, 25], [5004, 6], by omega, by kernel_rfl, r + 1, rfl, hlt, rfl, rfl⟩
      · have t1 := dge hlt
        have hR : r = p.j := by omega
        subst hR
        (repeat (first | (refine step_w2 rfl rfl ?_; conv => whnf) | (rw [t1]; conv => whnf) | (rw [t4]; conv => whnf)))
        exact ⟨1, fun k => k, [3, 4, 6, 19, 20], [5004, 6], by decide, by kernel_rfl, 2, _, rfl, by decide, by rw [hVe]; rfl, rfl, rfl⟩
    · have hV : fs V ≤ 1000 + 200 * B := by rw [hVe]; exact Nat.le_trans (fs_pwrB (fs_pwrB hp.2.2.2 ha hp.1) hb hp.2.1) (by omega)
      conv => whnf
      have t0 : decide (((2 : Nat) : Int) < 3) = true := by decide
      have t4 := winc (i := 2) (by decide)
      have hn : p.k ≤ 100 := by have := hp.1; have := hp.2.1; have := hp.2.2.1; omega
      (repeat (first | (refine step_w1 rfl rfl ?_; conv => whnf) | (refine ⟨_, [], [], op_indexAgg rfl (ev_ok rfl) (l := [.int .i64 (p.i : Nat), .int .i64 (p.j : Nat), .int .i64 (p.k : Nat)]) rfl (ev_ok rfl) (tgt rfl) rfl (tgt rfl) rfl rfl (by decide) (by decide) (v := .int .i64 (p.k : Nat)) rfl rfl, nil_fk, nil_new, ?_⟩; conv => whnf) | (rw [t0]; conv => whnf)))
      refine SW_loopN hE (fun k => k) [3, 4, 6, 7, 19, 20, 24, 25] [5004, 6] (fun m fr hp => ∃ r, m = p.k - r ∧ r ≤ p.k ∧ fr = [(3, ptrA [.frac a, .frac b, .frac c]), (4, .ptr 5004 0 0 0), (6, .ptr 6 0 0 0), (7, .val (.int .i64 ((2 : Nat) : Int))), (19, .agg [.val (.int .i64 (p.i : Nat)), .val (.int .i64 (p.j : Nat)), .val (.int .i64 (p.k : Nat))]), (20, .val (.int .i64 ((2 : Nat) : Int))), (24, .val (.int .i64 (p.k : Nat))), (25, .val (.int .i64 (r : Nat)))] ∧
        hp = [(5004, fb s), (6, fb (pwr V c r))]) p.k ?_ ?_ ?_
      · kernel_rfl
      · exact ⟨0, rfl, Nat.zero_le _, rfl, rfl⟩
      rintro m _ _ ⟨r, rfl, hr, rfl, rfl⟩
      conv => whnf
      by_cases hlt : r < p.k
      · have t1 := dlt hlt
        have t2 := winc (i := r) (by omega)
        have hv := fs_pwrB (n := r) hV hc (by omega)
        have k1 := f_Mul (pwr V c r) c (by omega)
        (repeat ((first | refine step_w1 rfl rfl ?_ | refine step_i (by kernel_rfl) ?_ | refine g_c (by assumption) ?_ | refine g_o (op_loadA rfl (ev_ok rfl) (tgt rfl) rfl (Nat.succ_ne_zero _) rfl) ?_ | refine g_o (op_indexArrA rfl (ev_ok rfl) (ev_ok rfl) (tgt rfl) rfl (tgt rfl) (by omega) (by omega) (Nat.succ_ne_zero _) rfl) ?_ | rw [t1] | rw [t2]); conv => whnf))
        exact ⟨p.k - (r + 1), fun k => k, [3, 4, 6, 7, 19, 20, 24, 25], [5004, 6], by omega, by kernel_rfl, r + 1, rfl, hlt, rfl, rfl⟩
      · have t1 := dge hlt
        have hR : r = p.k := by omega
        subst hR
        (repeat (first | (refine step_w2 rfl rfl ?_; conv => whnf) | (rw [t1]; conv => whnf) | (rw [t4]; conv => whnf)))
        exact ⟨0, fun k => k, [3, 4, 6, 19, 20], [5004, 6], by decide, by kernel_rfl, 3, _, rfl, by decide, by rw [hVe]; rfl, rfl, rfl⟩
    · have hV : fs V ≤ 1000 + 300 * B := by rw [hVe]; exact fs_mono hp ha hb hc
      have t0 : decide (((3 : Nat) : Int) < 3) = false := by decide
      have k1 := f_Add s V (by omega)
      have hVe : V = monoF p a b c := hVe
      conv => whnf
      (repeat (first | (refine step_w2 rfl rfl ?_; conv => whnf) | (refine g_c (by assumption) ?_; conv => whnf)))
      intro q x hm
      simp only [List.mem_singleton, Prod.mk.injEq] at hm
      obtain ⟨rfl, rfl⟩ := hm
      rw [← hVe]
      rfl
  conv => whnf
  skip
  rw [List.take_length]
  exact Recast.refl _
end Go.Proofs.YtdcaodkjofkmgaaGreatDoor

namespace Go.Proofs.YtdcaodkjofkmgaaGreatDoor
open Go.Sx
set_option linter.unusedSimpArgs false
set_option linter.unusedVariables false
set_option maxRecDepth 100000
set_option maxHeartbeats 4000000

theorem hasZ_ints {ρ : Rho} (kd : IntKind) : ∀ vs : List Int, HasZ ρ (vs.map fun v => .val (.int kd v)) (vs.map fun v => [.int kd v])
  | [] => by simp [HasZ]
  | v :: vs => by
    simp only [List.map_cons, HasZ]
    exact ⟨_, _, rfl, by simp [HasC, Value.oneCell'], hasZ_ints kd vs⟩
/-- A load of several cells of a table. -/
theorem op_globLoadA {P : Program} {o : Oper} {ft : List (Nat × SV)} {fk : List (Nat × Blk)} {t : TypeId} {x : Operand} {ti : TI} {g j : Nat} {kd : IntKind} {l vs : List Int} (ho : o.op = .load t x) (hx : EvOK ft x (.val (.pointer (some ⟨g, j, none⟩)))) (ht : TOK P t ti)
    (hk : ti.kind.isAgg = true) (hsz : ti.size = vs.length) (hg : (g, kd, l) ∈ globTabs) (hv : (l.drop j).take vs.length = vs) (hle : j + vs.length ≤ l.length) : OpOK P o ft fk (.agg (vs.map fun v => .val (.int kd v))) [] [] :=
  ok_pure fun ρ a w hp => by
    have e1 := of_has_val (hx ρ a hp.hft)
    obtain ⟨ob, h1, _, ty, fz, rfl⟩ := ρ.glob g kd l hg
    have hh := hp.imm g _ h1
    have hld := run_load_at (off := j) (y := vs.map fun v => Value.int kd v) ht hh (by rw [← List.map_drop, ← List.map_take, hsz, hv]) (by rw [List.length_map, hsz]; exact hle) (.inl hk)
    rw [if_pos hk] at hld
    refine ⟨.agg (vs.map fun v => Value.int kd v).toArray, ?_, ?_⟩
    · simp only [execOp, ho, Instr.loadAt, Instr.sureAddr, e1, Sem.run_bind, Sem.run_pure, Result.andThen_ok, hld]
    · refine (Has_iff (c := .agg _) rfl).2 ⟨vs.map fun v => Value.int kd v, ?_, by simp [mkV, SV.isOne]⟩
      simp only [HasC]
      refine ⟨_, hasZ_ints kd vs, ?_⟩
      rw [← List.flatMap_def, List.map_eq_flatMap]

def manyF (o : Int) : Nat := if o = 1 then 3 else if o = 2 then 6 else 0
theorem c_Many (o : Int) : CallOK Tryz.prog 21 [.val (.int .i64 o)] [] (.val (.int .i64 (manyF o : Nat))) [] [] := by
  refine callV (Z := []) tabOK mixedOK Tryz.func21 rfl (by kernel_rfl) rfl rfl (by kernel_rfl) rfl ?_
  intro W0 w0 ρ0 hE
  conv => whnf
  by_cases h1 : o = 1
  · subst h1
    (repeat (first | (refine step_w1 rfl rfl ?_; conv => whnf)))
    exact Recast.refl _
  · have t1 : (o == 1) = false := beq_false_of_ne h1
    by_cases h2 : o = 2
    · subst h2
      (repeat (first | (refine step_w1 rfl rfl ?_; conv => whnf) | (refine step_w2 rfl rfl ?_; conv => whnf)))
      exact Recast.refl _
    · have t2 : (o == 2) = false := beq_false_of_ne h2
      have e : manyF o = 0 := by simp [manyF, h1, h2]
      rw [e]
      (repeat (first | (refine step_w2 rfl rfl ?_; conv => whnf) | (rw [t1]; conv => whnf) | (rw [t2]; conv => whnf)))
      exact Recast.refl _
def thereF (o n : Int) : Bool := decide (0 ≤ n) && decide (n < (manyF o : Nat))
theorem c_there (o n : Int) : CallOK Tryz.prog 63 [.val (.int .i64 o), .val (.int .i64 n)] [] (.val (.bool (thereF o n))) [] [] := by
  have k1 := c_Many o
  refine callV (Z := []) tabOK mixedOK Tryz.func63 rfl (by kernel_rfl) rfl rfl (by kernel_rfl) rfl ?_
  intro W0 w0 ρ0 hE
  conv => whnf
  by_cases h1 : 0 ≤ n
  · have t1 : decide (n ≥ 0) = true := decide_eq_true h1
    have e : thereF o n = decide (n < (manyF o : Nat)) := by simp [thereF, h1]
    rw [e]
    (repeat ((first | refine step_w1 rfl rfl ?_ | refine g_c (by assumption) ?_ | refine g_o (op_pickT rfl (ev_ok rfl) (ev_ok rfl)) ?_ | rw [t1]); conv => whnf))
    exact Recast.refl _
  · have t1 : decide (n ≥ 0) = false := decide_eq_false h1
    have e : thereF o n = false := by simp [thereF, h1]
    rw [e]
    (repeat (first | (refine step_w2 rfl rfl ?_; conv => whnf) | (refine g_o (op_pickF rfl (ev_ok rfl) (ev_ok rfl)) ?_; conv => whnf) | (rw [t1]; conv => whnf)))
    exact Recast.refl _

/-- c times the coordinates with the given indices. -/
def unitP (c : Int) (l : List Int) : Pw := ⟨l.count 0, l.count 1, l.count 2, (c : Rat)⟩
theorem count_take (l : List Int) (i : Nat) (hi : i < l.length) (x : Int) : (l.take (i + 1)).count x = (l.take i).count x + if l.getD i 0 = x then 1 else 0 := by
  rw [List.take_add_one, List.getD_eq_getElem?_getD, List.getElem?_eq_getElem hi, List.count_append]
  simp [List.count_singleton]
def eblk (l : List Int) : Blk := ⟨70, true, .one [.val (.int .i64 (l.count 0 : Nat)), .val (.int .i64 (l.count 1 : Nat)), .val (.int .i64 (l.count 2 : Nat))]⟩
theorem c_power (c : Int) (hc : -9223372036854775808 ≤ c ∧ c < 9223372036854775808) (l : List Int) (hl : l.length < 1000) (h3 : ∀ x ∈ l, x = 0 ∨ x = 1 ∨ x = 2) :
    CallOK Tryz.prog 64 [.val (.int .i64 c), ivec .i64 l] [] (unitP c l).sv [] [] := by
  have k1 := c_fInt c hc.1 hc.2
  refine callV (Z := []) tabOK mixedOK Tryz.func64 rfl (by kernel_rfl) rfl rfl (by kernel_rfl) rfl ?_
  intro W0 w0 ρ0 hE
  conv => whnf
  (repeat (first | (refine g_o (op_lenM rfl rfl rfl (ev_ok rfl) (tgt rfl) rfl) ?_; conv => whnf)))
  refine SW_loopN hE (fun k => k) [0, 4, 5, 8, 9, 10] [4, 5] (fun m fr hp => ∃ i, m = l.length - i ∧ i ≤ l.length ∧ fr = [(0, .val (.int .i64 c)), (4, .ptr 4 0 0 0), (5, .ptr 5 0 0 0), (8, ivec .i64 l), (9, .val (.int .i64 (l.length : Nat))), (10, .val (.int .i64 (i : Nat)))] ∧
    hp = [(4, ⟨83, true, .one [.val (.int .i64 0), .val (.int .i64 0), .val (.int .i64 0), .frac 0]⟩), (5, eblk (l.take i))]) l.length ?_ ?_ ?_
  · kernel_rfl
  · exact ⟨0, rfl, Nat.zero_le _, rfl, rfl⟩
  rintro m _ _ ⟨i, rfl, hi, rfl, rfl⟩
  conv => whnf
  by_cases hlt : i < l.length
  · have t1 := dlt hlt
    have t2 := winc (i := i) (by omega)
    rcases h3 (l.getD i 0) (by rw [List.getD_eq_getElem?_getD, List.getElem?_eq_getElem hlt]; exact List.getElem_mem hlt) with hx | hx | hx
    · skip
      have e0 := count_take l i hlt 0
      have e1 := count_take l i hlt 1
      have e2 := count_take l i hlt 2
      rw [hx] at e0 e1 e2
      rw [if_pos (by decide)] at e0
      rw [if_neg (by decide)] at e1
      rw [if_neg (by decide)] at e2
      have b0 := List.count_le_length (a := 0) (l := l.take i)
      rw [List.length_take] at b0
      have t5 : IntKind.i64.wrap ((((l.take i).count 0 : Nat) : Int) + 1) = (((l.take i).count 0 + 1 : Nat) : Int) := winc (by omega)
      (repeat ((first | refine step_w1 rfl rfl ?_ | refine And.intro (by first | decide | omega | (simp only [tiB5, tiB23, tiB3, tiB2, tiB9, tiB36, tiB54, tiB121, tiB34, tiB28, tiB4, tiB50, tiB52, dlen, List.length_replicate, List.length_set, List.length_map, List.length_zipWith, List.length_take, List.length_append, List.length_cons, List.length_nil]; omega)) ?_ | refine g_o (op_loadA rfl (ev_ok rfl) (tgt rfl) rfl (Nat.succ_ne_zero _) rfl) ?_ | refine g_o (op_indexN (α := Int) (d := 0) rfl (ev_ok rfl) (ev_ok rfl) (tgt rfl) rfl (tgt rfl) rfl (by omega)) ?_ | rw [t1] | rw [t2] | rw [hx] | rw [t5] | rw [Nat.zero_add]); conv => whnf))
      exact ⟨l.length - (i + 1), fun k => k, [0, 4, 5, 8, 9, 10], [4, 5], by omega, by kernel_rfl, i + 1, rfl, hlt, rfl, by unfold eblk; rw [e0, e1, e2]; rfl⟩
    · skip
      have e0 := count_take l i hlt 0
      have e1 := count_take l i hlt 1
      have e2 := count_take l i hlt 2
      rw [hx] at e0 e1 e2
      rw [if_neg (by decide)] at e0
      rw [if_pos (by decide)] at e1
      rw [if_neg (by decide)] at e2
      have b0 := List.count_le_length (a := 1) (l := l.take i)
      rw [List.length_take] at b0
      have t5 : IntKind.i64.wrap ((((l.take i).count 1 : Nat) : Int) + 1) = (((l.take i).count 1 + 1 : Nat) : Int) := winc (by omega)
      (repeat ((first | refine step_w1 rfl rfl ?_ | refine And.intro (by first | decide | omega | (simp only [tiB5, tiB23, tiB3, tiB2, tiB9, tiB36, tiB54, tiB121, tiB34, tiB28, tiB4, tiB50, tiB52, dlen, List.length_replicate, List.length_set, List.length_map, List.length_zipWith, List.length_take, List.length_append, List.length_cons, List.length_nil]; omega)) ?_ | refine g_o (op_loadA rfl (ev_ok rfl) (tgt rfl) rfl (Nat.succ_ne_zero _) rfl) ?_ | refine g_o (op_indexN (α := Int) (d := 0) rfl (ev_ok rfl) (ev_ok rfl) (tgt rfl) rfl (tgt rfl) rfl (by omega)) ?_ | rw [t1] | rw [t2] | rw [hx] | rw [t5] | rw [Nat.zero_add]); conv => whnf))
      exact ⟨l.length - (i + 1), fun k => k, [0, 4, 5, 8, 9, 10], [4, 5], by omega, by kernel_rfl, i + 1, rfl, hlt, rfl, by unfold eblk; rw [e0, e1, e2]; rfl⟩
    · skip
      have e0 := count_take l i hlt 0
      have e1 := count_take l i hlt 1
      have e2 := count_take l i hlt 2
      rw [hx] at e0 e1 e2
      rw [if_neg (by decide)] at e0
      rw [if_neg (by decide)] at e1
      rw [if_pos (by decide)] at e2
      have b0 := List.count_le_length (a := 2) (l := l.take i)
      rw [List.length_take] at b0
      have t5 : IntKind.i64.wrap ((((l.take i).count 2 : Nat) : Int) + 1) = (((l.take i).count 2 + 1 : Nat) : Int) := winc (by omega)
      (repeat ((first | refine step_w1 rfl rfl ?_ | refine And.intro (by first | decide | omega | (simp only [tiB5, tiB23, tiB3, tiB2, tiB9, tiB36, tiB54, tiB121, tiB34, tiB28, tiB4, tiB50, tiB52, dlen, List.length_replicate, List.length_set, List.length_map, List.length_zipWith, List.length_take, List.length_append, List.length_cons, List.length_nil]; omega)) ?_ | refine g_o (op_loadA rfl (ev_ok rfl) (tgt rfl) rfl (Nat.succ_ne_zero _) rfl) ?_ | refine g_o (op_indexN (α := Int) (d := 0) rfl (ev_ok rfl) (ev_ok rfl) (tgt rfl) rfl (tgt rfl) rfl (by omega)) ?_ | rw [t1] | rw [t2] | rw [hx] | rw [t5] | rw [Nat.zero_add]); conv => whnf))
      exact ⟨l.length - (i + 1), fun k => k, [0, 4, 5, 8, 9, 10], [4, 5], by omega, by kernel_rfl, i + 1, rfl, hlt, rfl, by unfold eblk; rw [e0, e1, e2]; rfl⟩
  · have t1 := dge hlt
    have hI : i = l.length := by omega
    subst hI
    rw [List.take_length]
    (repeat ((first | refine step_w2 rfl rfl ?_ | refine step_i (by kernel_rfl) ?_ | refine And.intro (by first | decide | omega | (simp only [tiB5, tiB23, tiB3, tiB2, tiB9, tiB36, tiB54, tiB121, tiB34, tiB28, tiB4, tiB50, tiB52, dlen, List.length_replicate, List.length_set, List.length_map, List.length_zipWith, List.length_take, List.length_append, List.length_cons, List.length_nil]; omega)) ?_ | refine g_c (by assumption) ?_ | rw [t1]); conv => whnf))
    exact Recast.refl _

/-- The ends of a side. -/
def endsF : Int → List Int
  | 3 => [1, 2]
  | 4 => [2, 0]
  | _ => [0, 1]
def powersF (o n : Int) : List Pw := if thereF o n then (if o = 1 then [unitP 1 [n]] else if n < 3 then [unitP 2 [n, n], unitP (-1) [n]] else [unitP 4 (endsF n)]) else []
theorem there_cases {o n : Int} (h : thereF o n = true) : (o = 1 ∧ (n = 0 ∨ n = 1 ∨ n = 2)) ∨ (o = 2 ∧ (n = 0 ∨ n = 1 ∨ n = 2 ∨ n = 3 ∨ n = 4 ∨ n = 5)) := by
  simp only [thereF, Bool.and_eq_true, decide_eq_true_eq] at h
  unfold manyF at h
  by_cases h1 : o = 1
  · rw [if_pos h1] at h; exact .inl ⟨h1, by omega⟩
  · rw [if_neg h1] at h
    by_cases h2 : o = 2
    · rw [if_pos h2] at h; exact .inr ⟨h2, by omega⟩
    · rw [if_neg h2] at h; omega

theorem tabSides : ((0, .i64, [1, 2, 2, 0, 0, 1]) : Nat × IntKind × List Int) ∈ globTabs := by simp [globTabs]
theorem c_PowersNo (o n : Int) (h : thereF o n = false) : CallOK Tryz.prog 33 [.val (.int .i64 o), .val (.int .i64 n)] [] (.tup [mvec 8 Pw.sv [], .val (.int .i64 1)]) [] [] := by
  have k1 := c_there o n
  rw [h] at k1
  refine callF (Z := []) tabOK mixedOK Tryz.func33 rfl (by kernel_rfl) (by first | rfl | (simp [keylessL, keyless, keylessL_map, *]; done)) (by first | rfl | (simp [keylessL, keyless, keylessL_map, *]; done)) (by kernel_rfl) rfl ?_
  intro w0 ρ0 hE
  conv => whnf
  (repeat (first | (refine step_w1 rfl rfl ?_; conv => whnf) | (refine g_c (by assumption) ?_; conv => whnf))); (first | exact Recast.refl _ | exact Frz.recast (Recast.refl _) rfl | (refine Frz.one rfl rfl ?_; skip) | (refine Frz.tup ?_; (repeat (first | exact FrzC.keyless rfl | exact FrzL.nil | refine FrzL.cons ?_ ?_ | exact FrzC.nilS))))
theorem c_PowersYes (o n : Int) (h : thereF o n = true) : CallOK Tryz.prog 33 [.val (.int .i64 o), .val (.int .i64 n)] [] (.tup [mvec 8 Pw.sv (powersF o n), .val (.int .i64 0)]) [] [] := by
  have k1 := c_there o n
  rw [h] at k1
  have e : powersF o n = if o = 1 then [unitP 1 [n]] else if n < 3 then [unitP 2 [n, n], unitP (-1) [n]] else [unitP 4 (endsF n)] := by rw [powersF, if_pos h]
  rw [e]
  rcases there_cases h with ⟨rfl, hn⟩ | ⟨rfl, hn⟩
  · have k2 := c_power 1 (by decide) [n] (by simp) (by intro x hx; simp only [List.mem_singleton] at hx; subst hx; exact hn)
    refine callV (Z := [16, 18]) tabOK mixedOK Tryz.func33 rfl (by kernel_rfl) rfl rfl (by kernel_rfl) rfl ?_
    intro W0 w0 ρ0 hE
    conv => whnf
    (repeat (first | (refine step_w1 rfl rfl ?_; conv => whnf) | (refine step_w2 rfl rfl ?_; conv => whnf) | (refine g_c (by assumption) ?_; conv => whnf)))
    exact Recast.refl _
  · by_cases h3 : n < 3
    · have hn' : n = 0 ∨ n = 1 ∨ n = 2 := by omega
      have k2 := c_power 2 (by decide) [n, n] (by simp) (by intro x hx; simp only [List.mem_cons, List.not_mem_nil, or_false] at hx; rcases hx with rfl | rfl <;> exact hn')
      have k3 := c_power (-1) (by decide) [n] (by simp) (by intro x hx; simp only [List.mem_singleton] at hx; subst hx; exact hn')
      have t3 : decide (n < 3) = true := decide_eq_true h3
      rw [if_neg (by decide), if_pos h3]
      refine callV (Z := [24, 27, 29]) tabOK mixedOK Tryz.func33 rfl (by kernel_rfl) rfl rfl (by kernel_rfl) rfl ?_
      intro W0 w0 ρ0 hE
      conv => whnf
      (repeat ((first | refine step_w1 rfl rfl ?_ | refine step_w2 rfl rfl ?_ | refine g_c (by assumption) ?_ | rw [t3]); conv => whnf))
      exact Recast.refl _
    · have hn' : n = 3 ∨ n = 4 ∨ n = 5 := by omega
      have t3 : decide (n < 3) = false := decide_eq_false h3
      rw [if_neg (by decide), if_neg h3]
      rcases hn' with rfl | rfl | rfl
      · skip
        have t4 : IntKind.i64.wrap ((3 : Int) - 3) = 0 := by decide
        have k2 := c_power 4 (by decide) [1, 2] (by decide) (by decide)
        refine callV (Z := [38, 40]) tabOK mixedOK Tryz.func33 rfl (by kernel_rfl) rfl rfl (by kernel_rfl) rfl ?_
        intro W0 w0 ρ0 hE
        conv => whnf
        (repeat ((first | refine step_w2 rfl rfl ?_ | refine And.intro (by first | decide | omega | (simp only [tiB5, tiB23, tiB3, tiB2, tiB9, tiB36, tiB54, tiB121, tiB34, tiB28, tiB4, tiB50, tiB52, dlen, List.length_replicate, List.length_set, List.length_map, List.length_zipWith, List.length_take, List.length_append, List.length_cons, List.length_nil]; omega)) ?_ | refine g_c (by assumption) ?_ | refine ⟨_, [], [], op_globIndex rfl (ev_ok rfl) (ev_ok rfl) (tgt rfl) rfl (tgt rfl) (by decide) (by decide), nil_fk, nil_new, ?_⟩ | refine ⟨_, [], [], op_globLoadA rfl (ev_ok rfl) (tgt rfl) rfl (vs := [1, 2]) rfl tabSides (by decide) (by decide), nil_fk, nil_new, ?_⟩); conv => whnf))
        exact Recast.refl _
      · skip
        have t4 : IntKind.i64.wrap ((4 : Int) - 3) = 1 := by decide
        have k2 := c_power 4 (by decide) [2, 0] (by decide) (by decide)
        refine callV (Z := [38, 40]) tabOK mixedOK Tryz.func33 rfl (by kernel_rfl) rfl rfl (by kernel_rfl) rfl ?_
        intro W0 w0 ρ0 hE
        conv => whnf
        (repeat ((first | refine step_w2 rfl rfl ?_ | refine And.intro (by first | decide | omega | (simp only [tiB5, tiB23, tiB3, tiB2, tiB9, tiB36, tiB54, tiB121, tiB34, tiB28, tiB4, tiB50, tiB52, dlen, List.length_replicate, List.length_set, List.length_map, List.length_zipWith, List.length_take, List.length_append, List.length_cons, List.length_nil]; omega)) ?_ | refine g_c (by assumption) ?_ | refine ⟨_, [], [], op_globIndex rfl (ev_ok rfl) (ev_ok rfl) (tgt rfl) rfl (tgt rfl) (by decide) (by decide), nil_fk, nil_new, ?_⟩ | refine ⟨_, [], [], op_globLoadA rfl (ev_ok rfl) (tgt rfl) rfl (vs := [2, 0]) rfl tabSides (by decide) (by decide), nil_fk, nil_new, ?_⟩); conv => whnf))
        exact Recast.refl _
      · skip
        have t4 : IntKind.i64.wrap ((5 : Int) - 3) = 2 := by decide
        have k2 := c_power 4 (by decide) [0, 1] (by decide) (by decide)
        refine callV (Z := [38, 40]) tabOK mixedOK Tryz.func33 rfl (by kernel_rfl) rfl rfl (by kernel_rfl) rfl ?_
        intro W0 w0 ρ0 hE
        conv => whnf
        (repeat ((first | refine step_w2 rfl rfl ?_ | refine And.intro (by first | decide | omega | (simp only [tiB5, tiB23, tiB3, tiB2, tiB9, tiB36, tiB54, tiB121, tiB34, tiB28, tiB4, tiB50, tiB52, dlen, List.length_replicate, List.length_set, List.length_map, List.length_zipWith, List.length_take, List.length_append, List.length_cons, List.length_nil]; omega)) ?_ | refine g_c (by assumption) ?_ | refine ⟨_, [], [], op_globIndex rfl (ev_ok rfl) (ev_ok rfl) (tgt rfl) rfl (tgt rfl) (by decide) (by decide), nil_fk, nil_new, ?_⟩ | refine ⟨_, [], [], op_globLoadA rfl (ev_ok rfl) (tgt rfl) rfl (vs := [0, 1]) rfl tabSides (by decide) (by decide), nil_fk, nil_new, ?_⟩); conv => whnf))
        exact Recast.refl _
end Go.Proofs.YtdcaodkjofkmgaaGreatDoor
