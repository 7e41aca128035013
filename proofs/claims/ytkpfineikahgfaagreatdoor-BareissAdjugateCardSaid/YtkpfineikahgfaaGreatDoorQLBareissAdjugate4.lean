/- The texts Eg, Eh, Ei, Fa, Ej, Ek, Em, Ga, Gb, Gc, Gd, Ge, Shelf, Ha, Hb, Pa, Hc, Hd, Ja, Na, Nb, Nc, Nd, Ne, Jb, Ta, Tb, Tc, Ka, Kb. -/
import Derived.Shelf.Strings.Builder1
import Derived.Shelf.Strings.Builder2
import Derived.Shelf.Strings.OnBuilder
import Derived.Shelf.Small.Bits
import Derived.Shelf.Strings.BuilderF
import Derived.Shelf.Strings.Builder2Cap
import Derived.Shelf.Strconv.Itoa0
import Derived.Shelf.Strconv.Itoa1
import Derived.Shelf.LaysM
import Derived.Shelf.Strconv.Itoa2
import Derived.Shelf.Strconv.Itoa3
import Derived.Shelf.Strings.Prefix
import Derived.Shelf.Bits.Mul64
import Derived.Shelf.Strings.Repeat
import Derived.Ground.Names2Prog
import Derived.Shelf.Slices.ReverseS
import Derived.Shelf.Slices.Cells
import Derived.Test.YtkpfineikahgfaaGreatDoorProg
import Derived.Lib.Walk
import Derived.Lib.ItoaMem
import Derived.Lib.AppendIntMem
import Derived.WalkKit
import Derived.BigCall
import Derived.BigGuard
import Derived.Test.YtkpfineikahgfaaGreatDoorQLBareissAdjugate3
namespace Go.Proofs.YtkpfineikahgfaaGreatDoor
open Go.Sx
set_option linter.unusedSimpArgs false
set_option linter.unusedVariables false
set_option maxRecDepth 100000
set_option maxHeartbeats 4000000

theorem c_short (xs : List Int) (n : Nat) (hn : n ≤ xs.length) (hl : xs.length < 1099511627776) (hx : W32 xs) (y : Nat) (hy0 : y ≠ 0) (hy : y < 4294967296) (K Q : Nat) (hKQ : Q ≠ K) (wr : Bool) (X : Nat) (hX : valI xs n = X) :
    CallOK Tryz.prog 224 [.slc K 1 0 n, .val (.int .u32 y)] [(K, ⟨95, wr, .ints .u32 xs⟩)] (.tup [.slc Q 1 0 n, .val (.int .u32 (X % y : Nat))]) [(Q, ⟨95, true, .ints .u32 (digs (X / y) n)⟩)] [] := by
  refine CallOK.anyWr ?_
  refine callK (Z := []) tabOK mixedOK Tryz.func224 rfl (by kernel_rfl) (args := [.slc 0 1 0 n, .val (.int .u32 y)]) (fk := [(0, ⟨95, false, .ints .u32 xs⟩)]) (c := .tup [.slc 9 1 0 n, .val (.int .u32 (X % y : Nat))]) (new := [(9, ⟨95, true, .ints .u32 (digs (X / y) n)⟩)]) (upd := []) (ShapeOK.of rfl rfl rfl rfl rfl rfl rfl rfl rfl rfl rfl) rfl (renBy [(0, K), (9, Q)]) (NamesOK.roNew rfl (fun q hq => by simp [keysOf] at hq; subst hq; exact hKQ)) ?_
  intro W0 w0 ρ0 hE
  conv => whnf
  have e0 : IntKind.i64.wrap ((n : Int) - 1) = (n : Int) - 1 := wrap_i64 (by omega) (by omega)
  (repeat (first | (refine And.intro (by first | decide | omega | (simp only [tl0, dlen, List.length_replicate, List.length_set, List.length_map, List.length_zipWith, List.length_take, List.length_append, List.length_cons, List.length_nil]; omega)) ?_; conv => whnf) | (rw [e0]; conv => whnf)))
  refine SW_loopN hE (fun k => k) [0, 1, 4, 5, 6] [0, 9] (fun j fr hp => ∃ (q : List Int) (r : Nat), j ≤ n ∧ q.length = n ∧ W32 q ∧ (∀ i, i < j → q.getD i 0 = 0) ∧ r < y ∧ valI q n * y + r * 4294967296 ^ j = X - valI xs j ∧
    fr = [(0, .slc 0 1 0 n), (1, .val (.int .u32 y)), (4, .slc 9 1 0 n), (5, .val (.int .u32 r)), (6, .val (.int .i64 ((j : Int) - 1)))] ∧ hp = [(0, ⟨95, false, .ints .u32 xs⟩), (9, ⟨95, true, .ints .u32 q⟩)]) n ?_ ?_ ?_
  · kernel_rfl
  · exact ⟨List.replicate n 0, 0, by omega, by simp, (fun i => by rw [getD_replicate]; decide), (fun i _ => getD_replicate), by omega, by rw [valI_zeros (k := 0) (fun i _ _ => getD_replicate) (by omega), hX]; simp [valI], rfl, rfl⟩
  rintro j _ _ ⟨q, r, hj, hql, hq, hq0, hr, hval, rfl, rfl⟩
  by_cases h0 : j = 0
  · subst h0
    have t2 : decide (((0 : Nat) : Int) - 1 ≥ 0) = false := rfl
    obtain ⟨Qv, hQ⟩ := Int.eq_ofNat_of_zero_le (valI_nonneg hq n)
    have hX2 : Qv * y + r = X := by
      rw [hQ, Int.pow_zero, Int.mul_one, valI, Int.sub_zero, ← Int.natCast_mul] at hval
      omega
    have hdiv : X / y = Qv := by rw [← hX2, Nat.add_comm, Nat.add_mul_div_right _ _ (by omega), Nat.div_eq_of_lt hr, Nat.zero_add]
    have hmod : X % y = r := by rw [← hX2, Nat.add_comm, Nat.add_mul_mod_self_right, Nat.mod_eq_of_lt hr]
    rw [hdiv, hmod, ← digs_of' hql hq hQ]
    conv => whnf
    (repeat (first | (refine step_w2 rfl rfl ?_; conv => whnf)))
    exact ⟨Recast.refl _, one_get rfl, (fun _ _ h => by cases h)⟩
  · obtain ⟨i, rfl⟩ : ∃ i, j = i + 1 := ⟨j - 1, by omega⟩
    have ei : (((i + 1 : Nat) : Int) - 1) = (i : Int) := by omega
    rw [ei]
    have t2 : decide ((i : Int) ≥ 0) = true := decide_eq_true (by omega)
    have e1 : 0 + (i : Int).toNat = i := by omega
    have e2 : IntKind.i64.wrap ((i : Int) - 1) = (i : Int) - 1 := wrap_i64 (by omega) (by omega)
    obtain ⟨w, hww⟩ := Int.eq_ofNat_of_zero_le (hx i).1
    have hw2 := (hx i).2
    have kd := c_Div32 r w y hr (by omega) hy
    have hrl : (r * 4294967296 + w) % y < y := Nat.mod_lt _ (by omega)
    have hqd : (r * 4294967296 + w) / y < 4294967296 := Nat.div_lt_of_lt_mul (by
      have := Nat.mul_le_mul_right 4294967296 (show r + 1 ≤ y by omega)
      rw [Nat.mul_comm y]; omega)
    have hstep : valI (q.set i (((r * 4294967296 + w) / y : Nat) : Int)) n * y + (((r * 4294967296 + w) % y : Nat) : Int) * 4294967296 ^ i = X - valI xs i := by
      rw [valI_set (by omega) (by omega), hq0 i (by omega), Int.sub_zero]
      have hdm : ((y : Int) * (((r * 4294967296 + w) / y : Nat) : Int) + (((r * 4294967296 + w) % y : Nat) : Int)) = (r : Int) * 4294967296 + w := by
        have := Nat.div_add_mod (r * 4294967296 + w) y
        rw [← Int.natCast_mul, ← Int.natCast_add, this]; omega
      rw [Int.pow_succ, valI, hww] at hval
      generalize (((r * 4294967296 + w) / y : Nat) : Int) = d at *
      generalize (((r * 4294967296 + w) % y : Nat) : Int) = e at *
      generalize (4294967296 : Int) ^ i = P at *
      grind
    conv => whnf
    (repeat ((first | refine step_w1 rfl rfl ?_ | refine And.intro (by first | decide | omega | (simp only [tl0, dlen, List.length_replicate, List.length_set, List.length_map, List.length_zipWith, List.length_take, List.length_append, List.length_cons, List.length_nil]; omega)) ?_ | refine g_c (by assumption) ?_ | rw [t2] | rw [e1] | rw [hww] | rw [e2]); conv => whnf))
    exact ⟨i, fun k => k, [0, 1, 4, 5, 6], [0, 9], by omega, by kernel_rfl, _, _, by omega, by simpa using hql, hq.set (Int.natCast_nonneg _) (Int.ofNat_lt.2 hqd), (fun j hj => by rw [getD_set, if_neg (by omega)]; exact hq0 j (by omega)), hrl, hstep, rfl, rfl⟩

theorem shl_or {w s c : Nat} (hs : s < 32) (hc : c < 2 ^ s) (hw : w < 4294967296) :
    ior .u32 (ishl .u32 (w : Int) (s : Int)) (c : Int) = ((w * 2 ^ s % 4294967296 + c : Nat) : Int) ∧ w * 2 ^ s % 4294967296 + c < 4294967296 := by
  have hmin : min (s : Int).toNat IntKind.u32.bits = s := by simp [IntKind.bits]; omega
  have e : ishl .u32 (w : Int) (s : Int) = ((w * 2 ^ s % 4294967296 : Nat) : Int) := by
    rw [ishl, hmin, show (w : Int) * 2 ^ s = ((w * 2 ^ s : Nat) : Int) from by rw [Int.natCast_mul, Int.natCast_pow]; rfl]
    exact wu32m _
  have hW : 4294967296 = 2 ^ (32 - s) * 2 ^ s := by rw [← Nat.pow_add, show 32 - s + s = 32 from by omega]
  have e2 : w * 2 ^ s % 4294967296 = 2 ^ s * (w % 2 ^ (32 - s)) := by
    rw [hW, Nat.mul_mod_mul_right, Nat.mul_comm]
  have hm : w * 2 ^ s % 4294967296 < 4294967296 := Nat.mod_lt _ (by decide)
  have hlt : w % 2 ^ (32 - s) < 2 ^ (32 - s) := Nat.mod_lt _ (Nat.two_pow_pos _)
  have hsum : w * 2 ^ s % 4294967296 + c < 4294967296 := by
    rw [e2]
    have := Nat.mul_le_mul_left (2 ^ s) (show w % 2 ^ (32 - s) + 1 ≤ 2 ^ (32 - s) from hlt)
    rw [Nat.mul_comm (2 ^ s) (2 ^ (32 - s)), ← hW, Nat.mul_add, Nat.mul_one] at this
    omega
  refine ⟨?_, hsum⟩
  rw [e, ior_u32 hm (by omega)]
  congr 1
  rw [e2, ← Nat.two_pow_add_eq_or_of_lt hc]

theorem c_shifted (xs : List Int) (n : Nat) (hn : n ≤ xs.length) (hl : xs.length < 1099511627776) (hx : W32 xs) (s : Nat) (hs : s < 32) (K Q : Nat) (hKQ : Q ≠ K) (wr : Bool) (X : Nat) (hX : valI xs n = X) :
    CallOK Tryz.prog 254 [.slc K 1 0 n, .val (.int .i64 s)] [(K, ⟨95, wr, .ints .u32 xs⟩)] (.slc Q 1 0 (n + 1)) [(Q, ⟨95, true, .ints .u32 (digs (X * 2 ^ s) (n + 1))⟩)] [] := by
  refine CallOK.anyWr ?_
  refine callK (Z := []) tabOK mixedOK Tryz.func254 rfl (by kernel_rfl) (args := [.slc 0 1 0 n, .val (.int .i64 s)]) (fk := [(0, ⟨95, false, .ints .u32 xs⟩)]) (c := .slc 12 1 0 (n + 1)) (new := [(12, ⟨95, true, .ints .u32 (digs (X * 2 ^ s) (n + 1))⟩)]) (upd := []) (ShapeOK.of rfl rfl rfl rfl rfl rfl rfl rfl rfl rfl rfl) rfl (renBy [(0, K), (12, Q)]) (NamesOK.roNew rfl (fun q hq => by simp [keysOf] at hq; subst hq; exact hKQ)) ?_
  intro W0 w0 ρ0 hE
  conv => whnf
  have ew : IntKind.i64.wrap ((n : Int) + 1) = ((n + 1 : Nat) : Int) := by rw [wrap_i64 (by omega) (by omega)]; omega
  (repeat (first | (refine And.intro (by first | decide | omega | (simp only [tl0, dlen, List.length_replicate, List.length_set, List.length_map, List.length_zipWith, List.length_take, List.length_append, List.length_cons, List.length_nil]; omega)) ?_; conv => whnf) | (rw [ew]; conv => whnf)))
  refine SW_loopN hE (fun k => k) [0, 1, 5, 6, 13, 14, 15] [0, 12] (fun m fr hp => ∃ (i : Nat) (out : List Int) (c : Nat), m = n - i ∧ i ≤ n ∧ out.length = n + 1 ∧ W32 out ∧ c < 2 ^ s ∧ valI out i + c * 4294967296 ^ i = valI xs i * 2 ^ s ∧
    fr = [(0, .slc 0 1 0 n), (1, .val (.int .i64 s)), (5, .slc 12 1 0 (n + 1)), (6, .val (.int .u32 c)), (13, .slc 0 1 0 n), (14, .val (.int .i64 n)), (15, .val (.int .i64 i))] ∧ hp = [(0, ⟨95, false, .ints .u32 xs⟩), (12, ⟨95, true, .ints .u32 out⟩)]) n ?_ ?_ ?_
  · kernel_rfl
  · exact ⟨0, List.replicate (n + 1) 0, 0, by omega, by omega, by simp, (fun i => by rw [getD_replicate]; decide), Nat.two_pow_pos s, by simp [valI], rfl, rfl⟩
  rintro m _ _ ⟨i, out, c, rfl, hi, hlen, hw, hc, hval, rfl, rfl⟩
  have hs64 : 2 ^ s ≤ 2147483648 := Nat.le_trans (Nat.pow_le_pow_right (by decide) (show s ≤ 31 by omega)) (by decide)
  by_cases hlt : i < n
  · have t1 : decide ((i : Int) < (n : Int)) = true := decide_eq_true (by omega)
    have e1 : 0 + (i : Int).toNat = i := by omega
    have e2 : IntKind.i64.wrap ((i : Int) + 1) = ((i + 1 : Nat) : Int) := by rw [wrap_i64 (by omega) (by omega)]; omega
    obtain ⟨w, hww⟩ := Int.eq_ofNat_of_zero_le (hx i).1
    have hw2 := (hx i).2
    obtain ⟨f1, f2⟩ := shl_or (w := w) hs hc (by omega)
    have hws : w * 2 ^ s ≤ 4294967295 * 2147483648 := Nat.mul_le_mul (by omega) hs64
    have f3 : IntKind.u32.wrap (ishr .u64 (ishl .u64 (IntKind.u64.wrap (w : Int)) (s : Int)) 32) = ((w * 2 ^ s / 4294967296 : Nat) : Int) := by
      have hmin : min (s : Int).toNat IntKind.u64.bits = s := by simp [IntKind.bits]; omega
      rw [wu64 (n := w) (by omega), ishl, hmin, show (w : Int) * 2 ^ s = ((w * 2 ^ s : Nat) : Int) from by rw [Int.natCast_mul, Int.natCast_pow]; rfl, wu64 (by omega), ishr_hi, wu32 (by omega)]
    have hc' : w * 2 ^ s / 4294967296 < 2 ^ s := Nat.div_lt_of_lt_mul (by
      exact Nat.mul_lt_mul_of_pos_right (by omega) (Nat.two_pow_pos s))
    have hstep : valI (out.set i ((w * 2 ^ s % 4294967296 + c : Nat) : Int)) (i + 1) + ((w * 2 ^ s / 4294967296 : Nat) : Int) * 4294967296 ^ (i + 1) = valI xs (i + 1) * 2 ^ s := by
      rw [valI, valI, valI_set_ge (Nat.le_refl _), getD_set, if_pos ⟨rfl, by omega⟩, hww, Int.pow_succ]
      have hd : ((w * 2 ^ s % 4294967296 + c : Nat) : Int) = (w : Int) * 2 ^ s + c - ((w * 2 ^ s / 4294967296 : Nat) : Int) * 4294967296 := by
        have := Nat.div_add_mod (w * 2 ^ s) 4294967296
        have h2 : ((w * 2 ^ s : Nat) : Int) = (w : Int) * 2 ^ s := by rw [Int.natCast_mul, Int.natCast_pow]; rfl
        omega
      rw [hd]
      generalize ((w * 2 ^ s / 4294967296 : Nat) : Int) = q
      generalize (4294967296 : Int) ^ i = P at *
      generalize (2 : Int) ^ s = S at *
      grind
    conv => whnf
    (repeat ((first | refine step_w1 rfl rfl ?_ | refine And.intro (by first | decide | omega | (simp only [tl0, dlen, List.length_replicate, List.length_set, List.length_map, List.length_zipWith, List.length_take, List.length_append, List.length_cons, List.length_nil]; omega)) ?_ | rw [t1] | rw [e1] | rw [hww] | rw [f1] | rw [f3] | rw [e2]); conv => whnf))
    exact ⟨n - (i + 1), fun k => k, [0, 1, 5, 6, 13, 14, 15], [0, 12], by omega, by kernel_rfl, i + 1, _, _, rfl, by omega, by simpa using hlen, hw.set (by omega) (by omega), hc', hstep, rfl, rfl⟩
  · have hi' : i = n := by omega
    subst hi'
    have t1 : decide ((i : Int) < (i : Int)) = false := decide_eq_false (by omega)
    have e1 : 0 + (i : Int).toNat = i := by omega
    have hcl : c < 4294967296 := by omega
    have hfin : valI (out.set i (c : Int)) (i + 1) = ((X * 2 ^ s : Nat) : Int) := by
      rw [valI, valI_set_ge (Nat.le_refl _), getD_set, if_pos ⟨rfl, by omega⟩, hval, hX, Int.natCast_mul, Int.natCast_pow]; rfl
    rw [← digs_of' (xs := out.set i (c : Int)) (by simpa using hlen) (hw.set (by omega) (by omega)) hfin]
    conv => whnf
    (repeat ((first | refine step_w2 rfl rfl ?_ | refine And.intro (by first | decide | omega | (simp only [tl0, dlen, List.length_replicate, List.length_set, List.length_map, List.length_zipWith, List.length_take, List.length_append, List.length_cons, List.length_nil]; omega)) ?_ | rw [t1] | rw [e1]); conv => whnf))
    exact ⟨Recast.refl _, one_get rfl, (fun _ _ h => by cases h)⟩

theorem c_half (us : List Int) (hl : us.length < 1099511627776) (hu : W32 us) (K : Nat) (U : Nat) (hU : valI us us.length = U) :
    CallOK Tryz.prog 256 [.slc K 1 0 us.length] [(K, ⟨95, true, .ints .u32 us⟩)] (.tup []) [] [(K, ⟨95, true, .ints .u32 (digs (U / 2) us.length)⟩)] := by
  refine callK (Z := []) tabOK mixedOK Tryz.func256 rfl (by kernel_rfl) (args := [.slc 0 1 0 us.length]) (fk := [(0, ⟨95, true, .ints .u32 us⟩)]) (c := .tup []) (new := []) (upd := [(0, ⟨95, true, .ints .u32 (digs (U / 2) us.length)⟩)]) (ShapeOK.of rfl rfl rfl rfl rfl rfl rfl rfl rfl rfl rfl) rfl (fun _ => K) NamesOK.upd ?_
  intro W0 w0 ρ0 hE
  conv => whnf
  skip
  refine SW_loopN hE (fun k => k) [0, 4, 5] [0] (fun m fr hp => ∃ (i : Nat) (o : List Int), m = us.length - i ∧ i ≤ us.length ∧ o.length = us.length ∧ W32 o ∧ (∀ j, i ≤ j → o.getD j 0 = us.getD j 0) ∧ 2 * valI o i + us.getD 0 0 % 2 = valI us i + us.getD i 0 % 2 * 4294967296 ^ i ∧
    fr = [(0, .slc 0 1 0 us.length), (4, .val (.int .i64 us.length)), (5, .val (.int .i64 i))] ∧ hp = [(0, ⟨95, true, .ints .u32 o⟩)]) us.length ?_ ?_ ?_
  · kernel_rfl
  · exact ⟨0, us, by omega, by omega, rfl, hu, (fun _ _ => rfl), by simp [valI], rfl, rfl⟩
  rintro m _ _ ⟨i, o, rfl, hi, hlen, hw, hrest, hval, rfl, rfl⟩
  by_cases hlt : i < us.length
  · have t1 : decide ((i : Int) < (us.length : Int)) = true := decide_eq_true (by omega)
    have e1 : 0 + (i : Int).toNat = i := by omega
    have e2 : IntKind.i64.wrap ((i : Int) + 1) = ((i + 1 : Nat) : Int) := by rw [wrap_i64 (by omega) (by omega)]; omega
    obtain ⟨w, hww⟩ := Int.eq_ofNat_of_zero_le (hu i).1
    have hw2 := (hu i).2
    have how : o.getD i 0 = (w : Int) := by rw [hrest i (Nat.le_refl _)]; exact hww
    have f1 : ishr .u32 (w : Int) 1 = ((w / 2 : Nat) : Int) := ishr_nat .u32 (s := 1) (by decide)
    obtain ⟨z, hz⟩ := Int.eq_ofNat_of_zero_le (hu (i + 1)).1
    have hz2 := (hu (i + 1)).2
    have f2 : ∀ q : Nat, q < 2147483648 → ior .u32 (q : Int) (ishl .u32 (z : Int) 31) = ((q + z % 2 * 2147483648 : Nat) : Int) := fun q hq => by
      have e : ishl .u32 (z : Int) 31 = ((2147483648 * (z % 2) : Nat) : Int) := by
        show IntKind.u32.wrap ((z : Int) * 2147483648) = _
        rw [show (z : Int) * 2147483648 = ((z * 2147483648 : Nat) : Int) from by omega, wu32m]
        congr 1; omega
      rw [e, ior_u32 (by omega) (by omega), Nat.or_comm, show 2147483648 * (z % 2) = 2 ^ 31 * (z % 2) from rfl, ← Nat.two_pow_add_eq_or_of_lt (i := 31) hq]
      congr 1; omega
    have hstep : ∀ t : Int, t = us.getD (i + 1) 0 % 2 → 2 * valI (o.set i (((w / 2 : Nat) : Int) + t * 2147483648)) (i + 1) + us.getD 0 0 % 2 = valI us (i + 1) + us.getD (i + 1) 0 % 2 * 4294967296 ^ (i + 1) := fun t ht => by
      rw [← ht, valI, valI, valI_set_ge (Nat.le_refl _), getD_set, if_pos ⟨rfl, by omega⟩, hww, Int.pow_succ]
      rw [hww] at hval
      have hd : 2 * ((w / 2 : Nat) : Int) = (w : Int) - (w : Int) % 2 := by omega
      generalize ((w / 2 : Nat) : Int) = q at *
      generalize (w : Int) % 2 = p at *
      generalize (4294967296 : Int) ^ i = P at *
      generalize us.getD 0 0 % 2 = b at *
      grind
    have hrest' : ∀ (v : Int) j, i + 1 ≤ j → (o.set i v).getD j 0 = us.getD j 0 := fun v j hj => by
      rw [getD_set, if_neg (by omega)]; exact hrest j (by omega)
    by_cases hn : i + 1 < us.length
    · have t2 : decide (((i + 1 : Nat) : Int) < (us.length : Int)) = true := decide_eq_true (by omega)
      have e3 : 0 + ((i + 1 : Nat) : Int).toNat = i + 1 := by omega
      have g1 : ∀ v : Int, (o.set i v).getD i 0 = v := fun v => by rw [getD_set, if_pos ⟨rfl, by omega⟩]
      have g2 : ∀ v : Int, (o.set i v).getD (i + 1) 0 = (z : Int) := fun v => by rw [hrest' v _ (Nat.le_refl _)]; exact hz
      have g3 : ∀ u v : Int, (o.set i u).set i v = o.set i v := fun u v => by rw [List.set_set]
      have g4 : ((w / 2 + z % 2 * 2147483648 : Nat) : Int) = ((w / 2 : Nat) : Int) + us.getD (i + 1) 0 % 2 * 2147483648 := by rw [hz]; omega
      conv => whnf
      have g5 : ∀ v : Int, (o.set i v).length = us.length := fun v => by simpa using hlen
      (repeat ((first | refine step_w1 rfl rfl ?_ | refine step_i (by kernel_rfl) ?_ | refine And.intro (by first | decide | omega | (simp only [tl0, dlen, List.length_replicate, List.length_set, List.length_map, List.length_zipWith, List.length_take, List.length_append, List.length_cons, List.length_nil]; omega)) ?_ | rw [t1] | rw [e1] | rw [how] | rw [f1] | rw [e2] | rw [t2] | rw [e3] | rw [g1] | rw [g2] | rw [f2 (w / 2) (by omega)] | rw [g3] | rw [g4]); conv => whnf))
      exact ⟨us.length - (i + 1), fun k => k, [0, 4, 5], [0], by omega, by kernel_rfl, i + 1, _, rfl, by omega, by simpa using hlen, hw.set (by omega) (by omega), hrest' _, hstep _ rfl, rfl, rfl⟩
    · have t2 : decide (((i + 1 : Nat) : Int) < (us.length : Int)) = false := decide_eq_false (by omega)
      have hz0 : us.getD (i + 1) 0 = 0 := getD_ge (by omega)
      have := hstep 0 (by rw [hz0]; rfl)
      rw [Int.zero_mul, Int.add_zero] at this
      conv => whnf
      (repeat ((first | refine step_w1 rfl rfl ?_ | refine step_w2 rfl rfl ?_ | refine And.intro (by first | decide | omega | (simp only [tl0, dlen, List.length_replicate, List.length_set, List.length_map, List.length_zipWith, List.length_take, List.length_append, List.length_cons, List.length_nil]; omega)) ?_ | rw [t1] | rw [e1] | rw [how] | rw [f1] | rw [e2] | rw [t2]); conv => whnf))
      exact ⟨us.length - (i + 1), fun k => k, [0, 4, 5], [0], by omega, by kernel_rfl, i + 1, _, rfl, by omega, by simpa using hlen, hw.set (by omega) (by omega), hrest' _, this, rfl, rfl⟩
  · have hi' : i = us.length := by omega
    subst hi'
    have t1 : decide ((us.length : Int) < (us.length : Int)) = false := decide_eq_false (by omega)
    rw [getD_ge (xs := us) (i := us.length) (Nat.le_refl _), hU] at hval
    have hfin : valI o us.length = ((U / 2 : Nat) : Int) := by
      rw [show (0 : Int) % 2 = 0 from rfl, Int.zero_mul, Int.add_zero] at hval
      omega
    rw [← digs_of' hlen hw hfin]
    conv => whnf
    (repeat (first | (refine step_w2 rfl rfl ?_; conv => whnf) | (rw [t1]; conv => whnf)))
    exact ⟨Recast.refl _, (fun _ _ h => by cases h), one_get rfl⟩
end Go.Proofs.YtkpfineikahgfaaGreatDoor

namespace Go.Proofs.YtkpfineikahgfaaGreatDoor
open Go.Sx
set_option linter.unusedSimpArgs false
set_option linter.unusedVariables false
set_option maxRecDepth 100000
set_option maxHeartbeats 4000000

theorem digs_hi {v m L i : Nat} (hv : v < 4294967296 ^ m) (hi : m ≤ i) : (digs v L).getD i 0 = 0 := by
  by_cases h2 : i < L
  · rw [digs_get h2, Nat.div_eq_of_lt (Nat.lt_of_lt_of_le hv (Nat.pow_le_pow_right (by decide) hi))]; rfl
  · exact getD_ge (by rw [digs_len]; omega)

/-- A list that is zero above is given by its number. -/
theorem digs_low {o : List Int} {L m v : Nat} (hl : o.length = L) (hw : W32 o) (hz : ∀ j, m ≤ j → o.getD j 0 = 0) (hm : m ≤ L) (hv : valI o m = v) : o = digs v L :=
  digs_of' hl hw (by rw [valI_zeros (k := m) (fun i h1 _ => hz i h1) hm, hv])

theorem less_step {o us vs : List Int} {s i d w c l x : Nat} (hi : s + i < o.length) (hx : us.getD (s + i) 0 = x) (hv : vs.getD i 0 = w) (hl : l ≤ 1) (hxl : x < 4294967296)
    (hval : valI o (s + i) = valI us (s + i) - d * valI vs i * 4294967296 ^ s + ((c : Int) + l) * 4294967296 ^ (s + i)) :
    valI (o.set (s + i) (((x + 4294967296 - (c + d * w) % 4294967296 - l) % 4294967296 : Nat) : Int)) (s + (i + 1)) = valI us (s + (i + 1)) - d * valI vs (i + 1) * 4294967296 ^ s + ((((c + d * w) / 4294967296 : Nat) : Int) + ((if x < (c + d * w) % 4294967296 + l then 1 else 0 : Nat) : Int)) * 4294967296 ^ (s + (i + 1)) := by
  rw [show s + (i + 1) = (s + i) + 1 from by omega, valI, valI, valI, valI_set_ge (Nat.le_refl _), getD_set, if_pos ⟨rfl, hi⟩, hx, hv, Int.pow_succ]
  have hlo : (c + d * w) % 4294967296 < 4294967296 := Nat.mod_lt _ (by decide)
  have hd : (((x + 4294967296 - (c + d * w) % 4294967296 - l) % 4294967296 : Nat) : Int) = (x : Int) - (((c + d * w) % 4294967296 : Nat) : Int) - l + ((if x < (c + d * w) % 4294967296 + l then 1 else 0 : Nat) : Int) * 4294967296 := by
    split <;> omega
  have hc : (((c + d * w) % 4294967296 : Nat) : Int) = (c : Int) + d * w - (((c + d * w) / 4294967296 : Nat) : Int) * 4294967296 := by
    have := Nat.div_add_mod (c + d * w) 4294967296
    have h2 : ((d * w : Nat) : Int) = (d : Int) * w := Int.natCast_mul _ _
    omega
  rw [hd, hc, hval, Int.pow_add]
  generalize ((if x < (c + d * w) % 4294967296 + l then 1 else 0 : Nat) : Int) = l'
  generalize (((c + d * w) / 4294967296 : Nat) : Int) = q
  generalize (4294967296 : Int) ^ s = S
  generalize (4294967296 : Int) ^ i = P
  grind

theorem less_fin {o us vs : List Int} {s n d c l x : Nat} (hi : s + n < o.length) (hx : us.getD (s + n) 0 = x) (hl : l ≤ 1) (hc : c < 4294967296) (hxl : x < 4294967296)
    (hval : valI o (s + n) = valI us (s + n) - d * valI vs n * 4294967296 ^ s + ((c : Int) + l) * 4294967296 ^ (s + n)) :
    valI (o.set (s + n) (((x + 4294967296 - c - l) % 4294967296 : Nat) : Int)) (s + n + 1) = valI us (s + n + 1) - d * valI vs n * 4294967296 ^ s + ((if x < c + l then 1 else 0 : Nat) : Int) * 4294967296 ^ (s + n + 1) := by
  rw [valI, valI, valI_set_ge (Nat.le_refl _), getD_set, if_pos ⟨rfl, hi⟩, hx, Int.pow_succ]
  have hd : (((x + 4294967296 - c - l) % 4294967296 : Nat) : Int) = (x : Int) - c - l + ((if x < c + l then 1 else 0 : Nat) : Int) * 4294967296 := by
    split <;> omega
  rw [hd, hval]
  generalize ((if x < c + l then 1 else 0 : Nat) : Int) = l'
  generalize (4294967296 : Int) ^ (s + n) = S
  generalize (4294967296 : Int) ^ s = P
  grind

/-- The end of less: the borrow tells the sign, and the number is reduced. -/
theorem less_end {R D B l : Nat} {v : Int} (hl : l ≤ 1) (h0 : 0 ≤ v) (h1 : v < B) (hR : R < B) (hv : v = (R : Int) - D + l * B) :
    decide ((l : Int) > 0) = decide (R < D) ∧ v = (((R + B - D) % B : Nat) : Int) := by
  have hcc : l = 0 ∨ l = 1 := by omega
  rcases hcc with rfl | rfl
  · have h2 : D ≤ R := by omega
    refine ⟨by rw [decide_eq_false (show ¬ R < D by omega)]; rfl, ?_⟩
    rw [show R + B - D = (R - D) + B from by omega, Nat.add_mod_right, Nat.mod_eq_of_lt (by omega)]
    omega
  · have h2 : R < D := by omega
    refine ⟨by rw [decide_eq_true h2]; rfl, ?_⟩
    rw [Nat.mod_eq_of_lt (by omega)]
    omega

theorem c_less (L s n R d V : Nat) (vs : List Int) (hL : L < 1099511627776) (hsn : s + n + 1 ≤ L) (hR : R < 4294967296 ^ (s + n + 1)) (hvl : vs.length < 1099511627776) (hn : n ≤ vs.length) (hvw : W32 vs) (hV : valI vs n = V) (hd : d < 4294967296)
    (K Q : Nat) (hKQ : K ≠ Q) :
    CallOK Tryz.prog 255 [.slc K 1 s (n + 1), .slc Q 1 0 n, .val (.int .u64 d)] [(K, ⟨95, true, .ints .u32 (digs R L)⟩), (Q, ⟨95, true, .ints .u32 vs⟩)]
      (.val (.bool (decide (R < d * V * 4294967296 ^ s)))) [] [(K, ⟨95, true, .ints .u32 (digs ((R + 4294967296 ^ (s + n + 1) - d * V * 4294967296 ^ s) % 4294967296 ^ (s + n + 1)) L)⟩), (Q, ⟨95, true, .ints .u32 vs⟩)] := by
  refine callK (Z := []) tabOK mixedOK Tryz.func255 rfl (by kernel_rfl) (args := [.slc 0 1 s (n + 1), .slc 1 1 0 n, .val (.int .u64 d)]) (fk := [(0, ⟨95, true, .ints .u32 (digs R L)⟩), (1, ⟨95, true, .ints .u32 vs⟩)])
    (c := .val (.bool (decide (R < d * V * 4294967296 ^ s)))) (new := []) (upd := [(0, ⟨95, true, .ints .u32 (digs ((R + 4294967296 ^ (s + n + 1) - d * V * 4294967296 ^ s) % 4294967296 ^ (s + n + 1)) L)⟩), (1, ⟨95, true, .ints .u32 vs⟩)]) (ShapeOK.of rfl rfl rfl rfl rfl rfl rfl rfl rfl rfl rfl) rfl (renBy [(0, K), (1, Q)]) (NamesOK.two hKQ) ?_
  intro W0 w0 ρ0 hE
  conv => whnf
  skip
  have husl : (digs R L).length = L := digs_len R L
  have husw : W32 (digs R L) := digs_w32 R L
  have husv : valI (digs R L) (s + n + 1) = R := by
    have h1 := valI_zeros (xs := digs R L) (k := s + n + 1) (n := L) (fun i h1 _ => digs_hi hR h1) hsn
    rw [← h1, valI_digs, Nat.mod_eq_of_lt (Nat.lt_of_lt_of_le hR (Nat.pow_le_pow_right (by decide) hsn))]
  have hlow : ∀ (o : List Int) (v : Nat), o.length = L → W32 o → (∀ j, s + n + 1 ≤ j → o.getD j 0 = 0) → valI o (s + n + 1) = v → o = digs v L := fun o v h1 h2 h3 h4 => digs_low h1 h2 h3 hsn h4
  have hz : ∀ j, s + n + 1 ≤ j → (digs R L).getD j 0 = 0 := fun j hj => digs_hi hR hj
  generalize digs R L = us at *
  refine SW_loopN hE (fun k => k) [0, 1, 2, 7, 8, 12, 13, 14] [0, 1] (fun m fr hp => ∃ (i : Nat) (o : List Int) (c l : Nat), m = n - i ∧ i ≤ n ∧ o.length = L ∧ W32 o ∧ c < 4294967296 ∧ l ≤ 1 ∧ (∀ j, s + i ≤ j → o.getD j 0 = us.getD j 0) ∧ valI o (s + i) = valI us (s + i) - d * valI vs i * 4294967296 ^ s + ((c : Int) + l) * 4294967296 ^ (s + i) ∧
    fr = [(0, .slc 0 1 s (n + 1)), (1, .slc 1 1 0 n), (2, .val (.int .u64 d)), (7, .val (.int .u64 c)), (8, .val (.int .u32 l)), (12, .slc 1 1 0 n), (13, .val (.int .i64 n)), (14, .val (.int .i64 i))] ∧ hp = [(0, ⟨95, true, .ints .u32 o⟩), (1, ⟨95, true, .ints .u32 vs⟩)]) n ?_ ?_ ?_
  · kernel_rfl
  · exact ⟨0, us, 0, 0, by omega, by omega, husl, husw, by omega, by omega, (fun _ _ => rfl), by simp [valI], rfl, rfl⟩
  rintro m _ _ ⟨i, o, c, l, rfl, hi, hlen, hw, hc, hl, hrest, hval, rfl, rfl⟩
  obtain ⟨x, hx⟩ := Int.eq_ofNat_of_zero_le (husw (s + i)).1
  have hx2 := (husw (s + i)).2
  have hox : o.getD (s + i) 0 = (x : Int) := by rw [hrest _ (Nat.le_refl _)]; exact hx
  by_cases hlt : i < n
  · have t1 : decide ((i : Int) < (n : Int)) = true := decide_eq_true (by omega)
    have e1 : 0 + (i : Int).toNat = i := by omega
    have e1s : s + (i : Int).toNat = s + i := by omega
    have e2 : IntKind.i64.wrap ((i : Int) + 1) = ((i + 1 : Nat) : Int) := by rw [wrap_i64 (by omega) (by omega)]; omega
    obtain ⟨w, hww⟩ := Int.eq_ofNat_of_zero_le (hvw i).1
    have hw2 := (hvw i).2
    have hp : d * w ≤ 4294967295 * 4294967295 := Nat.mul_le_mul (by omega) (by omega)
    have e9 : IntKind.u64.wrap ((c : Int) + IntKind.u64.wrap ((d : Int) * IntKind.u64.wrap (w : Int))) = ((c + d * w : Nat) : Int) := by
      rw [wu64 (n := w) (by omega), ← Int.natCast_mul, wu64 (n := d * w) (by omega), ← Int.natCast_add, wu64 (by omega)]
    have e10 : IntKind.u32.wrap ((c + d * w : Nat) : Int) = (((c + d * w) % 4294967296 : Nat) : Int) := wu32m _
    have e11 : ishr .u64 ((c + d * w : Nat) : Int) 32 = (((c + d * w) / 4294967296 : Nat) : Int) := ishr_hi _
    have k32 := c_Sub32 x ((c + d * w) % 4294967296) l (by omega) (by omega) hl
    have hstep := less_step (o := o) (us := us) (vs := vs) (by omega) hx hww hl (by omega) hval
    have hc' : (c + d * w) / 4294967296 < 4294967296 := by omega
    have hl' : (if x < (c + d * w) % 4294967296 + l then 1 else 0 : Nat) ≤ 1 := by split <;> omega
    conv => whnf
    (repeat ((first | refine step_w1 rfl rfl ?_ | refine And.intro (by first | decide | omega | (simp only [tl0, dlen, List.length_replicate, List.length_set, List.length_map, List.length_zipWith, List.length_take, List.length_append, List.length_cons, List.length_nil]; omega)) ?_ | refine g_c (by assumption) ?_ | rw [t1] | rw [e1] | rw [e1s] | rw [hww] | rw [hox] | rw [e9] | rw [e10] | rw [e11] | rw [e2]); conv => whnf))
    exact ⟨n - (i + 1), fun k => k, [0, 1, 2, 7, 8, 12, 13, 14], [0, 1], by omega, by kernel_rfl, i + 1, _, _, _, rfl, by omega, by simpa using hlen, hw.set (by omega) (by omega), hc', hl', (fun j hj => by rw [getD_set, if_neg (by omega)]; exact hrest j (by omega)), hstep, rfl, rfl⟩
  · have hi' : i = n := by omega
    subst hi'
    have t1 : decide ((i : Int) < (i : Int)) = false := decide_eq_false (by omega)
    have e1s : s + (i : Int).toNat = s + i := by omega
    have e8 : IntKind.u32.wrap (c : Int) = (c : Int) := wu32 hc
    have k32 := c_Sub32 x c l (by omega) hc hl
    have hfin := less_fin (by omega) hx hl hc (by omega) hval
    have hl' : (if x < c + l then 1 else 0 : Nat) ≤ 1 := by split <;> omega
    have hw' : W32 (o.set (s + i) (((x + 4294967296 - c - l) % 4294967296 : Nat) : Int)) := hw.set (by omega) (by omega)
    have hol : (o.set (s + i) (((x + 4294967296 - c - l) % 4294967296 : Nat) : Int)).length = L := by simpa using hlen
    obtain ⟨hd1, hd2⟩ := less_end (R := R) (D := d * V * 4294967296 ^ s) (B := 4294967296 ^ (s + i + 1)) hl' (valI_nonneg hw' _) (by rw [natPowW]; exact valI_lt hw' _) hR (by rw [hfin, husv, hV, Int.natCast_mul, Int.natCast_mul, natPowW, natPowW])
    have ho' := hlow _ _ hol hw' (fun j hj => by rw [getD_set, if_neg (by omega), hrest j (by omega)]; exact hz j hj) hd2
    conv => whnf
    (repeat ((first | refine step_w2 rfl rfl ?_ | refine And.intro (by first | decide | omega | (simp only [tl0, dlen, List.length_replicate, List.length_set, List.length_map, List.length_zipWith, List.length_take, List.length_append, List.length_cons, List.length_nil]; omega)) ?_ | refine g_c (by assumption) ?_ | rw [t1] | rw [e1s] | rw [e8] | rw [hox]); conv => whnf))
    rw [← ho', ← hd1]
    exact ⟨Recast.refl _, (fun _ _ h => by cases h), two_fk rfl rfl⟩
end Go.Proofs.YtkpfineikahgfaaGreatDoor

namespace Go.Proofs.YtkpfineikahgfaaGreatDoor
open Go.Sx
set_option linter.unusedSimpArgs false
set_option linter.unusedVariables false
set_option maxRecDepth 100000
set_option maxHeartbeats 1000000

/-- A fact that the arithmetic tactics shall not see. -/
def Hid (p : Prop) : Prop := p
theorem Hid.out {p : Prop} (h : Hid p) : p := h

theorem step_oL {α : Type} [LT α] {a b : α} {q : Prop} (h : a < b) (hq : q) : a < b ∧ q := ⟨h, hq⟩
theorem step_oM {α : Type} [LE α] {a b : α} {q : Prop} (h : a ≤ b) (hq : q) : a ≤ b ∧ q := ⟨h, hq⟩
theorem step_oA {a b q : Prop} (h : a ∧ b) (hq : q) : (a ∧ b) ∧ q := ⟨h, hq⟩
theorem step_oN {α : Type} {a b : α} {q : Prop} (h : a ≠ b) (hq : q) : a ≠ b ∧ q := ⟨h, hq⟩
/-- The guess is too great when its product with two words is. -/
theorem long_low {V R P S W d r : Nat} (hP : 0 < P) (hS : 0 < S) (hW : 0 < W) (h1 : d * (V / P / W) + r = R / (P * S) / W) (h2 : r * W + R / (P * S) % W < d * (V / P % W)) : R < d * V * S := by
  have e1 := Nat.div_add_mod (V / P) W
  have e2 := Nat.div_add_mod (R / (P * S)) W
  have hV := Nat.div_mul_le_self V P
  have hPS : 0 < P * S := Nat.mul_pos hP hS
  have hR := Nat.lt_div_mul_add (a := R) hPS
  generalize V / P = V2 at *
  generalize R / (P * S) = R2 at *
  generalize V2 / W = v1 at *
  generalize V2 % W = v2 at *
  generalize R2 / W = t at *
  generalize R2 % W = u0 at *
  have h3 : R2 + 1 ≤ d * V2 := by
    rw [← e1, ← e2, ← h1, Nat.mul_add, Nat.mul_add]
    have : d * (W * v1) = W * (d * v1) := by rw [Nat.mul_left_comm]
    have : W * r = r * W := Nat.mul_comm _ _
    omega
  have h4 : (R2 + 1) * (P * S) ≤ d * V * S := by
    refine Nat.le_trans (Nat.mul_le_mul_right _ h3) ?_
    rw [show d * V2 * (P * S) = d * (V2 * P) * S from by simp only [Nat.mul_assoc]]
    exact Nat.mul_le_mul_right _ (Nat.mul_le_mul_left _ hV)
  rw [Nat.add_mul, Nat.one_mul] at h4
  omega

/-- The guess is too great by one at most: the test passed. -/
theorem long_high {V R P S W d r : Nat} (hP : 0 < P) (hS : 0 < S) (hW : 0 < W) (hd : d < W) (h1 : d * (V / P / W) + r = R / (P * S) / W) (h2 : d * (V / P % W) ≤ r * W + R / (P * S) % W) (hV : W * P ≤ V) : d * V * S ≤ R + V * S := by
  have e1 := Nat.div_add_mod (V / P) W
  have e2 := Nat.div_add_mod (R / (P * S)) W
  have hV2 := Nat.lt_div_mul_add (a := V) hP
  have hR := Nat.div_mul_le_self R (P * S)
  generalize V / P = V2 at *
  generalize R / (P * S) = R2 at *
  generalize V2 / W = v1 at *
  generalize V2 % W = v2 at *
  generalize R2 / W = t at *
  generalize R2 % W = u0 at *
  have h3 : d * V2 ≤ R2 := by
    rw [← e1, ← e2, ← h1, Nat.mul_add, Nat.mul_add]
    have : d * (W * v1) = W * (d * v1) := by rw [Nat.mul_left_comm]
    have : W * r = r * W := Nat.mul_comm _ _
    omega
  have h4 : d * V ≤ d * V2 * P + d * P := by
    rw [Nat.mul_assoc, ← Nat.mul_add]; exact Nat.mul_le_mul_left _ (by omega)
  have h5 : d * P ≤ V := Nat.le_trans (Nat.mul_le_mul_right _ (Nat.le_of_lt hd)) hV
  have h6 : d * V * S ≤ (R2 * P + V) * S := Nat.mul_le_mul_right _ (Nat.le_trans h4 (Nat.add_le_add (Nat.mul_le_mul_right _ h3) h5))
  rw [show (R2 * P + V) * S = R2 * (P * S) + V * S from by rw [Nat.add_mul, Nat.mul_assoc]] at h6
  omega

/-- The rest has become too great: the guess is not too great. -/
theorem long_rest {V R P S W d r : Nat} (hP : 0 < P) (hS : 0 < S) (hW : 0 < W) (hd : d < W) (h1 : d * (V / P / W) + r = R / (P * S) / W) (hr : W ≤ r) : d * V * S ≤ R := by
  have hPW : 0 < P * W := Nat.mul_pos hP hW
  have hV2 := Nat.lt_div_mul_add (a := V) hPW
  have hR := Nat.div_mul_le_self R (P * S * W)
  rw [Nat.div_div_eq_div_mul] at h1
  rw [Nat.div_div_eq_div_mul] at h1
  generalize V / (P * W) = v1 at *
  generalize R / (P * S * W) = t at *
  have h3 : d * V ≤ (d * v1 + W) * (P * W) := by
    have h4 : d * V ≤ d * (v1 * (P * W) + P * W) := Nat.mul_le_mul_left _ (by omega)
    rw [Nat.mul_add, ← Nat.mul_assoc] at h4
    rw [Nat.add_mul]
    exact Nat.le_trans h4 (Nat.add_le_add_left (Nat.mul_le_mul_right _ (Nat.le_of_lt hd)) _)
  have h5 : d * V * S ≤ (d * v1 + r) * (P * W) * S := Nat.mul_le_mul_right _ (Nat.le_trans h3 (Nat.mul_le_mul_right _ (by omega)))
  rw [h1, show t * (P * W) * S = t * (P * S * W) from by simp only [Nat.mul_assoc, Nat.mul_comm S W]] at h5
  omega

/-- The guess is below the word's bound when the rest is above it. -/
theorem long_small {V R P S W d r : Nat} (hP : 0 < P) (hS : 0 < S) (hW : 0 < W) (h1 : d * (V / P / W) + r = R / (P * S) / W) (hr : W ≤ r) (hR : R < V * (S * W)) : d < W := by
  have hPW : 0 < P * W := Nat.mul_pos hP hW
  have hV2 := Nat.lt_div_mul_add (a := V) hPW
  have hR2 := Nat.div_mul_le_self R (P * S * W)
  rw [Nat.div_div_eq_div_mul] at h1
  rw [Nat.div_div_eq_div_mul] at h1
  generalize V / (P * W) = v1 at *
  generalize R / (P * S * W) = t at *
  refine Classical.byContradiction fun hc => ?_
  have h2 : W * v1 ≤ d * v1 := Nat.mul_le_mul_right _ (by omega)
  have h3 : W * v1 + W ≤ t := by omega
  have h4 : (W * v1 + W) * (P * S * W) ≤ R := Nat.le_trans (Nat.mul_le_mul_right _ h3) hR2
  have h5 : V * (S * W) ≤ (v1 * (P * W) + P * W) * (S * W) := Nat.mul_le_mul_right _ (by omega)
  rw [show (v1 * (P * W) + P * W) * (S * W) = (W * v1 + W) * (P * S * W) from by grind] at h5
  omega

/-- The quotient's first guess is not too small. -/
theorem long_guess {V R P S W d : Nat} (hP : 0 < P) (hS : 0 < S) (hW : 0 < W) (hv : 0 < V / P / W) (hd : R / (P * S) / W / (V / P / W) = d) : R < (d + 1) * V * S := by
  have hPW : 0 < P * W := Nat.mul_pos hP hW
  have hPSW : 0 < P * S * W := Nat.mul_pos (Nat.mul_pos hP hS) hW
  have hV2 := Nat.div_mul_le_self V (P * W)
  have hR2 := Nat.lt_div_mul_add (a := R) hPSW
  rw [Nat.div_div_eq_div_mul R, Nat.div_div_eq_div_mul V] at hd
  rw [Nat.div_div_eq_div_mul] at hv
  have hlt := Nat.lt_div_mul_add (a := R / (P * S * W)) hv
  rw [hd] at hlt
  generalize V / (P * W) = v1 at *
  generalize R / (P * S * W) = t at *
  have h1 : t + 1 ≤ (d + 1) * v1 := by rw [Nat.add_mul]; omega
  have h2 : (t + 1) * (P * S * W) ≤ (d + 1) * V * S := by
    refine Nat.le_trans (Nat.mul_le_mul_right _ h1) ?_
    rw [show (d + 1) * v1 * (P * S * W) = (d + 1) * (v1 * (P * W)) * S from by grind]
    exact Nat.mul_le_mul_right _ (Nat.mul_le_mul_left _ hV2)
  rw [Nat.add_mul, Nat.one_mul] at h2
  omega

theorem back_step {o us vs : List Int} {s i x w c : Nat} (hi : s + i < o.length) (hx : us.getD (s + i) 0 = x) (hw : vs.getD i 0 = w)
    (hv : valI o (s + i) + c * 4294967296 ^ (s + i) = valI us (s + i) + valI vs i * 4294967296 ^ s) :
    valI (o.set (s + i) (((x + w + c) % 4294967296 : Nat) : Int)) (s + (i + 1)) + (((x + w + c) / 4294967296 : Nat) : Int) * 4294967296 ^ (s + (i + 1)) = valI us (s + (i + 1)) + valI vs (i + 1) * 4294967296 ^ s := by
  rw [show s + (i + 1) = (s + i) + 1 from by omega, valI, valI, valI, valI_set_ge (Nat.le_refl _), getD_set, if_pos ⟨rfl, hi⟩, hx, hw, Int.pow_succ]
  have hd : (((x + w + c) % 4294967296 : Nat) : Int) = (x : Int) + w + c - (((x + w + c) / 4294967296 : Nat) : Int) * 4294967296 := by omega
  rw [hd]
  rw [Int.pow_add] at hv ⊢
  generalize (((x + w + c) / 4294967296 : Nat) : Int) = q
  generalize (4294967296 : Int) ^ i = P at *
  generalize (4294967296 : Int) ^ s = Q at *
  grind

theorem back_fin {o us vs : List Int} {s n x c R' V : Nat} (hi : s + n < o.length) (hx : us.getD (s + n) 0 = x) (hc : c ≤ 1) (hxl : x < 4294967296) (hu : valI us (s + n + 1) = R') (hV : valI vs n = V)
    (hv : valI o (s + n) + c * 4294967296 ^ (s + n) = valI us (s + n) + valI vs n * 4294967296 ^ s) (h0 : W32 (o.set (s + n) (((x + c) % 4294967296 : Nat) : Int))) :
    valI (o.set (s + n) (((x + c) % 4294967296 : Nat) : Int)) (s + n + 1) = (((R' + V * 4294967296 ^ s) % 4294967296 ^ (s + n + 1) : Nat) : Int) := by
  have h1 := valI_nonneg h0 (s + n + 1)
  have h2 := valI_lt h0 (s + n + 1)
  rw [valI] at hu
  have h3 : valI (o.set (s + n) (((x + c) % 4294967296 : Nat) : Int)) (s + n + 1) = ((R' + V * 4294967296 ^ s : Nat) : Int) - (((x + c) / 4294967296 : Nat) : Int) * 4294967296 ^ (s + n + 1) := by
    rw [valI, valI_set_ge (Nat.le_refl _), getD_set, if_pos ⟨rfl, hi⟩, Int.natCast_add, ← hu, hx, Int.natCast_mul, ← hV, natPowW, Int.pow_succ]
    have hd : (((x + c) % 4294967296 : Nat) : Int) = (x : Int) + c - (((x + c) / 4294967296 : Nat) : Int) * 4294967296 := by omega
    rw [hd]
    generalize (((x + c) / 4294967296 : Nat) : Int) = q
    generalize (4294967296 : Int) ^ (s + n) = P at *
    generalize (4294967296 : Int) ^ s = Q at *
    grind
  rw [← natPowW] at h2
  rw [h3] at h1 h2 ⊢
  rw [← natPowW] at *
  have e1 : (((x + c) / 4294967296 : Nat) : Int) * ((4294967296 ^ (s + n + 1) : Nat) : Int) = ((((x + c) / 4294967296) * 4294967296 ^ (s + n + 1) : Nat) : Int) := (Int.natCast_mul _ _).symm
  rw [e1] at h1 h2 ⊢
  generalize (x + c) / 4294967296 = t at *
  generalize 4294967296 ^ (s + n + 1) = B at *
  generalize V * 4294967296 ^ s = D at *
  have h5 : R' + D = (R' + D - t * B) + t * B := by omega
  rw [h5, Nat.add_mul_mod_self_right, Nat.mod_eq_of_lt (by omega)]
  omega

/-- What a round of the division leaves. -/
theorem long_pos {R d D B : Nat} (h : d * D ≤ R) (hB : R < B) : (R + B - d * D) % B = R - d * D := by
  rw [show R + B - d * D = (R - d * D) + B from by omega, Nat.add_mod_right, Nat.mod_eq_of_lt (by omega)]
theorem long_neg {R d D B : Nat} (h : R < d * D) (h2 : d * D ≤ R + D) (hB : R < B) (hD : D ≤ B) : ((R + B - d * D) % B + D) % B = R - (d - 1) * D ∧ (d - 1) * D ≤ R ∧ R < (d - 1 + 1) * D ∧ 0 < d := by
  have hd : 0 < d := by
    rcases Nat.eq_zero_or_pos d with rfl | h'
    · simp at h
    · exact h'
  have e : d * D = (d - 1) * D + D := by rw [← Nat.succ_mul]; congr 1; omega
  have e2 : (d - 1 + 1) * D = d * D := by congr 1; omega
  rw [e2]
  refine ⟨?_, by omega, h, hd⟩
  rw [Nat.mod_eq_of_lt (show R + B - d * D < B by omega)]
  rw [show R + B - d * D + D = (R - (d - 1) * D) + B from by omega, Nat.add_mod_right, Nat.mod_eq_of_lt (by omega)]
/-- The divisor's top word has its highest bit set after the shift. -/
theorem long_norm {ys : List Int} (hy : W32 ys) {n y Y s V : Nat} (h2 : 2 ≤ n) (hyt : ys.getD (n - 1) 0 = y) (hY : valI ys n = Y) (hs : 32 - sz y = s) (hV : Y * 2 ^ s = V) (h1 : 1 ≤ sz y) (h32 : sz y ≤ 32) :
    V < 4294967296 ^ n ∧ 2147483648 * 4294967296 ^ (n - 1) ≤ V := by
  have hn : n = (n - 1) + 1 := by omega
  have ha := valI_nonneg hy (n - 1)
  have hb := valI_lt hy (n - 1)
  rw [hn, valI, hyt] at hY
  rw [← natPowW] at hb hY
  have e1 : (y : Int) * ((4294967296 ^ (n - 1) : Nat) : Int) = ((y * 4294967296 ^ (n - 1) : Nat) : Int) := (Int.natCast_mul _ _).symm
  rw [e1] at hY
  have hY1 : y * 4294967296 ^ (n - 1) ≤ Y := by omega
  have hY2 : Y < (y + 1) * 4294967296 ^ (n - 1) := by rw [Nat.add_mul, Nat.one_mul]; omega
  have hy1 : y < 2 ^ sz y := sz_le.1 (Nat.le_refl _)
  have hy2 : 2 ^ (sz y - 1) ≤ y := by
    refine Classical.byContradiction fun h => ?_
    have := sz_le.2 (show y < 2 ^ (sz y - 1) by omega)
    omega
  have p1 : 2 ^ sz y * 2 ^ s = 4294967296 := by rw [← Nat.pow_add, show sz y + s = 32 from by omega]
  have p2 : 2 ^ (sz y - 1) * 2 ^ s = 2147483648 := by rw [← Nat.pow_add, show sz y - 1 + s = 31 from by omega]
  have hs0 : 0 < 2 ^ s := Nat.two_pow_pos s
  have hQ : 4294967296 ^ n = 4294967296 ^ (n - 1) * 4294967296 := by rw [← Nat.pow_succ]; congr 1
  rw [hQ, ← hV]
  generalize 4294967296 ^ (n - 1) = Q at *
  generalize 2 ^ s = T at *
  constructor
  · have h3 : Y * T < (y + 1) * Q * T := Nat.mul_lt_mul_of_pos_right hY2 hs0
    have h4 : (y + 1) * Q * T ≤ 2 ^ sz y * Q * T := Nat.mul_le_mul_right _ (Nat.mul_le_mul_right _ hy1)
    rw [show 2 ^ sz y * Q * T = Q * (2 ^ sz y * T) from by rw [Nat.mul_comm (2 ^ sz y) Q, Nat.mul_assoc], p1] at h4
    omega
  · have h3 : 2 ^ (sz y - 1) * Q * T ≤ Y * T := Nat.mul_le_mul_right _ (Nat.le_trans (Nat.mul_le_mul_right _ hy2) hY1)
    rw [show 2 ^ (sz y - 1) * Q * T = (2 ^ (sz y - 1) * T) * Q from by rw [Nat.mul_assoc, Nat.mul_comm Q T, Nat.mul_assoc], p2] at h3
    exact h3

theorem powW_split {k n : Nat} (h2 : 2 ≤ n) : 4294967296 ^ (k + (n - 2)) = 4294967296 ^ (n - 2) * 4294967296 ^ k ∧ 4294967296 ^ (k + (n - 1)) = 4294967296 ^ (n - 2) * 4294967296 ^ k * 4294967296 ∧ 4294967296 ^ (k + n) = 4294967296 ^ (n - 2) * 4294967296 ^ k * 4294967296 * 4294967296 ∧
    4294967296 ^ (n - 1) = 4294967296 ^ (n - 2) * 4294967296 ∧ 4294967296 ^ n = 4294967296 ^ (n - 2) * 4294967296 * 4294967296 ∧ 4294967296 ^ (k + n + 1) = 4294967296 ^ (n - 2) * 4294967296 ^ k * 4294967296 * 4294967296 * 4294967296 := by
  have e0 : 4294967296 ^ (k + (n - 2)) = 4294967296 ^ (n - 2) * 4294967296 ^ k := by rw [Nat.pow_add, Nat.mul_comm]
  refine ⟨e0, ?_, ?_, ?_, ?_, ?_⟩
  · rw [← e0, ← Nat.pow_succ]; congr 1; omega
  · rw [← e0, ← Nat.pow_succ, ← Nat.pow_succ]; congr 1; omega
  · rw [← Nat.pow_succ]; congr 1; omega
  · rw [← Nat.pow_succ, ← Nat.pow_succ]; congr 1; omega
  · rw [← e0, ← Nat.pow_succ, ← Nat.pow_succ, ← Nat.pow_succ]; congr 1; omega

/-- The first remainder fits. -/
theorem long_first {X V s l n : Nat} (hX : X < 4294967296 ^ l) (hs : s < 32) (hV : 2147483648 * 4294967296 ^ (n - 1) ≤ V) (h2 : 2 ≤ n) (hnl : n ≤ l) : X * 2 ^ s < V * 4294967296 ^ (l + 1 - n) := by
  have h3 : 2 ^ s ≤ 2147483648 := Nat.le_trans (Nat.pow_le_pow_right (by decide) (show s ≤ 31 by omega)) (by decide)
  have e : 4294967296 ^ l = 4294967296 ^ (n - 1) * 4294967296 ^ (l + 1 - n) := by rw [← Nat.pow_add]; congr 1; omega
  have h4 : 2147483648 * 4294967296 ^ (n - 1) * 4294967296 ^ (l + 1 - n) ≤ V * 4294967296 ^ (l + 1 - n) := Nat.mul_le_mul_right _ hV
  rw [Nat.mul_assoc, ← e, Nat.mul_comm] at h4
  have h5 : X * 2 ^ s < 4294967296 ^ l * 2147483648 := Nat.lt_of_lt_of_le (Nat.mul_lt_mul_of_pos_right hX (Nat.two_pow_pos s)) (Nat.mul_le_mul_left _ h3)
  omega

/-- The words that the round looks at. -/
theorem long_words {R V P S k n l : Nat} (h2 : 2 ≤ n) (hk : k + n < l + 1) (hP : 4294967296 ^ (n - 2) = P) (hS : 4294967296 ^ k = S) (hVn : V < 4294967296 ^ n) (hVg : 2147483648 * 4294967296 ^ (n - 1) ≤ V) (hR : R < V * (S * 4294967296)) :
    R < 4294967296 ^ (k + n + 1) ∧ V * 4294967296 ^ k ≤ 4294967296 ^ (k + n + 1) ∧ 4294967296 * P ≤ V ∧ (2147483648 ≤ V / P / 4294967296 ∧ V / P / 4294967296 < 4294967296) ∧ R / (P * S) / 4294967296 < 18446744073709551616 ∧
    (digs R (l + 1)).getD (k + n) 0 = ((R / (P * S) / 4294967296 / 4294967296 : Nat) : Int) ∧ (digs R (l + 1)).getD (k + (n - 1)) 0 = ((R / (P * S) / 4294967296 % 4294967296 : Nat) : Int) ∧ (digs R (l + 1)).getD (k + (n - 2)) 0 = ((R / (P * S) % 4294967296 : Nat) : Int) ∧
    (digs V (n + 1)).getD (n - 1) 0 = ((V / P / 4294967296 : Nat) : Int) ∧ (digs V (n + 1)).getD (n - 2) 0 = ((V / P % 4294967296 : Nat) : Int) := by
  obtain ⟨q1, q2, q3, q4, q5, q6⟩ := powW_split (k := k) h2
  rw [hP] at q1 q2 q3 q4 q5 q6
  rw [hS] at q1 q2 q3 q6
  have hP0 : 0 < P := by rw [← hP]; exact Nat.pow_pos (by decide)
  have hS0 : 0 < S := by rw [← hS]; exact Nat.pow_pos (by decide)
  have hPS : 0 < P * S := Nat.mul_pos hP0 hS0
  rw [q5] at hVn
  rw [q4] at hVg
  have c1 : V * (S * 4294967296) ≤ P * S * 4294967296 * 4294967296 * 4294967296 := by
    refine Nat.le_trans (Nat.mul_le_mul_right _ (Nat.le_of_lt hVn)) (Nat.le_of_eq ?_)
    grind
  have hRB : R < P * S * 4294967296 * 4294967296 * 4294967296 := Nat.lt_of_lt_of_le hR c1
  have c2 : V * S ≤ P * S * 4294967296 * 4294967296 * 4294967296 := Nat.le_trans (Nat.mul_le_mul_left _ (by omega)) c1
  have d1 : V / P / 4294967296 = V / (P * 4294967296) := Nat.div_div_eq_div_mul _ _ _
  have v1lt : V / P / 4294967296 < 4294967296 := by
    rw [d1]; exact Nat.div_lt_of_lt_mul hVn
  have v1ge : 2147483648 ≤ V / P / 4294967296 := by
    rw [d1]; exact (Nat.le_div_iff_mul_le (by omega)).2 hVg
  have d2 : R / (P * S) / 4294967296 / 4294967296 = R / (P * S * 4294967296 * 4294967296) := by rw [Nat.div_div_eq_div_mul, Nat.div_div_eq_div_mul, Nat.mul_assoc (P * S)]
  have d3 : R / (P * S) / 4294967296 = R / (P * S * 4294967296) := Nat.div_div_eq_div_mul _ _ _
  have tlt : R / (P * S) / 4294967296 / 4294967296 < 4294967296 := by
    rw [d2]; exact Nat.div_lt_of_lt_mul hRB
  refine ⟨by rw [q6]; exact hRB, by rw [q6, hS]; exact c2, by omega, ⟨v1ge, v1lt⟩, by omega, ?_, ?_, ?_, ?_, ?_⟩
  · rw [digs_get (by omega), q3, ← d2, Nat.mod_eq_of_lt tlt]
  · rw [digs_get (by omega), q2, ← d3]
  · rw [digs_get (by omega), q1]
  · rw [digs_get (by omega), q4, ← d1, Nat.mod_eq_of_lt v1lt]
  · rw [digs_get (by omega), hP]

end Go.Proofs.YtkpfineikahgfaaGreatDoor

namespace Go.Proofs.YtkpfineikahgfaaGreatDoor
open Go.Sx
set_option linter.unusedSimpArgs false
set_option linter.unusedVariables false
set_option maxRecDepth 100000
set_option maxHeartbeats 4000000
variable {M : Nat}

theorem more_eq (a b : Rat) : decide (a.den - 1 = b.den - 1) = decide (a.den = b.den) := decide_eq_decide.2 (by have := a.den_pos; have := b.den_pos; omega)

theorem sz_iadd {x y : Int} {k M : Nat} (hx : sz x.natAbs ≤ k) (hy : sz y.natAbs ≤ k) (h : k + 1 ≤ M) : sz (x + y).natAbs ≤ M :=
  Nat.le_trans (Nat.le_trans (sz_mono (Int.natAbs_add_le x y)) (sz_add hx hy)) h
theorem mkRat_same {a b : Rat} (h : a.den = b.den) : mkRat (a.num + b.num) a.den = a + b := by
  rw [Rat.add_def', ← h, ← Int.add_mul, Rat.mkRat_mul_right a.den_nz]

theorem c_fAdd (ok : NatOK M) (a b : Rat) (h : fsz a + fsz b + 1 ≤ M) : CallOK Tryz.prog 143 [.frac a, .frac b] [] (.frac (a + b)) [] [] := by
  have ha := fsz_num a; have ha' := fsz_den a; have hb := fsz_num b; have hb' := fsz_den b
  have hbp := sz_one_le b.den b.den_nz
  have hap := sz_one_le a.den a.den_nz
  have wa := c_Whole a
  have wb := c_Whole b
  have k1 := c_iAdd ok a.num b.num (by omega) (by omega)
  have k2 := c_den ok a (by omega)
  have k3 := c_den ok b (by omega)
  refine callV (Z := []) tabOK mixedOK Tryz.func143 rfl (by kernel_rfl) rfl rfl (by kernel_rfl) rfl ?_
  intro W0 w0 ρ0 hE
  conv => whnf
  by_cases hw : a.den = 1 ∧ b.den = 1
  · have k5 := c_whole (a.num + b.num)
    have e : ((a.num + b.num : Int) : Rat) = a + b := by
      rw [int_of_den hw.1, int_of_den hw.2, Rat.intCast_add]; rfl
    rw [e] at k5
    rw [decide_eq_true hw.1] at wa
    rw [decide_eq_true hw.2] at wb
    (repeat (first | (refine step_w1 rfl rfl ?_; conv => whnf) | (refine g_c (by assumption) ?_; conv => whnf) | (refine g_o (op_pickT rfl (ev_ok rfl) (ev_ok rfl)) ?_; conv => whnf))); exact Recast.refl _
  · by_cases h1 : a.den = 1
    · rw [decide_eq_true h1] at wa
      rw [decide_eq_false (show ¬ b.den = 1 from fun h2 => hw ⟨h1, h2⟩)] at wb
      (repeat ((first | refine step_w1 rfl rfl ?_ | refine step_w2 rfl rfl ?_ | refine g_c (by assumption) ?_ | refine g_o (op_pickT rfl (ev_ok rfl) (ev_ok rfl)) ?_); conv => whnf))
      refine ⟨_, op_eqAgg tabOK goodOK rfl (ev_ok rfl) (ev_ok rfl) rfl rfl rfl rfl (eqTy_nat (a.den - 1) (b.den - 1)) guard_nat, ?_⟩
      rw [more_eq]
      by_cases hd : a.den = b.den
      · rw [decide_eq_true hd]
        have k4 := c_lowest ok (a.num + b.num) a.den (sz_iadd (k := M - 1) (by omega) (by omega) (by omega)) (by omega) a.den_nz
        rw [mkRat_same hd] at k4
        conv => whnf
        (repeat (first | (refine step_w1 rfl rfl ?_; conv => whnf) | (refine step_i (by kernel_rfl) ?_; conv => whnf) | (refine g_c (by assumption) ?_; conv => whnf))); exact Recast.refl _
      · rw [decide_eq_false hd]
        have p1 := sz_mul a.num.natAbs b.den
        have p2 := sz_mul b.num.natAbs a.den
        have p3 := sz_mul a.den b.den
        have q1 : sz (a.num * b.den).natAbs ≤ M - 1 := by rw [Int.natAbs_mul, Int.natAbs_natCast]; omega
        have q2 : sz (b.num * a.den).natAbs ≤ M - 1 := by rw [Int.natAbs_mul, Int.natAbs_natCast]; omega
        have r1 := c_signed ok a (by omega)
        have r2 := c_signed ok b (by omega)
        have r3 := c_iMul ok a.num b.den (by rw [Int.natAbs_natCast]; omega)
        have r4 := c_iMul ok b.num a.den (by rw [Int.natAbs_natCast]; omega)
        have r5 := c_iAdd ok (a.num * b.den) (b.num * a.den) (by omega) (by omega)
        have r6 := ok.mul a.den b.den (by omega)
        have r7 := c_lowest ok (a.num * b.den + b.num * a.den) (a.den * b.den) (sz_iadd (k := M - 1) q1 q2 (by omega)) (by omega) (Nat.mul_ne_zero a.den_nz b.den_nz)
        rw [← Rat.add_def'] at r7
        conv => whnf
        (repeat (first | (refine step_w2 rfl rfl ?_; conv => whnf) | (refine step_i (by kernel_rfl) ?_; conv => whnf) | (refine g_c (by assumption) ?_; conv => whnf))); exact Recast.refl _
    · rw [decide_eq_false h1] at wa
      (repeat (first | (refine step_w2 rfl rfl ?_; conv => whnf) | (refine g_c (by assumption) ?_; conv => whnf) | (refine g_o (op_pickF rfl (ev_ok rfl) (ev_ok rfl)) ?_; conv => whnf)))
      refine ⟨_, op_eqAgg tabOK goodOK rfl (ev_ok rfl) (ev_ok rfl) rfl rfl rfl rfl (eqTy_nat (a.den - 1) (b.den - 1)) guard_nat, ?_⟩
      rw [more_eq]
      by_cases hd : a.den = b.den
      · rw [decide_eq_true hd]
        have k4 := c_lowest ok (a.num + b.num) a.den (sz_iadd (k := M - 1) (by omega) (by omega) (by omega)) (by omega) a.den_nz
        rw [mkRat_same hd] at k4
        conv => whnf
        (repeat (first | (refine step_w1 rfl rfl ?_; conv => whnf) | (refine step_i (by kernel_rfl) ?_; conv => whnf) | (refine g_c (by assumption) ?_; conv => whnf))); exact Recast.refl _
      · rw [decide_eq_false hd]
        have p1 := sz_mul a.num.natAbs b.den
        have p2 := sz_mul b.num.natAbs a.den
        have p3 := sz_mul a.den b.den
        have q1 : sz (a.num * b.den).natAbs ≤ M - 1 := by rw [Int.natAbs_mul, Int.natAbs_natCast]; omega
        have q2 : sz (b.num * a.den).natAbs ≤ M - 1 := by rw [Int.natAbs_mul, Int.natAbs_natCast]; omega
        have r1 := c_signed ok a (by omega)
        have r2 := c_signed ok b (by omega)
        have r3 := c_iMul ok a.num b.den (by rw [Int.natAbs_natCast]; omega)
        have r4 := c_iMul ok b.num a.den (by rw [Int.natAbs_natCast]; omega)
        have r5 := c_iAdd ok (a.num * b.den) (b.num * a.den) (by omega) (by omega)
        have r6 := ok.mul a.den b.den (by omega)
        have r7 := c_lowest ok (a.num * b.den + b.num * a.den) (a.den * b.den) (sz_iadd (k := M - 1) q1 q2 (by omega)) (by omega) (Nat.mul_ne_zero a.den_nz b.den_nz)
        rw [← Rat.add_def'] at r7
        conv => whnf
        (repeat (first | (refine step_w2 rfl rfl ?_; conv => whnf) | (refine step_i (by kernel_rfl) ?_; conv => whnf) | (refine g_c (by assumption) ?_; conv => whnf))); exact Recast.refl _
end Go.Proofs.YtkpfineikahgfaaGreatDoor

namespace Go.Proofs.YtkpfineikahgfaaGreatDoor
open Go.Sx
set_option linter.unusedSimpArgs false
set_option linter.unusedVariables false
set_option maxRecDepth 100000
set_option maxHeartbeats 80000000

theorem NamesOK.roNew2 {fk : List (Nat × Blk)} {m p : Nat} {b c : Blk} {σ : Nat → Nat} (h : allRo fk = true) (hn : ∀ q ∈ keysOf fk, σ m ≠ σ q ∧ σ p ≠ σ q) (hmp : σ m ≠ σ p) : NamesOK fk [(m, b), (p, c)] σ :=
  ⟨(fun q q' b b' hq _ _ hw => by rw [allRo_spec h q b hq] at hw; cases hw), (fun x y h1 h2 hne => by
    have h1 : x = m ∨ x = p := by simpa [keysOf] using h1
    have h2 : y = m ∨ y = p := by simpa [keysOf] using h2
    rcases h1 with rfl | rfl <;> rcases h2 with rfl | rfl
    · exact absurd rfl hne
    · exact hmp
    · exact hmp.symm
    · exact absurd rfl hne), (fun x q h1 h2 => by
    have h1 : x = m ∨ x = p := by simpa [keysOf] using h1
    rcases h1 with rfl | rfl
    · exact (hn q h2).1
    · exact (hn q h2).2)⟩

theorem two_new {hp : List (Nat × Blk)} {k l : Nat} {b c : Blk} (h : find hp k = none) (h' : find hp l = none) : ∀ j d, (j, d) ∈ [(k, b), (l, c)] → find hp j = none := fun j d hm => by
  simp only [List.mem_cons, List.not_mem_nil, or_false, Prod.mk.injEq] at hm
  rcases hm with ⟨rfl, rfl⟩ | ⟨rfl, rfl⟩ <;> assumption

theorem long_end {R Qv V S d U : Nat} (h1 : d * (V * S) ≤ R) (h2 : R < (d + 1) * (V * S)) (hU : U = Qv * V + R) : R - d * (V * S) < V * S ∧ U = (Qv + d * S) * V + (R - d * (V * S)) := by
  rw [Nat.add_mul, Nat.one_mul] at h2
  refine ⟨by omega, ?_⟩
  rw [Nat.add_mul, show d * S * V = d * (V * S) from by rw [Nat.mul_assoc, Nat.mul_comm S V]]
  omega
theorem valI_digs_lo {v m L : Nat} (hv : v < 4294967296 ^ m) (hm : m ≤ L) : valI (digs v L) m = v := by
  rw [← valI_zeros (xs := digs v L) (k := m) (n := L) (fun i h1 _ => digs_hi hv h1) hm, valI_digs, Nat.mod_eq_of_lt (Nat.lt_of_lt_of_le hv (Nat.pow_le_pow_right (by decide) hm))]

theorem long_out {X Y V Qv R s : Nat} (hV : Y * 2 ^ s = V) (h : X * 2 ^ s = Qv * V + R) (hR : R < V) : X / Y = Qv ∧ R / 2 ^ s = X % Y := by
  have hs : 0 < 2 ^ s := Nat.two_pow_pos s
  have hY : 0 < Y := by
    rcases Nat.eq_zero_or_pos Y with rfl | h'
    · rw [Nat.zero_mul] at hV; omega
    · exact h'
  have h1 : X * 2 ^ s / (Y * 2 ^ s) = Qv := by
    rw [h, hV, Nat.add_comm, Nat.add_mul_div_right _ _ (by omega), Nat.div_eq_of_lt hR, Nat.zero_add]
  have h2 : X * 2 ^ s % (Y * 2 ^ s) = R := by
    rw [h, hV, Nat.add_comm, Nat.add_mul_mod_self_right, Nat.mod_eq_of_lt hR]
  rw [Nat.mul_div_mul_right _ _ hs] at h1
  rw [Nat.mul_mod_mul_right] at h2
  exact ⟨h1, by rw [← h2, Nat.mul_div_cancel _ hs]⟩

theorem shl_ior {a b : Nat} (ha : a < 4294967296) (hb : b < 4294967296) : ior .u64 (ishl .u64 (a : Int) 32) (b : Int) = ((a * 4294967296 + b : Nat) : Int) := by
  have e1 : ishl .u64 (a : Int) 32 = ((a * 4294967296 : Nat) : Int) := by
    show IntKind.u64.wrap ((a : Int) * 4294967296) = _
    rw [show (a : Int) * 4294967296 = ((a * 4294967296 : Nat) : Int) from by omega, wu64 (by omega)]
  rw [e1, ior_u64 (by omega) (by omega), Nat.mul_comm, ← Nat.two_pow_add_eq_or_of_lt (i := 32) (b := b) (by omega) a]

theorem c_long (xs ys : List Int) (l n X Y : Nat) (hl : l ≤ xs.length) (hn : n ≤ ys.length) (hxl : xs.length < 549755813888) (hyl : ys.length < 549755813888) (hx : W32 xs) (hy : W32 ys) (hX : valI xs l = X) (hY : valI ys n = Y)
    (h2 : 2 ≤ n) (htop : ys.getD (n - 1) 0 ≠ 0) (hnl : n ≤ l) (K1 K2 Q1 Q2 : Nat) (hk1 : Q1 ≠ K1 ∧ Q2 ≠ K1) (hk2 : Q1 ≠ K2 ∧ Q2 ≠ K2) (hq : Q1 ≠ Q2) :
    CallOK Tryz.prog 225 [.slc K1 1 0 l, .slc K2 1 0 n] [(K1, ⟨95, false, .ints .u32 xs⟩), (K2, ⟨95, false, .ints .u32 ys⟩)] (.tup [.slc Q1 1 0 (l + 1 - n), .slc Q2 1 0 (l + 1)])
      [(Q1, ⟨95, true, .ints .u32 (digs (X / Y) (l + 1 - n))⟩), (Q2, ⟨95, true, .ints .u32 (digs (X % Y) (l + 1))⟩)] [] := by
  obtain ⟨y, hyt⟩ := Int.eq_ofNat_of_zero_le (hy (n - 1)).1
  have hy2 := (hy (n - 1)).2
  have kz := c_LZ32 y (by omega)
  have hsz : 1 ≤ sz y ∧ sz y ≤ 32 := by
    refine ⟨?_, sz_le.2 (show y < 2 ^ 32 by have : (2 : Nat) ^ 32 = 4294967296 := rfl; omega)⟩
    refine Classical.byContradiction fun h => ?_
    have h3 := sz_le.1 (show sz y ≤ 0 by omega)
    rw [Nat.pow_zero] at h3
    exact htop (by rw [hyt]; omega)
  obtain ⟨s, hs⟩ : ∃ s, 32 - sz y = s := ⟨_, rfl⟩
  rw [hs] at kz
  have hs32 : s < 32 := by omega
  have ku := c_shifted xs l hl (by omega) hx s hs32 0 2001 (by decide) false X hX
  have kv := c_shifted ys n hn (by omega) hy s hs32 1 2002 (by decide) false Y hY
  obtain ⟨V, hVd⟩ : ∃ V, Y * 2 ^ s = V := ⟨_, rfl⟩
  rw [hVd] at kv
  have hXl : X < 4294967296 ^ l := by have := valI_lt hx l; rw [hX, ← natPowW] at this; omega
  have e0 : Hid (IntKind.i64.wrap ((n : Int) - 1) = ((n - 1 : Nat) : Int)) := show IntKind.i64.wrap ((n : Int) - 1) = ((n - 1 : Nat) : Int) from by rw [wrap_i64 (by omega) (by omega)]; omega
  have e1 : Hid (0 + ((n - 1 : Nat) : Int).toNat = n - 1) := show 0 + ((n - 1 : Nat) : Int).toNat = n - 1 from by omega
  have hnames : ∀ q ∈ keysOf [(0, (⟨95, false, .ints .u32 xs⟩ : Blk)), (1, ⟨95, false, .ints .u32 ys⟩)], renBy [(0, K1), (1, K2), (39, Q1), (2001, Q2)] 39 ≠ renBy [(0, K1), (1, K2), (39, Q1), (2001, Q2)] q ∧ renBy [(0, K1), (1, K2), (39, Q1), (2001, Q2)] 2001 ≠ renBy [(0, K1), (1, K2), (39, Q1), (2001, Q2)] q := fun q hq => by
    have hq : q = 0 ∨ q = 1 := by simpa [keysOf] using hq
    rcases hq with rfl | rfl
    · exact hk1
    · exact hk2
  refine callK (Z := []) tabOK mixedOK Tryz.func225 rfl (by kernel_rfl) (args := [.slc 0 1 0 l, .slc 1 1 0 n]) (fk := [(0, ⟨95, false, .ints .u32 xs⟩), (1, ⟨95, false, .ints .u32 ys⟩)])
    (c := .tup [.slc 39 1 0 (l + 1 - n), .slc 2001 1 0 (l + 1)]) (new := [(39, ⟨95, true, .ints .u32 (digs (X / Y) (l + 1 - n))⟩), (2001, ⟨95, true, .ints .u32 (digs (X % Y) (l + 1))⟩)]) (upd := []) (ShapeOK.of rfl rfl rfl rfl rfl rfl rfl rfl rfl rfl rfl) rfl (renBy [(0, K1), (1, K2), (39, Q1), (2001, Q2)]) (NamesOK.roNew2 rfl hnames hq) ?_
  intro W0 w0 ρ0 hE
  conv => whnf
  have e3 : Hid (((n : Int) - 0).toNat = n) := show ((n : Int) - 0).toNat = n from by omega
  have e4 : Hid (IntKind.i64.wrap (((l + 1 : Nat) : Int) - (n : Int)) = ((l + 1 - n : Nat) : Int)) := show IntKind.i64.wrap (((l + 1 : Nat) : Int) - (n : Int)) = ((l + 1 - n : Nat) : Int) from by rw [wrap_i64 (by omega) (by omega)]; omega
  have e5 : Hid (0 + Int.toNat 0 = 0) := show 0 + Int.toNat 0 = 0 from rfl
  have e6 : Hid (IntKind.i64.wrap (((l + 1 - n : Nat) : Int) - 1) = ((l + 1 - n : Nat) : Int) - 1) := show IntKind.i64.wrap (((l + 1 - n : Nat) : Int) - 1) = ((l + 1 - n : Nat) : Int) - 1 from wrap_i64 (by omega) (by omega)
  (repeat ((first | refine step_i (by kernel_rfl) ?_ | refine step_oL (by first | omega | decide | (simp only [tl0, dlen, List.length_replicate, List.length_set, List.length_map, List.length_zipWith, List.length_take, List.length_append, List.length_cons, List.length_nil]; omega)) ?_ | refine step_oA (by first | omega | decide | (simp only [tl0, dlen, List.length_replicate, List.length_set, List.length_map, List.length_zipWith, List.length_take, List.length_append, List.length_cons, List.length_nil]; omega)) ?_ | refine g_c (by assumption) ?_ | refine g_c1n (by assumption) rfl rfl ?_ | rw [e0.out] | rw [e1.out] | rw [hyt] | rw [e3.out] | rw [e5.out] | rw [e4.out]); conv => whnf))
  have e7 : Hid (IntKind.i64.wrap ((((l + 1 - n : Nat) : Int).toNat : Int) - 1) = ((l + 1 - n : Nat) : Int) - 1) := show IntKind.i64.wrap ((((l + 1 - n : Nat) : Int).toNat : Int) - 1) = ((l + 1 - n : Nat) : Int) - 1 from wrap_i64 (by omega) (by omega)
  rw [e7.out]
  obtain ⟨hVn, hVg⟩ := long_norm hy h2 hyt hY hs hVd hsz.1 hsz.2
  have hvs : valI (digs V (n + 1)) n = V := valI_digs_lo hVn (by omega)
  have hvw : W32 (digs V (n + 1)) := digs_w32 _ _
  have hvlen : (digs V (n + 1)).length = n + 1 := digs_len _ _
  refine SW_loopN hE (fun k => k) [4, 6, 7, 8, 9, 10] [0, 1, 39, 2001, 2002] (fun j fr hp => ∃ (R Qv : Nat) (q : List Int), j ≤ l + 1 - n ∧ R < V * 4294967296 ^ j ∧ X * 2 ^ s = Qv * V + R ∧ q.length = l + 1 - n ∧ W32 q ∧ (∀ i, i < j → q.getD i 0 = 0) ∧ valI q (l + 1 - n) = Qv ∧
    fr = [(4, .slc 39 1 0 (l + 1 - n)), (6, .val (.int .i64 s)), (7, .slc 2001 1 0 (l + 1)), (8, .slc 2002 1 0 n), (9, .val (.int .i64 n)), (10, .val (.int .i64 ((j : Int) - 1)))] ∧ hp = [(0, ⟨95, false, .ints .u32 xs⟩), (1, ⟨95, false, .ints .u32 ys⟩), (39, ⟨95, true, .ints .u32 q⟩), (2001, ⟨95, true, .ints .u32 (digs R (l + 1))⟩), (2002, ⟨95, true, .ints .u32 (digs V (n + 1))⟩)]) (l + 1 - n) ?_ ?_ ?_
  · kernel_rfl
  · exact ⟨X * 2 ^ s, 0, List.replicate (l + 1 - n) 0, Nat.le_refl _, long_first hXl hs32 hVg h2 hnl, by omega, by simp, (fun i => by rw [getD_replicate]; decide), (fun i _ => getD_replicate), by rw [valI_zeros (k := 0) (fun i _ _ => getD_replicate) (by omega)]; simp [valI], rfl, rfl⟩
  rintro j _ _ ⟨R, Qv, q, hj, hR, hXR, hql, hqw, hq0, hqv, rfl, rfl⟩
  by_cases h0 : j = 0
  · subst h0
    have t1 : Hid (decide (((0 : Nat) : Int) - 1 ≥ 0) = false) := show decide (((0 : Nat) : Int) - 1 ≥ 0) = false from rfl
    conv => whnf
    (repeat (first | (refine step_w2 rfl rfl ?_; conv => whnf) | (rw [t1.out]; conv => whnf)))
    have hRV : R < V := by simpa using hR
    obtain ⟨hdq, hdr⟩ := long_out hVd hXR hRV
    have hRl : R < 4294967296 ^ (l + 1) := Nat.lt_of_lt_of_le (Nat.lt_trans hRV hVn) (Nat.pow_le_pow_right (by decide) (by omega))
    have hqd : q = digs (X / Y) (l + 1 - n) := digs_of' hql hqw (by rw [hqv, hdq])
    refine SW_loopN hE (fun k => k) [4, 7, 167, 168] [0, 1, 39, 2001] (fun m fr hp => ∃ (i : Nat), m = s - i ∧ i ≤ s ∧
      fr = [(4, .slc 39 1 0 (l + 1 - n)), (7, .slc 2001 1 0 (l + 1)), (167, .val (.int .i64 s)), (168, .val (.int .i64 i))] ∧ hp = [(0, ⟨95, false, .ints .u32 xs⟩), (1, ⟨95, false, .ints .u32 ys⟩), (39, ⟨95, true, .ints .u32 q⟩), (2001, ⟨95, true, .ints .u32 (digs (R / 2 ^ i) (l + 1))⟩)]) s ?_ ?_ ?_
    · kernel_rfl
    · exact ⟨0, by omega, by omega, rfl, by rw [Nat.pow_zero, Nat.div_one]; rfl⟩
    rintro m _ _ ⟨i, rfl, hi, rfl, rfl⟩
    by_cases hlt : i < s
    · have t2 : Hid (decide ((i : Int) < (s : Int)) = true) := show decide ((i : Int) < (s : Int)) = true from decide_eq_true (by omega)
      have f4 : Hid (IntKind.i64.wrap ((i : Int) + 1) = ((i + 1 : Nat) : Int)) := show IntKind.i64.wrap ((i : Int) + 1) = ((i + 1 : Nat) : Int) from by rw [wrap_i64 (by omega) (by omega)]; omega
      have kh := c_half (digs (R / 2 ^ i) (l + 1)) (by rw [digs_len]; omega) (digs_w32 _ _) 2001 (R / 2 ^ i) (by rw [digs_len, valI_digs, Nat.mod_eq_of_lt (Nat.lt_of_le_of_lt (Nat.div_le_self _ _) hRl)])
      rw [digs_len, Nat.div_div_eq_div_mul, ← Nat.pow_succ] at kh
      conv => whnf
      (repeat (first | (refine step_w1 rfl rfl ?_; conv => whnf) | (refine g_c1u (by assumption) rfl rfl ?_; conv => whnf) | (rw [t2.out]; conv => whnf)))
      rw [f4.out]
      exact ⟨s - (i + 1), fun k => k, [4, 7, 167, 168], [0, 1, 39, 2001], by omega, by kernel_rfl, i + 1, rfl, by omega, rfl, rfl⟩
    · have hi' : i = s := by omega
      subst hi'
      have t2 : Hid (decide ((i : Int) < (i : Int)) = false) := show decide ((i : Int) < (i : Int)) = false from decide_eq_false (by omega)
      rw [hqd, hdr]
      conv => whnf
      (repeat (first | (refine step_w2 rfl rfl ?_; conv => whnf) | (rw [t2.out]; conv => whnf)))
      exact ⟨Recast.refl _, two_fk rfl rfl, (fun _ _ h => by cases h)⟩
  obtain ⟨k, rfl⟩ : ∃ k, j = k + 1 := ⟨j - 1, by omega⟩
  have t1 : Hid (decide (((k + 1 : Nat) : Int) - 1 ≥ 0) = true) := show decide (((k + 1 : Nat) : Int) - 1 ≥ 0) = true from decide_eq_true (by omega)
  have hP : 0 < 4294967296 ^ (n - 2) := Nat.pow_pos (by decide)
  have hS : 0 < 4294967296 ^ k := Nat.pow_pos (by decide)
  have hul : (digs R (l + 1)).length = l + 1 := digs_len _ _
  obtain ⟨P, hPd⟩ : ∃ P, 4294967296 ^ (n - 2) = P := ⟨_, rfl⟩
  obtain ⟨S, hSd⟩ : ∃ S, 4294967296 ^ k = S := ⟨_, rfl⟩
  rw [hPd] at hP
  rw [hSd] at hS
  have hR' : R < V * (S * 4294967296) := by rw [← hSd, ← Nat.pow_succ]; exact hR
  obtain ⟨t, ht⟩ : ∃ t, R / (P * S) / 4294967296 = t := ⟨_, rfl⟩
  obtain ⟨u0, hu0⟩ : ∃ u0, R / (P * S) % 4294967296 = u0 := ⟨_, rfl⟩
  obtain ⟨v1, hv1⟩ : ∃ v1, V / P / 4294967296 = v1 := ⟨_, rfl⟩
  obtain ⟨v2, hv2⟩ : ∃ v2, V / P % 4294967296 = v2 := ⟨_, rfl⟩
  obtain ⟨hRB, hVSB, hVW, hv1a, hta, g1', g2', g3', g4', g5'⟩ := long_words (l := l) h2 (by omega) hPd hSd hVn hVg hR'
  have hv2a : V / P % 4294967296 < 4294967296 := Nat.mod_lt _ (by decide)
  have hu0a : R / (P * S) % 4294967296 < 4294967296 := Nat.mod_lt _ (by decide)
  rw [hv1] at hv1a g4'
  rw [ht] at hta g1' g2'
  rw [hu0] at g3' hu0a
  rw [hv2] at g5' hv2a
  have g1 : Hid ((digs R (l + 1)).getD (k + n) 0 = ((t / 4294967296 : Nat) : Int)) := show (digs R (l + 1)).getD (k + n) 0 = ((t / 4294967296 : Nat) : Int) from g1'
  have g2 : Hid ((digs R (l + 1)).getD (k + (n - 1)) 0 = ((t % 4294967296 : Nat) : Int)) := show (digs R (l + 1)).getD (k + (n - 1)) 0 = ((t % 4294967296 : Nat) : Int) from g2'
  have g3 : Hid ((digs R (l + 1)).getD (k + (n - 2)) 0 = (u0 : Int)) := show (digs R (l + 1)).getD (k + (n - 2)) 0 = (u0 : Int) from g3'
  have g4 : Hid ((digs V (n + 1)).getD (n - 1) 0 = (v1 : Int)) := show (digs V (n + 1)).getD (n - 1) 0 = (v1 : Int) from g4'
  have g5 : Hid ((digs V (n + 1)).getD (n - 2) 0 = (v2 : Int)) := show (digs V (n + 1)).getD (n - 2) 0 = (v2 : Int) from g5'
  clear g1' g2' g3' g4' g5'
  have i1 : Hid (((k + 1 : Nat) : Int) - 1 = (k : Int)) := show ((k + 1 : Nat) : Int) - 1 = (k : Int) from by omega
  have i2 : Hid (IntKind.i64.wrap ((k : Int) + (n : Int)) = ((k + n : Nat) : Int)) := show IntKind.i64.wrap ((k : Int) + (n : Int)) = ((k + n : Nat) : Int) from by rw [wrap_i64 (by omega) (by omega)]; omega
  have i3 : Hid (0 + ((k + n : Nat) : Int).toNat = k + n) := show 0 + ((k + n : Nat) : Int).toNat = k + n from by omega
  have i4 : Hid (IntKind.i64.wrap (((k + n : Nat) : Int) - 1) = ((k + (n - 1) : Nat) : Int)) := show IntKind.i64.wrap (((k + n : Nat) : Int) - 1) = ((k + (n - 1) : Nat) : Int) from by rw [wrap_i64 (by omega) (by omega)]; omega
  have i5 : Hid (0 + ((k + (n - 1) : Nat) : Int).toNat = k + (n - 1)) := show 0 + ((k + (n - 1) : Nat) : Int).toNat = k + (n - 1) from by omega
  have i6 : Hid (IntKind.u64.wrap ((t / 4294967296 : Nat) : Int) = ((t / 4294967296 : Nat) : Int)) := show IntKind.u64.wrap ((t / 4294967296 : Nat) : Int) = ((t / 4294967296 : Nat) : Int) from wu64 (by omega)
  have i7 : Hid (IntKind.u64.wrap ((t % 4294967296 : Nat) : Int) = ((t % 4294967296 : Nat) : Int)) := show IntKind.u64.wrap ((t % 4294967296 : Nat) : Int) = ((t % 4294967296 : Nat) : Int) from wu64 (by omega)
  have i8 : Hid (ior .u64 (ishl .u64 ((t / 4294967296 : Nat) : Int) 32) ((t % 4294967296 : Nat) : Int) = (t : Int)) := show ior .u64 (ishl .u64 ((t / 4294967296 : Nat) : Int) 32) ((t % 4294967296 : Nat) : Int) = (t : Int) from by rw [shl_ior (by omega) (by omega)]; congr 1; omega
  have i9 : Hid (IntKind.u64.wrap (v1 : Int) = (v1 : Int)) := show IntKind.u64.wrap (v1 : Int) = (v1 : Int) from wu64 (by omega)
  have i10 : Hid (((v1 : Int) != 0) = true) := show ((v1 : Int) != 0) = true from by simp; omega
  have i11 : Hid ((t : Int).tdiv (v1 : Int) = ((t / v1 : Nat) : Int)) := show (t : Int).tdiv (v1 : Int) = ((t / v1 : Nat) : Int) from rfl
  have i12 : Hid ((t : Int).tmod (v1 : Int) = ((t % v1 : Nat) : Int)) := show (t : Int).tmod (v1 : Int) = ((t % v1 : Nat) : Int) from rfl
  have hq1 : t / v1 ≤ t := Nat.div_le_self _ _
  have hq2 : t % v1 < v1 := Nat.mod_lt _ (by omega)
  have i13 : Hid (IntKind.u64.wrap ((t / v1 : Nat) : Int) = ((t / v1 : Nat) : Int)) := show IntKind.u64.wrap ((t / v1 : Nat) : Int) = ((t / v1 : Nat) : Int) from wu64 (by omega)
  have i14 : Hid (IntKind.u64.wrap ((t % v1 : Nat) : Int) = ((t % v1 : Nat) : Int)) := show IntKind.u64.wrap ((t % v1 : Nat) : Int) = ((t % v1 : Nat) : Int) from wu64 (by omega)
  conv => whnf
  (repeat ((first | refine step_w1 rfl rfl ?_ | refine step_i (by kernel_rfl) ?_ | refine step_oL (by first | omega | decide | (simp only [tl0, dlen, List.length_replicate, List.length_set, List.length_map, List.length_zipWith, List.length_take, List.length_append, List.length_cons, List.length_nil]; omega)) ?_ | refine step_oM (by first | omega | decide | (simp only [tl0, dlen, List.length_replicate, List.length_set, List.length_map, List.length_zipWith, List.length_take, List.length_append, List.length_cons, List.length_nil]; omega)) ?_ | refine step_oA (by first | omega | decide | (simp only [tl0, dlen, List.length_replicate, List.length_set, List.length_map, List.length_zipWith, List.length_take, List.length_append, List.length_cons, List.length_nil]; omega)) ?_ | refine step_oN (by first | omega | decide | (simp only [tl0, dlen, List.length_replicate, List.length_set, List.length_map, List.length_zipWith, List.length_take, List.length_append, List.length_cons, List.length_nil]; omega)) ?_ | rw [t1.out] | rw [i1.out] | rw [i2.out] | rw [i3.out] | rw [i4.out] | rw [i5.out] | rw [g1.out] | rw [g2.out] | rw [i6.out] | rw [i7.out] | rw [i8.out] | rw [e0.out] | rw [e1.out] | rw [g4.out] | rw [i9.out] | rw [i11.out] | rw [i12.out] | rw [i13.out]); conv => whnf))
  have hlo0 : R < (t / v1 + 1) * V * S := long_guess (W := 4294967296) hP hS (by decide) (by rw [hv1]; exact Nat.lt_of_lt_of_le (by decide) hv1a.1) (by rw [ht, hv1])
  have hdm : t / v1 * v1 + t % v1 = t := by rw [Nat.mul_comm]; exact Nat.div_add_mod t v1
  refine SW_loopN hE (fun k => k) [4, 6, 7, 8, 9, 10, 12, 13] [0, 1, 39, 2001, 2002] (fun d fr hp => ∃ (r : Nat), d < 18446744073709551616 ∧ d * v1 + r = t ∧ r < 8589934592 ∧ R < (d + 1) * V * S ∧
    fr = [(4, .slc 39 1 0 (l + 1 - n)), (6, .val (.int .i64 s)), (7, .slc 2001 1 0 (l + 1)), (8, .slc 2002 1 0 n), (9, .val (.int .i64 n)), (10, .val (.int .i64 k)), (12, .val (.int .u64 d)), (13, .val (.int .u64 r))] ∧ hp = [(0, ⟨95, false, .ints .u32 xs⟩), (1, ⟨95, false, .ints .u32 ys⟩), (39, ⟨95, true, .ints .u32 q⟩), (2001, ⟨95, true, .ints .u32 (digs R (l + 1))⟩), (2002, ⟨95, true, .ints .u32 (digs V (n + 1))⟩)]) (t / v1) ?_ ?_ ?_
  · kernel_rfl
  · exact ⟨t % v1, by omega, hdm, by omega, hlo0, rfl, rfl⟩
  rintro d _ _ ⟨r, hd64, hdr, hr33, hlo, rfl, rfl⟩
  by_cases hrW : r < 4294967296
  · have t2 : Hid (decide ((r : Int) ≤ 4294967295) = true) := show decide ((r : Int) ≤ 4294967295) = true from decide_eq_true (by omega)
    have j1 : Hid (IntKind.u64.wrap ((v2 : Nat) : Int) = (v2 : Int)) := show IntKind.u64.wrap ((v2 : Nat) : Int) = (v2 : Int) from wu64 (by omega)
    have j2 : Hid (IntKind.i64.wrap ((n : Int) - 2) = ((n - 2 : Nat) : Int)) := show IntKind.i64.wrap ((n : Int) - 2) = ((n - 2 : Nat) : Int) from by rw [wrap_i64 (by omega) (by omega)]; omega
    have j3 : Hid (0 + ((n - 2 : Nat) : Int).toNat = n - 2) := show 0 + ((n - 2 : Nat) : Int).toNat = n - 2 from by omega
    have j4 : Hid (IntKind.i64.wrap (((k + n : Nat) : Int) - 2) = ((k + (n - 2) : Nat) : Int)) := show IntKind.i64.wrap (((k + n : Nat) : Int) - 2) = ((k + (n - 2) : Nat) : Int) from by rw [wrap_i64 (by omega) (by omega)]; omega
    have j5 : Hid (0 + ((k + (n - 2) : Nat) : Int).toNat = k + (n - 2)) := show 0 + ((k + (n - 2) : Nat) : Int).toNat = k + (n - 2) from by omega
    have j6 : Hid (IntKind.u64.wrap ((u0 : Nat) : Int) = (u0 : Int)) := show IntKind.u64.wrap ((u0 : Nat) : Int) = (u0 : Int) from wu64 (by omega)
    have j9 : Hid (IntKind.u64.wrap ((r : Int) + (v1 : Int)) = ((r + v1 : Nat) : Int)) := show IntKind.u64.wrap ((r : Int) + (v1 : Int)) = ((r + v1 : Nat) : Int) from by rw [← Int.natCast_add, wu64 (by omega)]
    -- the guess is too great: one less
    have hdec : R < d * V * S → 0 < d ∧ d - 1 < 18446744073709551616 ∧ (d - 1) * v1 + (r + v1) = t ∧ r + v1 < 8589934592 ∧ R < (d - 1 + 1) * V * S ∧ IntKind.u64.wrap ((d : Int) - 1) = ((d - 1 : Nat) : Int) := fun h => by
      have hd0 : 0 < d := by
        rcases Nat.eq_zero_or_pos d with rfl | h'
        · rw [Nat.zero_mul, Nat.zero_mul] at h; exact absurd h (Nat.not_lt_zero _)
        · exact h'
      have hd1 : d - 1 + 1 = d := Nat.succ_pred_eq_of_pos hd0
      have hm : d * v1 = (d - 1) * v1 + v1 := by
        have := Nat.succ_mul (d - 1) v1
        rw [Nat.succ_eq_add_one, hd1] at this; exact this
      refine ⟨hd0, by omega, by omega, by omega, by rw [hd1]; exact h, ?_⟩
      rw [show (d : Int) - 1 = ((d - 1 : Nat) : Int) from by omega, wu64 (by omega)]
    by_cases hdW : d < 4294967296
    · have t3 : Hid (decide ((d : Int) ≤ 4294967295) = true) := show decide ((d : Int) ≤ 4294967295) = true from decide_eq_true (by omega)
      have hdv : d * v2 ≤ 4294967295 * 4294967295 := Nat.mul_le_mul (by omega) (by omega)
      have j7 : Hid (IntKind.u64.wrap ((d : Int) * (v2 : Int)) = ((d * v2 : Nat) : Int)) := show IntKind.u64.wrap ((d : Int) * (v2 : Int)) = ((d * v2 : Nat) : Int) from by rw [← Int.natCast_mul, wu64 (by omega)]
      have j8 : Hid (ior .u64 (ishl .u64 (r : Int) 32) (u0 : Int) = ((r * 4294967296 + u0 : Nat) : Int)) := show ior .u64 (ishl .u64 (r : Int) 32) (u0 : Int) = ((r * 4294967296 + u0 : Nat) : Int) from shl_ior hrW hu0a
      by_cases hg : d * v2 ≤ r * 4294967296 + u0
      · have t4 : Hid (decide (((d * v2 : Nat) : Int) ≤ ((r * 4294967296 + u0 : Nat) : Int)) = true) := show decide (((d * v2 : Nat) : Int) ≤ ((r * 4294967296 + u0 : Nat) : Int)) = true from decide_eq_true (by omega)
        have hhi : d * V * S ≤ R + V * S := long_high (W := 4294967296) hP hS (by decide) hdW (by rw [ht, hv1]; exact hdr) (by rw [hu0, hv2]; exact hg) hVW
        conv => whnf
        (repeat ((first | refine step_w1 rfl rfl ?_ | refine step_i (by kernel_rfl) ?_ | refine step_oL (by first | omega | decide | (simp only [tl0, dlen, List.length_replicate, List.length_set, List.length_map, List.length_zipWith, List.length_take, List.length_append, List.length_cons, List.length_nil]; omega)) ?_ | refine step_oM (by first | omega | decide | (simp only [tl0, dlen, List.length_replicate, List.length_set, List.length_map, List.length_zipWith, List.length_take, List.length_append, List.length_cons, List.length_nil]; omega)) ?_ | refine step_oA (by first | omega | decide | (simp only [tl0, dlen, List.length_replicate, List.length_set, List.length_map, List.length_zipWith, List.length_take, List.length_append, List.length_cons, List.length_nil]; omega)) ?_ | refine g_o (op_pickT rfl (ev_ok rfl) (ev_ok rfl)) ?_ | rw [t2.out] | rw [t3.out] | rw [j2.out] | rw [j3.out] | rw [g5.out] | rw [j1.out] | rw [i2.out] | rw [j4.out] | rw [j5.out] | rw [g3.out] | rw [j6.out] | rw [j7.out] | rw [j8.out] | rw [t4.out]); conv => whnf))
        have l1 : Hid (IntKind.i64.wrap (((k + n : Nat) : Int) + 1) = ((k + n + 1 : Nat) : Int)) := show IntKind.i64.wrap (((k + n : Nat) : Int) + 1) = ((k + n + 1 : Nat) : Int) from by rw [wrap_i64 (by omega) (by omega)]; omega
        have l2 : Hid (0 + (k : Int).toNat = k) := show 0 + (k : Int).toNat = k from by omega
        have l3 : Hid ((((k + n + 1 : Nat) : Int) - (k : Int)).toNat = n + 1) := show (((k + n + 1 : Nat) : Int) - (k : Int)).toNat = n + 1 from by omega
        have l4 : Hid (IntKind.u32.wrap (d : Int) = (d : Int)) := show IntKind.u32.wrap (d : Int) = (d : Int) from wu32 hdW
        have l5 : Hid (IntKind.i64.wrap ((k : Int) - 1) = (k : Int) - 1) := show IntKind.i64.wrap ((k : Int) - 1) = (k : Int) - 1 from wrap_i64 (by omega) (by omega)
        have kl := c_less (l + 1) k n R d V (digs V (n + 1)) (by omega) (by omega) hRB (by omega) (by omega) hvw hvs hdW 2001 2002 (by decide)
        rw [hSd] at kl
        obtain ⟨B, hB⟩ : ∃ B, 4294967296 ^ (k + n + 1) = B := ⟨_, rfl⟩
        have hDB : V * S ≤ B := by rw [← hB, ← hSd]; exact hVSB
        have hRB' : R < B := by rw [← hB]; exact hRB
        rw [hB] at kl
        have hq00 := hq0 k (Nat.lt_succ_self k)
        by_cases hneg : R < d * V * S
        · have t5 : Hid (decide (R < d * V * S) = true) := show decide (R < d * V * S) = true from decide_eq_true hneg
          rw [Nat.mul_assoc] at hneg hhi
          obtain ⟨m1, m2, m3, hd0⟩ := long_neg hneg hhi hRB' hDB
          rw [← Nat.mul_assoc] at m1
          have hR1 : (R + B - d * V * S) % B < 4294967296 ^ (k + n + 1) := by rw [hB]; exact Nat.mod_lt _ (Nat.lt_of_le_of_lt (Nat.zero_le _) hRB')
          obtain ⟨R1, hR1d⟩ : ∃ R1, (R + B - d * V * S) % B = R1 := ⟨_, rfl⟩
          rw [hR1d] at kl m1 hR1
          have hus1 : (digs R1 (l + 1)).length = l + 1 := digs_len _ _
          have husw := digs_w32 R1 (l + 1)
          have husv := valI_digs_lo (L := l + 1) hR1 (by omega)
          have husz : ∀ j, k + n + 1 ≤ j → (digs R1 (l + 1)).getD j 0 = 0 := fun j hj => digs_hi hR1 hj
          have l6 : Hid (IntKind.u64.wrap ((d : Int) - 1) = ((d - 1 : Nat) : Int)) := show IntKind.u64.wrap ((d : Int) - 1) = ((d - 1 : Nat) : Int) from by rw [show (d : Int) - 1 = ((d - 1 : Nat) : Int) from by omega, wu64 (by omega)]
          (repeat ((first | refine step_w1 rfl rfl ?_ | refine step_oA (by first | omega | decide | (simp only [tl0, dlen, List.length_replicate, List.length_set, List.length_map, List.length_zipWith, List.length_take, List.length_append, List.length_cons, List.length_nil]; omega)) ?_ | refine ⟨[_, _], _, [], [_, _], (by assumption), two_fk rfl rfl, nil_new, two_upd (List.mem_cons_self ..) rfl rfl rfl (List.mem_cons_of_mem _ (List.mem_cons_self ..)) rfl rfl rfl, ?_⟩ | rw [l1.out] | rw [l2.out] | rw [l3.out] | rw [t5.out]); conv => whnf))
          rw [l6.out]
          generalize hus : digs R1 (l + 1) = us at *
          refine SW_loopN hE (fun k => k) [4, 6, 7, 8, 9, 10, 12, 14, 128, 129, 130] [0, 1, 39, 2001, 2002] (fun m fr hp => ∃ (i : Nat) (o : List Int) (c : Nat), m = n - i ∧ i ≤ n ∧ o.length = l + 1 ∧ W32 o ∧ c ≤ 1 ∧ (∀ j, k + i ≤ j → o.getD j 0 = us.getD j 0) ∧ valI o (k + i) + c * 4294967296 ^ (k + i) = valI us (k + i) + valI (digs V (n + 1)) i * 4294967296 ^ k ∧
            fr = [(4, .slc 39 1 0 (l + 1 - n)), (6, .val (.int .i64 s)), (7, .slc 2001 1 0 (l + 1)), (8, .slc 2002 1 0 n), (9, .val (.int .i64 n)), (10, .val (.int .i64 k)), (12, .val (.int .u64 (d - 1 : Nat))), (14, .val (.int .u32 c)), (128, .slc 2002 1 0 n), (129, .val (.int .i64 n)), (130, .val (.int .i64 i))] ∧ hp = [(0, ⟨95, false, .ints .u32 xs⟩), (1, ⟨95, false, .ints .u32 ys⟩), (39, ⟨95, true, .ints .u32 q⟩), (2001, ⟨95, true, .ints .u32 o⟩), (2002, ⟨95, true, .ints .u32 (digs V (n + 1))⟩)]) n ?_ ?_ ?_
          · kernel_rfl
          · exact ⟨0, us, 0, by omega, by omega, hus1, husw, by omega, (fun _ _ => rfl), by simp [valI], rfl, rfl⟩
          rintro m _ _ ⟨i, o, c, rfl, hi, hlen, hw, hc, hrest, hval, rfl, rfl⟩
          obtain ⟨x, hx⟩ := Int.eq_ofNat_of_zero_le (husw (k + i)).1
          have hx2 := (husw (k + i)).2
          have hox : Hid (o.getD (k + i) 0 = (x : Int)) := show o.getD (k + i) 0 = (x : Int) from by rw [hrest _ (Nat.le_refl _)]; exact hx
          by_cases hlt : i < n
          · have t1 : Hid (decide ((i : Int) < (n : Int)) = true) := show decide ((i : Int) < (n : Int)) = true from decide_eq_true (by omega)
            have f1 : Hid (0 + (i : Int).toNat = i) := show 0 + (i : Int).toNat = i from by omega
            have f2 : Hid (IntKind.i64.wrap ((k : Int) + (i : Int)) = ((k + i : Nat) : Int)) := show IntKind.i64.wrap ((k : Int) + (i : Int)) = ((k + i : Nat) : Int) from by rw [wrap_i64 (by omega) (by omega)]; omega
            have f3 : Hid (0 + ((k + i : Nat) : Int).toNat = k + i) := show 0 + ((k + i : Nat) : Int).toNat = k + i from by omega
            have f4 : Hid (IntKind.i64.wrap ((i : Int) + 1) = ((i + 1 : Nat) : Int)) := show IntKind.i64.wrap ((i : Int) + 1) = ((i + 1 : Nat) : Int) from by rw [wrap_i64 (by omega) (by omega)]; omega
            obtain ⟨w, hww⟩ := Int.eq_ofNat_of_zero_le (hvw i).1
            have hw2 := (hvw i).2
            have f5 : Hid ((digs V (n + 1)).getD i 0 = (w : Int)) := show (digs V (n + 1)).getD i 0 = (w : Int) from hww
            have k32 := c_Add32 x w c (by omega) (by omega) hc
            have hstep := back_step (by omega) hx hww hval
            have hc' : (x + w + c) / 4294967296 ≤ 1 := by omega
            conv => whnf
            (repeat ((first | refine step_w1 rfl rfl ?_ | refine step_oL (by first | omega | decide | (simp only [tl0, dlen, List.length_replicate, List.length_set, List.length_map, List.length_zipWith, List.length_take, List.length_append, List.length_cons, List.length_nil]; omega)) ?_ | refine step_oA (by first | omega | decide | (simp only [tl0, dlen, List.length_replicate, List.length_set, List.length_map, List.length_zipWith, List.length_take, List.length_append, List.length_cons, List.length_nil]; omega)) ?_ | refine g_c (by assumption) ?_ | rw [t1.out] | rw [f1.out] | rw [f5.out] | rw [f2.out] | rw [f3.out] | rw [hox.out]); conv => whnf))
            rw [f4.out]
            exact ⟨n - (i + 1), fun k => k, [4, 6, 7, 8, 9, 10, 12, 14, 128, 129, 130], [0, 1, 39, 2001, 2002], by omega, by kernel_rfl, i + 1, _, _, rfl, by omega, by simpa using hlen, hw.set (by omega) (by omega), hc', (fun j hj => by rw [getD_set, if_neg (by omega)]; exact hrest j (by omega)), hstep, rfl, rfl⟩
          · have hi' : i = n := by omega
            subst hi'
            have t1 : Hid (decide ((i : Int) < (i : Int)) = false) := show decide ((i : Int) < (i : Int)) = false from decide_eq_false (by omega)
            have f6 : Hid (IntKind.u32.wrap ((x : Int) + (c : Int)) = (((x + c) % 4294967296 : Nat) : Int)) := show IntKind.u32.wrap ((x : Int) + (c : Int)) = (((x + c) % 4294967296 : Nat) : Int) from by rw [← Int.natCast_add, wu32m]
            have f7 : Hid (IntKind.u32.wrap ((d - 1 : Nat) : Int) = ((d - 1 : Nat) : Int)) := show IntKind.u32.wrap ((d - 1 : Nat) : Int) = ((d - 1 : Nat) : Int) from wu32 (by omega)
            have hw' : W32 (o.set (k + i) (((x + c) % 4294967296 : Nat) : Int)) := hw.set (by omega) (by omega)
            have hfin := back_fin (by omega) hx hc (by omega) husv hvs hval hw'
            rw [hSd, hB, m1] at hfin
            have ho' := digs_low (L := l + 1) (by simpa using hlen) hw' (fun j hj => by rw [getD_set, if_neg (by omega), hrest j (by omega)]; exact husz j hj) (by omega) hfin
            obtain ⟨p1, p2⟩ := long_end (U := X * 2 ^ s) m2 m3 hXR
            conv => whnf
            (repeat ((first | refine step_w2 rfl rfl ?_ | refine step_oL (by first | omega | decide | (simp only [tl0, dlen, List.length_replicate, List.length_set, List.length_map, List.length_zipWith, List.length_take, List.length_append, List.length_cons, List.length_nil]; omega)) ?_ | refine step_oA (by first | omega | decide | (simp only [tl0, dlen, List.length_replicate, List.length_set, List.length_map, List.length_zipWith, List.length_take, List.length_append, List.length_cons, List.length_nil]; omega)) ?_ | rw [t1.out] | rw [i2.out] | rw [i3.out] | rw [hox.out] | rw [f6.out] | rw [f7.out] | rw [l2.out]); conv => whnf))
            rw [l5.out, ho']
            exact ⟨k, fun k => k, [4, 6, 7, 8, 9, 10], [0, 1, 39, 2001, 2002], by omega, by kernel_rfl, R - (d - 1) * (V * S), Qv + (d - 1) * S, q.set k ((d - 1 : Nat) : Int), by omega, by rw [hSd]; exact p1, p2, by simpa using hql, hqw.set (by omega) (by omega), (fun j hj => by rw [getD_set, if_neg (by omega)]; exact hq0 j (by omega)), by rw [valI_set (by omega) (by omega), hqv, hq00, ← natPowW, hSd, Int.sub_zero, ← Int.natCast_mul, ← Int.natCast_add], rfl, rfl⟩
        · have t5 : Hid (decide (R < d * V * S) = false) := show decide (R < d * V * S) = false from decide_eq_false hneg
          rw [Nat.mul_assoc] at hneg hlo
          have hneg' := Nat.le_of_not_lt hneg
          have hpos := long_pos (d := d) (D := V * S) hneg' hRB'
          rw [← Nat.mul_assoc] at hpos
          rw [hpos] at kl
          obtain ⟨p1, p2⟩ := long_end (U := X * 2 ^ s) hneg' hlo hXR
          rw [← Nat.mul_assoc] at p1 p2
          (repeat ((first | refine step_w2 rfl rfl ?_ | refine step_oL (by first | omega | decide | (simp only [tl0, dlen, List.length_replicate, List.length_set, List.length_map, List.length_zipWith, List.length_take, List.length_append, List.length_cons, List.length_nil]; omega)) ?_ | refine step_oA (by first | omega | decide | (simp only [tl0, dlen, List.length_replicate, List.length_set, List.length_map, List.length_zipWith, List.length_take, List.length_append, List.length_cons, List.length_nil]; omega)) ?_ | refine ⟨[_, _], _, [], [_, _], (by assumption), two_fk rfl rfl, nil_new, two_upd (List.mem_cons_self ..) rfl rfl rfl (List.mem_cons_of_mem _ (List.mem_cons_self ..)) rfl rfl rfl, ?_⟩ | rw [l1.out] | rw [l2.out] | rw [l3.out] | rw [t5.out] | rw [l4.out]); conv => whnf))
          rw [l5.out]
          exact ⟨k, fun k => k, [4, 6, 7, 8, 9, 10], [0, 1, 39, 2001, 2002], by omega, by kernel_rfl, R - d * V * S, Qv + d * S, q.set k (d : Int), by omega, by rw [hSd]; exact p1, p2, by simpa using hql, hqw.set (by omega) (by omega), (fun j hj => by rw [getD_set, if_neg (by omega)]; exact hq0 j (by omega)), by rw [valI_set (by omega) (by omega), hqv, hq00, ← natPowW, hSd, Int.sub_zero, ← Int.natCast_mul, ← Int.natCast_add], rfl, rfl⟩
      · have t4 : Hid (decide (((d * v2 : Nat) : Int) ≤ ((r * 4294967296 + u0 : Nat) : Int)) = false) := show decide (((d * v2 : Nat) : Int) ≤ ((r * 4294967296 + u0 : Nat) : Int)) = false from decide_eq_false (by omega)
        have hlow : R < d * V * S := long_low (W := 4294967296) hP hS (by decide) (by rw [ht, hv1]; exact hdr) (by rw [hu0, hv2]; omega)
        obtain ⟨n1, n2, n3, n4, n5, n6⟩ := hdec hlow
        conv => whnf
        (repeat ((first | refine step_w1 rfl rfl ?_ | refine step_w2 rfl rfl ?_ | refine step_i (by kernel_rfl) ?_ | refine step_oL (by first | omega | decide | (simp only [tl0, dlen, List.length_replicate, List.length_set, List.length_map, List.length_zipWith, List.length_take, List.length_append, List.length_cons, List.length_nil]; omega)) ?_ | refine step_oM (by first | omega | decide | (simp only [tl0, dlen, List.length_replicate, List.length_set, List.length_map, List.length_zipWith, List.length_take, List.length_append, List.length_cons, List.length_nil]; omega)) ?_ | refine step_oA (by first | omega | decide | (simp only [tl0, dlen, List.length_replicate, List.length_set, List.length_map, List.length_zipWith, List.length_take, List.length_append, List.length_cons, List.length_nil]; omega)) ?_ | refine g_o (op_pickT rfl (ev_ok rfl) (ev_ok rfl)) ?_ | rw [t2.out] | rw [t3.out] | rw [j2.out] | rw [j3.out] | rw [g5.out] | rw [j1.out] | rw [i2.out] | rw [j4.out] | rw [j5.out] | rw [g3.out] | rw [j6.out] | rw [j7.out] | rw [j8.out] | rw [t4.out] | rw [e0.out] | rw [e1.out] | rw [g4.out] | rw [i9.out]); conv => whnf))
        rw [j9.out, n6]
        exact ⟨d - 1, fun k => k, [4, 6, 7, 8, 9, 10, 12, 13], [0, 1, 39, 2001, 2002], by omega, by kernel_rfl, r + v1, n2, n3, n4, n5, rfl, rfl⟩
    · have t3 : Hid (decide ((d : Int) ≤ 4294967295) = false) := show decide ((d : Int) ≤ 4294967295) = false from decide_eq_false (by omega)
      have hlow : R < d * V * S := by
        have h1 : 4294967296 * (V * S) ≤ d * (V * S) := Nat.mul_le_mul_right _ (by omega)
        rw [Nat.mul_assoc]
        refine Nat.lt_of_lt_of_le hR' (Nat.le_trans (Nat.le_of_eq ?_) h1)
        rw [Nat.mul_comm 4294967296, Nat.mul_assoc]
      obtain ⟨n1, n2, n3, n4, n5, n6⟩ := hdec hlow
      conv => whnf
      (repeat ((first | refine step_w1 rfl rfl ?_ | refine step_w2 rfl rfl ?_ | refine step_i (by kernel_rfl) ?_ | refine step_oL (by first | omega | decide | (simp only [tl0, dlen, List.length_replicate, List.length_set, List.length_map, List.length_zipWith, List.length_take, List.length_append, List.length_cons, List.length_nil]; omega)) ?_ | refine step_oA (by first | omega | decide | (simp only [tl0, dlen, List.length_replicate, List.length_set, List.length_map, List.length_zipWith, List.length_take, List.length_append, List.length_cons, List.length_nil]; omega)) ?_ | refine g_o (op_pickF rfl (ev_ok rfl) (ev_ok rfl)) ?_ | rw [t2.out] | rw [t3.out] | rw [e0.out] | rw [e1.out] | rw [g4.out] | rw [i9.out]); conv => whnf))
      rw [j9.out, n6]
      exact ⟨d - 1, fun k => k, [4, 6, 7, 8, 9, 10, 12, 13], [0, 1, 39, 2001, 2002], by omega, by kernel_rfl, r + v1, n2, n3, n4, n5, rfl, rfl⟩
  · have t2 : Hid (decide ((r : Int) ≤ 4294967295) = false) := show decide ((r : Int) ≤ 4294967295) = false from decide_eq_false (by omega)
    have hdW : d < 4294967296 := long_small (W := 4294967296) hP hS (by decide) (by rw [ht, hv1]; exact hdr) (by omega) hR'
    have hhi : d * V * S ≤ R + V * S := Nat.le_trans (long_rest (W := 4294967296) hP hS (by decide) hdW (by rw [ht, hv1]; exact hdr) (by omega)) (Nat.le_add_right _ _)
    conv => whnf
    (repeat (first | (refine step_w2 rfl rfl ?_; conv => whnf) | (rw [t2.out]; conv => whnf)))
    have l1 : Hid (IntKind.i64.wrap (((k + n : Nat) : Int) + 1) = ((k + n + 1 : Nat) : Int)) := show IntKind.i64.wrap (((k + n : Nat) : Int) + 1) = ((k + n + 1 : Nat) : Int) from by rw [wrap_i64 (by omega) (by omega)]; omega
    have l2 : Hid (0 + (k : Int).toNat = k) := show 0 + (k : Int).toNat = k from by omega
    have l3 : Hid ((((k + n + 1 : Nat) : Int) - (k : Int)).toNat = n + 1) := show (((k + n + 1 : Nat) : Int) - (k : Int)).toNat = n + 1 from by omega
    have l4 : Hid (IntKind.u32.wrap (d : Int) = (d : Int)) := show IntKind.u32.wrap (d : Int) = (d : Int) from wu32 hdW
    have l5 : Hid (IntKind.i64.wrap ((k : Int) - 1) = (k : Int) - 1) := show IntKind.i64.wrap ((k : Int) - 1) = (k : Int) - 1 from wrap_i64 (by omega) (by omega)
    have kl := c_less (l + 1) k n R d V (digs V (n + 1)) (by omega) (by omega) hRB (by omega) (by omega) hvw hvs hdW 2001 2002 (by decide)
    rw [hSd] at kl
    obtain ⟨B, hB⟩ : ∃ B, 4294967296 ^ (k + n + 1) = B := ⟨_, rfl⟩
    have hDB : V * S ≤ B := by rw [← hB, ← hSd]; exact hVSB
    have hRB' : R < B := by rw [← hB]; exact hRB
    rw [hB] at kl
    have hq00 := hq0 k (Nat.lt_succ_self k)
    by_cases hneg : R < d * V * S
    · have t5 : Hid (decide (R < d * V * S) = true) := show decide (R < d * V * S) = true from decide_eq_true hneg
      rw [Nat.mul_assoc] at hneg hhi
      obtain ⟨m1, m2, m3, hd0⟩ := long_neg hneg hhi hRB' hDB
      rw [← Nat.mul_assoc] at m1
      have hR1 : (R + B - d * V * S) % B < 4294967296 ^ (k + n + 1) := by rw [hB]; exact Nat.mod_lt _ (Nat.lt_of_le_of_lt (Nat.zero_le _) hRB')
      obtain ⟨R1, hR1d⟩ : ∃ R1, (R + B - d * V * S) % B = R1 := ⟨_, rfl⟩
      rw [hR1d] at kl m1 hR1
      have hus1 : (digs R1 (l + 1)).length = l + 1 := digs_len _ _
      have husw := digs_w32 R1 (l + 1)
      have husv := valI_digs_lo (L := l + 1) hR1 (by omega)
      have husz : ∀ j, k + n + 1 ≤ j → (digs R1 (l + 1)).getD j 0 = 0 := fun j hj => digs_hi hR1 hj
      have l6 : Hid (IntKind.u64.wrap ((d : Int) - 1) = ((d - 1 : Nat) : Int)) := show IntKind.u64.wrap ((d : Int) - 1) = ((d - 1 : Nat) : Int) from by rw [show (d : Int) - 1 = ((d - 1 : Nat) : Int) from by omega, wu64 (by omega)]
      (repeat ((first | refine step_w1 rfl rfl ?_ | refine step_oA (by first | omega | decide | (simp only [tl0, dlen, List.length_replicate, List.length_set, List.length_map, List.length_zipWith, List.length_take, List.length_append, List.length_cons, List.length_nil]; omega)) ?_ | refine ⟨[_, _], _, [], [_, _], (by assumption), two_fk rfl rfl, nil_new, two_upd (List.mem_cons_self ..) rfl rfl rfl (List.mem_cons_of_mem _ (List.mem_cons_self ..)) rfl rfl rfl, ?_⟩ | rw [i2.out] | rw [l1.out] | rw [l2.out] | rw [l3.out] | rw [t5.out]); conv => whnf))
      rw [l6.out]
      generalize hus : digs R1 (l + 1) = us at *
      refine SW_loopN hE (fun k => k) [4, 6, 7, 8, 9, 10, 12, 14, 128, 129, 130] [0, 1, 39, 2001, 2002] (fun m fr hp => ∃ (i : Nat) (o : List Int) (c : Nat), m = n - i ∧ i ≤ n ∧ o.length = l + 1 ∧ W32 o ∧ c ≤ 1 ∧ (∀ j, k + i ≤ j → o.getD j 0 = us.getD j 0) ∧ valI o (k + i) + c * 4294967296 ^ (k + i) = valI us (k + i) + valI (digs V (n + 1)) i * 4294967296 ^ k ∧
        fr = [(4, .slc 39 1 0 (l + 1 - n)), (6, .val (.int .i64 s)), (7, .slc 2001 1 0 (l + 1)), (8, .slc 2002 1 0 n), (9, .val (.int .i64 n)), (10, .val (.int .i64 k)), (12, .val (.int .u64 (d - 1 : Nat))), (14, .val (.int .u32 c)), (128, .slc 2002 1 0 n), (129, .val (.int .i64 n)), (130, .val (.int .i64 i))] ∧ hp = [(0, ⟨95, false, .ints .u32 xs⟩), (1, ⟨95, false, .ints .u32 ys⟩), (39, ⟨95, true, .ints .u32 q⟩), (2001, ⟨95, true, .ints .u32 o⟩), (2002, ⟨95, true, .ints .u32 (digs V (n + 1))⟩)]) n ?_ ?_ ?_
      · kernel_rfl
      · exact ⟨0, us, 0, by omega, by omega, hus1, husw, by omega, (fun _ _ => rfl), by simp [valI], rfl, rfl⟩
      rintro m _ _ ⟨i, o, c, rfl, hi, hlen, hw, hc, hrest, hval, rfl, rfl⟩
      obtain ⟨x, hx⟩ := Int.eq_ofNat_of_zero_le (husw (k + i)).1
      have hx2 := (husw (k + i)).2
      have hox : Hid (o.getD (k + i) 0 = (x : Int)) := show o.getD (k + i) 0 = (x : Int) from by rw [hrest _ (Nat.le_refl _)]; exact hx
      by_cases hlt : i < n
      · have t1 : Hid (decide ((i : Int) < (n : Int)) = true) := show decide ((i : Int) < (n : Int)) = true from decide_eq_true (by omega)
        have f1 : Hid (0 + (i : Int).toNat = i) := show 0 + (i : Int).toNat = i from by omega
        have f2 : Hid (IntKind.i64.wrap ((k : Int) + (i : Int)) = ((k + i : Nat) : Int)) := show IntKind.i64.wrap ((k : Int) + (i : Int)) = ((k + i : Nat) : Int) from by rw [wrap_i64 (by omega) (by omega)]; omega
        have f3 : Hid (0 + ((k + i : Nat) : Int).toNat = k + i) := show 0 + ((k + i : Nat) : Int).toNat = k + i from by omega
        have f4 : Hid (IntKind.i64.wrap ((i : Int) + 1) = ((i + 1 : Nat) : Int)) := show IntKind.i64.wrap ((i : Int) + 1) = ((i + 1 : Nat) : Int) from by rw [wrap_i64 (by omega) (by omega)]; omega
        obtain ⟨w, hww⟩ := Int.eq_ofNat_of_zero_le (hvw i).1
        have hw2 := (hvw i).2
        have f5 : Hid ((digs V (n + 1)).getD i 0 = (w : Int)) := show (digs V (n + 1)).getD i 0 = (w : Int) from hww
        have k32 := c_Add32 x w c (by omega) (by omega) hc
        have hstep := back_step (by omega) hx hww hval
        have hc' : (x + w + c) / 4294967296 ≤ 1 := by omega
        conv => whnf
        (repeat ((first | refine step_w1 rfl rfl ?_ | refine step_oL (by first | omega | decide | (simp only [tl0, dlen, List.length_replicate, List.length_set, List.length_map, List.length_zipWith, List.length_take, List.length_append, List.length_cons, List.length_nil]; omega)) ?_ | refine step_oA (by first | omega | decide | (simp only [tl0, dlen, List.length_replicate, List.length_set, List.length_map, List.length_zipWith, List.length_take, List.length_append, List.length_cons, List.length_nil]; omega)) ?_ | refine g_c (by assumption) ?_ | rw [t1.out] | rw [f1.out] | rw [f5.out] | rw [f2.out] | rw [f3.out] | rw [hox.out]); conv => whnf))
        rw [f4.out]
        exact ⟨n - (i + 1), fun k => k, [4, 6, 7, 8, 9, 10, 12, 14, 128, 129, 130], [0, 1, 39, 2001, 2002], by omega, by kernel_rfl, i + 1, _, _, rfl, by omega, by simpa using hlen, hw.set (by omega) (by omega), hc', (fun j hj => by rw [getD_set, if_neg (by omega)]; exact hrest j (by omega)), hstep, rfl, rfl⟩
      · have hi' : i = n := by omega
        subst hi'
        have t1 : Hid (decide ((i : Int) < (i : Int)) = false) := show decide ((i : Int) < (i : Int)) = false from decide_eq_false (by omega)
        have f6 : Hid (IntKind.u32.wrap ((x : Int) + (c : Int)) = (((x + c) % 4294967296 : Nat) : Int)) := show IntKind.u32.wrap ((x : Int) + (c : Int)) = (((x + c) % 4294967296 : Nat) : Int) from by rw [← Int.natCast_add, wu32m]
        have f7 : Hid (IntKind.u32.wrap ((d - 1 : Nat) : Int) = ((d - 1 : Nat) : Int)) := show IntKind.u32.wrap ((d - 1 : Nat) : Int) = ((d - 1 : Nat) : Int) from wu32 (by omega)
        have hw' : W32 (o.set (k + i) (((x + c) % 4294967296 : Nat) : Int)) := hw.set (by omega) (by omega)
        have hfin := back_fin (by omega) hx hc (by omega) husv hvs hval hw'
        rw [hSd, hB, m1] at hfin
        have ho' := digs_low (L := l + 1) (by simpa using hlen) hw' (fun j hj => by rw [getD_set, if_neg (by omega), hrest j (by omega)]; exact husz j hj) (by omega) hfin
        obtain ⟨p1, p2⟩ := long_end (U := X * 2 ^ s) m2 m3 hXR
        conv => whnf
        (repeat ((first | refine step_w2 rfl rfl ?_ | refine step_oL (by first | omega | decide | (simp only [tl0, dlen, List.length_replicate, List.length_set, List.length_map, List.length_zipWith, List.length_take, List.length_append, List.length_cons, List.length_nil]; omega)) ?_ | refine step_oA (by first | omega | decide | (simp only [tl0, dlen, List.length_replicate, List.length_set, List.length_map, List.length_zipWith, List.length_take, List.length_append, List.length_cons, List.length_nil]; omega)) ?_ | rw [t1.out] | rw [i2.out] | rw [i3.out] | rw [hox.out] | rw [f6.out] | rw [f7.out] | rw [l2.out]); conv => whnf))
        rw [l5.out, ho']
        exact ⟨k, fun k => k, [4, 6, 7, 8, 9, 10], [0, 1, 39, 2001, 2002], by omega, by kernel_rfl, R - (d - 1) * (V * S), Qv + (d - 1) * S, q.set k ((d - 1 : Nat) : Int), by omega, by rw [hSd]; exact p1, p2, by simpa using hql, hqw.set (by omega) (by omega), (fun j hj => by rw [getD_set, if_neg (by omega)]; exact hq0 j (by omega)), by rw [valI_set (by omega) (by omega), hqv, hq00, ← natPowW, hSd, Int.sub_zero, ← Int.natCast_mul, ← Int.natCast_add], rfl, rfl⟩
    · have t5 : Hid (decide (R < d * V * S) = false) := show decide (R < d * V * S) = false from decide_eq_false hneg
      rw [Nat.mul_assoc] at hneg hlo
      have hneg' := Nat.le_of_not_lt hneg
      have hpos := long_pos (d := d) (D := V * S) hneg' hRB'
      rw [← Nat.mul_assoc] at hpos
      rw [hpos] at kl
      obtain ⟨p1, p2⟩ := long_end (U := X * 2 ^ s) hneg' hlo hXR
      rw [← Nat.mul_assoc] at p1 p2
      (repeat ((first | refine step_w2 rfl rfl ?_ | refine step_oL (by first | omega | decide | (simp only [tl0, dlen, List.length_replicate, List.length_set, List.length_map, List.length_zipWith, List.length_take, List.length_append, List.length_cons, List.length_nil]; omega)) ?_ | refine step_oA (by first | omega | decide | (simp only [tl0, dlen, List.length_replicate, List.length_set, List.length_map, List.length_zipWith, List.length_take, List.length_append, List.length_cons, List.length_nil]; omega)) ?_ | refine ⟨[_, _], _, [], [_, _], (by assumption), two_fk rfl rfl, nil_new, two_upd (List.mem_cons_self ..) rfl rfl rfl (List.mem_cons_of_mem _ (List.mem_cons_self ..)) rfl rfl rfl, ?_⟩ | rw [i2.out] | rw [l1.out] | rw [l2.out] | rw [l3.out] | rw [t5.out] | rw [l4.out]); conv => whnf))
      rw [l5.out]
      exact ⟨k, fun k => k, [4, 6, 7, 8, 9, 10], [0, 1, 39, 2001, 2002], by omega, by kernel_rfl, R - d * V * S, Qv + d * S, q.set k (d : Int), by omega, by rw [hSd]; exact p1, p2, by simpa using hql, hqw.set (by omega) (by omega), (fun j hj => by rw [getD_set, if_neg (by omega)]; exact hq0 j (by omega)), by rw [valI_set (by omega) (by omega), hqv, hq00, ← natPowW, hSd, Int.sub_zero, ← Int.natCast_mul, ← Int.natCast_add], rfl, rfl⟩
end Go.Proofs.YtkpfineikahgfaaGreatDoor

namespace Go.Proofs.YtkpfineikahgfaaGreatDoor
open Go.Sx
set_option linter.unusedSimpArgs false
set_option linter.unusedVariables false
set_option maxRecDepth 100000
set_option maxHeartbeats 8000000

theorem c_Div (a b : Nat) (ha : (wInts a).length < 274877906944) (hb : (wInts b).length < 274877906944) (h0 : b ≠ 0) :
    CallOK Tryz.prog 166 [.nat a, .nat b] [] (.tup [.nat (a / b), .nat (a % b), .val (.bool true)]) [] [] := by
  by_cases hs : a < 18446744073709551616 ∧ b < 18446744073709551616
  · exact s_Div a b hs.1 hs.2 h0
  have kz := c_nZero b
  rw [decide_eq_false h0] at kz
  have kc := c_Cmp a b (by omega) (by omega)
  have kb := c_words b 1002 (by omega)
  have ka := c_words a 1001 (by omega)
  by_cases hlt : a < b
  · have t1 : Hid (decide (((a : Int) - b).sign < 0) = true) := show decide (((a : Int) - b).sign < 0) = true from decide_eq_true (Int.sign_neg_iff.2 (by omega))
    rw [Nat.div_eq_of_lt hlt, Nat.mod_eq_of_lt hlt]
    refine callV (Z := []) tabOK mixedOK Tryz.func166 rfl (by kernel_rfl) rfl rfl (by kernel_rfl) rfl ?_
    intro W0 w0 ρ0 hE
    conv => whnf
    (repeat ((first | refine step_w1 rfl rfl ?_ | refine step_w2 rfl rfl ?_ | refine step_i (by kernel_rfl) ?_ | refine g_c (by assumption) ?_ | rw [t1.out]); conv => whnf)); exact Recast.refl _
  have t1 : Hid (decide (((a : Int) - b).sign < 0) = false) := show decide (((a : Int) - b).sign < 0) = false from decide_eq_false (by have := Int.sign_nonneg_iff.2 (show 0 ≤ (a : Int) - b by omega); omega)
  have hbig : ¬ a < 18446744073709551616 := by omega
  have hlen : (wInts b).length ≤ (wInts a).length := len_le_of (Nat.lt_of_le_of_lt (Nat.le_of_not_lt hlt) (lt_of_len a))
  have hA : wArr a = wInts a := if_neg hbig
  rw [hA] at ka
  have htop := wt_top b
  have hb0 : (wInts b).length ≠ 0 := (wInts_top h0).1
  have hval := wInts_val a
  have hvb := wArr_val b
  have hbl := wArr_len b
  have hbl2 : (wArr b).length < 549755813888 := by
    have := wArr_len2 b (M := 274877906944) (by omega) (by omega)
    omega
  by_cases hone : (wInts b).length = 1
  · rw [hone] at kb hvb htop
    obtain ⟨y, hy⟩ := Int.eq_ofNat_of_zero_le (wArr_w32 b 0).1
    have hy2 := (wArr_w32 b 0).2
    have hyb : y = b := by
      rw [valI, valI, Int.pow_zero, hy] at hvb
      omega
    subst hyb
    have ks := c_short (wInts a) (wInts a).length (Nat.le_refl _) (by omega) (wInts_w32 a) y h0 (by omega) 1001 2001 (by decide) true a hval
    have hq : (valI (digs (a / y) (wInts a).length) (wInts a).length).toNat = a / y := by
      rw [valI_digs, Nat.mod_eq_of_lt (Nat.lt_of_le_of_lt (Nat.div_le_self _ _) (lt_of_len a))]; exact Int.toNat_natCast _
    have ko := c_of (digs (a / y) (wInts a).length) (wInts a).length (by rw [digs_len]; exact Nat.le_refl _) (by rw [digs_len]; omega) (digs_w32 _ _) 2001 true
    rw [hq] at ko
    have hr : a % y < y := Nat.mod_lt _ (by omega)
    have i1 : Hid (IntKind.u64.wrap ((a % y : Nat) : Int) = ((a % y : Nat) : Int)) := show IntKind.u64.wrap ((a % y : Nat) : Int) = ((a % y : Nat) : Int) from wu64 (by omega)
    have i2 : Hid ((wArr y).getD (0 + Int.toNat 0) 0 = (y : Int)) := show (wArr y).getD (0 + Int.toNat 0) 0 = (y : Int) from hy
    refine callV (Z := []) tabOK mixedOK Tryz.func166 rfl (by kernel_rfl) rfl rfl (by kernel_rfl) rfl ?_
    intro W0 w0 ρ0 hE
    conv => whnf
    (repeat (first | (refine step_w2 rfl rfl ?_; conv => whnf) | (refine g_c (by assumption) ?_; conv => whnf) | (rw [t1.out]; conv => whnf)))
    rw [big_eq, decide_eq_false hbig]
    (repeat ((first | refine step_w1 rfl rfl ?_ | refine step_w2 rfl rfl ?_ | refine step_i (by kernel_rfl) ?_ | refine step_oL (by first | omega | decide | (simp only [tl0, dlen, List.length_replicate, List.length_set, List.length_map, List.length_zipWith, List.length_take, List.length_append, List.length_cons, List.length_nil]; omega)) ?_ | refine step_oA (by first | omega | decide | (simp only [tl0, dlen, List.length_replicate, List.length_set, List.length_map, List.length_zipWith, List.length_take, List.length_append, List.length_cons, List.length_nil]; omega)) ?_ | refine g_cn (by assumption) rfl ?_ | refine g_c1 (by assumption) rfl ?_ | refine g_c1n (by assumption) rfl rfl ?_ | rw [i2.out] | rw [i1.out]); conv => whnf))
    refine recast_tup3 (fun _ _ h => h) rfl (hasC_nat ?_ rfl (by omega)) rfl (fun _ _ h => h) rfl
    rfl
  · have hn2 : 2 ≤ (wInts b).length := by omega
    have htop' : (wArr b).getD ((wInts b).length - 1) 0 ≠ 0 := htop.resolve_left hb0
    have hbg : 4294967296 ^ ((wInts b).length - 1) ≤ b := by
      have := valI_ge (wArr_w32 b) htop'
      rw [show (wInts b).length - 1 + 1 = (wInts b).length from by omega, hvb, ← natPowW] at this
      omega
    have hqb : a / b < 4294967296 ^ ((wInts a).length + 1 - (wInts b).length) := by
      refine Nat.div_lt_of_lt_mul (Nat.lt_of_lt_of_le (lt_of_len a) ?_)
      have e : 4294967296 ^ (wInts a).length = 4294967296 ^ ((wInts b).length - 1) * 4294967296 ^ ((wInts a).length + 1 - (wInts b).length) := by rw [← Nat.pow_add]; congr 1; omega
      rw [e]
      exact Nat.mul_le_mul_right _ hbg
    have hrb : a % b < 4294967296 ^ ((wInts a).length + 1) := Nat.lt_of_le_of_lt (Nat.mod_le _ _) (Nat.lt_of_lt_of_le (lt_of_len a) (Nat.pow_le_pow_right (by decide) (by omega)))
    have kl := CallOK.anyWr (c_long (wInts a) (wArr b) (wInts a).length (wInts b).length a b (Nat.le_refl _) hbl (by omega) hbl2 (wInts_w32 a) (wArr_w32 b) hval hvb hn2 htop' hlen 1001 1002 2001 2002 (by decide) (by decide) (by decide)) (fk := [(1001, ⟨95, true, .ints .u32 (wInts a)⟩), (1002, ⟨95, true, .ints .u32 (wArr b)⟩)])
    have ko1 := c_of (digs (a / b) ((wInts a).length + 1 - (wInts b).length)) ((wInts a).length + 1 - (wInts b).length) (by rw [digs_len]; exact Nat.le_refl _) (by rw [digs_len]; omega) (digs_w32 _ _) 2001 true
    have ko2 := c_of (digs (a % b) ((wInts a).length + 1)) ((wInts a).length + 1) (by rw [digs_len]; exact Nat.le_refl _) (by rw [digs_len]; omega) (digs_w32 _ _) 2002 true
    rw [valI_digs, Nat.mod_eq_of_lt hqb, Int.toNat_natCast] at ko1
    rw [valI_digs, Nat.mod_eq_of_lt hrb, Int.toNat_natCast] at ko2
    have t2 : Hid ((((wInts b).length : Int) == 1) = false) := show (((wInts b).length : Int) == 1) = false from by simp; omega
    have t3 : Hid (decide (((wInts b).length : Int) = 1) = false) := show decide (((wInts b).length : Int) = 1) = false from by simp; omega
    refine callV (Z := []) tabOK mixedOK Tryz.func166 rfl (by kernel_rfl) rfl rfl (by kernel_rfl) rfl ?_
    intro W0 w0 ρ0 hE
    conv => whnf
    (repeat (first | (refine step_w2 rfl rfl ?_; conv => whnf) | (refine g_c (by assumption) ?_; conv => whnf) | (rw [t1.out]; conv => whnf)))
    rw [big_eq, decide_eq_false hbig]
    (repeat ((first | refine step_w2 rfl rfl ?_ | refine g_cn (by assumption) rfl ?_ | refine g_c1 (by assumption) rfl ?_ | refine ⟨[_, _], _, [_, _], [], (by assumption), two_fk rfl rfl, two_new rfl rfl, nil_upd, ?_⟩ | rw [t2.out]); conv => whnf))
    exact Recast.refl _

theorem c_Gcd (a b : Nat) (ha : (wInts a).length < 274877906944) (hb : (wInts b).length < 274877906944) :
    CallOK Tryz.prog 65 [.nat a, .nat b] [] (.nat (Nat.gcd a b)) [] [] := by
  refine callV (Z := []) tabOK mixedOK Tryz.func65 rfl (by kernel_rfl) rfl rfl (by kernel_rfl) rfl ?_
  intro W0 w0 ρ0 hE
  conv => whnf
  refine SW_loopN hE (fun k => k) [2, 3, 4] [2, 3, 4] (fun m fr hp => ∃ x, (wInts x).length < 274877906944 ∧ (wInts m).length < 274877906944 ∧ Nat.gcd x m = Nat.gcd a b ∧ fr = [(2, .ptr 2 0 0 0), (3, .ptr 3 0 0 0), (4, .ptr 4 0 0 0)] ∧ hp = [(2, ⟨32, true, .one [.nat x]⟩), (3, ⟨32, true, .one [.nat m]⟩), (4, ⟨32, true, .one [.nat 0]⟩)]) b ?_ ?_ ?_
  · kernel_rfl
  · exact ⟨a, ha, hb, rfl, rfl, rfl⟩
  rintro m _ _ ⟨x, hx, hm, hg, rfl, rfl⟩
  have kz := c_nZero m
  by_cases h0 : m = 0
  · rw [decide_eq_true h0] at kz
    subst h0
    rw [← hg, Nat.gcd_zero_right]
    conv => whnf
    (repeat (first | (refine step_w2 rfl rfl ?_; conv => whnf) | (refine g_c (by assumption) ?_; conv => whnf))); exact Recast.refl _
  · rw [decide_eq_false h0] at kz
    have kd := c_Div x m hx hm h0
    have hlt := Nat.mod_lt x (Nat.pos_of_ne_zero h0)
    conv => whnf
    (repeat (first | (refine step_w1 rfl rfl ?_; conv => whnf) | (refine step_i (by kernel_rfl) ?_; conv => whnf) | (refine g_c (by assumption) ?_; conv => whnf)))
    refine ⟨x % m, fun k => k, [2, 3, 4], [2, 3, 4], hlt, by kernel_rfl, m, hm, ?_, ?_, rfl, rfl⟩
    · exact Nat.lt_of_le_of_lt (len_le_of (Nat.lt_trans hlt (lt_of_len m))) hm
    · rw [← hg, Nat.gcd_comm m, ← Nat.gcd_rec, Nat.gcd_comm]
end Go.Proofs.YtkpfineikahgfaaGreatDoor

namespace Go.Proofs.YtkpfineikahgfaaGreatDoor
open Go.Sx
set_option linter.unusedSimpArgs false
set_option linter.unusedVariables false

theorem len_sz {n : Nat} (h : sz n ≤ 1073741824) : (wInts n).length < 274877906944 := by
  have := wlen_sz (n := n) (M := 33554432) (by omega)
  omega

theorem natBig : NatOK 1073741824 where
  big := by decide
  cmp a b ha hb := c_Cmp a b (by have := len_sz ha; omega) (by have := len_sz hb; omega)
  add a b h := n_Add a b (by have := len_sz (n := a) (Nat.le_trans (sz_mono (by omega)) h); omega) (by have := len_sz (n := b) (Nat.le_trans (sz_mono (by omega)) h); omega)
  sub a b ha h := n_Sub a b (by have := len_sz ha; omega) h
  subF a b hb h := c_SubF a b (by have := len_sz hb; have := len_le_of (Nat.lt_trans h (lt_of_len b)); omega) (by have := len_sz hb; omega) h
  mul a b h := n_Mul a b (len_sz (by omega)) (len_sz (by omega))
  div a b ha hb h0 := c_Div a b (len_sz ha) (len_sz hb) h0
  divZ a := c_DivZ a
  gcd a b ha hb := c_Gcd a b (len_sz ha) (len_sz hb)
end Go.Proofs.YtkpfineikahgfaaGreatDoor

namespace Go.Proofs.YtkpfineikahgfaaGreatDoor
open Go.Sx
set_option linter.unusedSimpArgs false
set_option linter.unusedVariables false
set_option maxRecDepth 100000
set_option maxHeartbeats 4000000

/-- A fraction's size. -/
def fs (q : Rat) : Nat := fsz q + 1

theorem fs_add (a b : Rat) : fs (a + b) ≤ fs a + fs b := by have := @fsz_add a b; unfold fs; omega
theorem fs_mul (a b : Rat) : fs (a * b) ≤ fs a + fs b := by have := @fsz_mul a b; unfold fs; omega
theorem fs_neg (a : Rat) : fs (-a) = fs a := by unfold fs; rw [fsz_neg]
theorem fs_zero : fs 0 = 2 := by decide +kernel
theorem fs_one : fs 1 = 2 := by decide +kernel
theorem fs_two (q : Rat) : 2 ≤ fs q := by have := fsz_den q; have := sz_one_le q.den q.den_nz; unfold fs; omega
theorem f_Add (a b : Rat) (h : fs a + fs b ≤ 1073741824) : CallOK Tryz.prog 143 [.frac a, .frac b] [] (.frac (a + b)) [] [] := c_fAdd natBig a b (by unfold fs at h; omega)
theorem f_Mul (a b : Rat) (h : fs a + fs b ≤ 1073741824) : CallOK Tryz.prog 62 [.frac a, .frac b] [] (.frac (a * b)) [] [] := c_fMul natBig a b (by unfold fs at h; omega)
end Go.Proofs.YtkpfineikahgfaaGreatDoor

namespace Go.Proofs.YtkpfineikahgfaaGreatDoor
open Go.Sx
set_option linter.unusedSimpArgs false
set_option linter.unusedVariables false
set_option maxRecDepth 100000
set_option maxHeartbeats 4000000

end Go.Proofs.YtkpfineikahgfaaGreatDoor

namespace Go.Proofs.YtkpfineikahgfaaGreatDoor
open Go.Sx
set_option linter.unusedSimpArgs false
set_option linter.unusedVariables false
set_option maxRecDepth 100000
set_option maxHeartbeats 4000000

theorem take_snoc (l : List Rat) (i : Nat) (hi : i < l.length) : l.take (i + 1) = l.take i ++ [l.getD i 0] := by rw [List.take_add_one, List.getD_eq_getElem?_getD, List.getElem?_eq_getElem hi]; rfl
end Go.Proofs.YtkpfineikahgfaaGreatDoor

namespace Go.Proofs.YtkpfineikahgfaaGreatDoor
open Go.Sx
set_option linter.unusedSimpArgs false
set_option linter.unusedVariables false
set_option maxRecDepth 100000
set_option maxHeartbeats 4000000

abbrev vscale (c : Rat) (a : List Rat) : List Rat := List.zipWith (fun x _ => c * x) a a
theorem q_guard : Tryz.prog.eqGuardType Tryz.prog.depth 38 = false := by kernel_rfl
theorem q_same (a b : Rat) : eqTy tab good 10 38 (fracCells a) (fracCells b) = some (decide (a = b)) := by
  have e : eqTy tab good 10 38 (fracCells a) (fracCells b) = some (((((low a.num.natAbs == low b.num.natAbs) && (((big a.num.natAbs).toList == (big b.num.natAbs).toList) && true)) && true) && ((decide (a.num < 0) == decide (b.num < 0)) && true)) &&
    (((low (a.den - 1) == low (b.den - 1)) && (((big (a.den - 1)).toList == (big (b.den - 1)).toList) && true)) && true)) := rfl
  rw [e]
  simp only [Bool.and_true]
  rw [nat_eq_iff, nat_eq_iff]
  congr 1
  rw [Bool.eq_iff_iff]
  simp only [Bool.and_eq_true, decide_eq_true_eq, beq_iff_eq, decide_eq_decide]
  have h1 := a.den_pos
  have h2 := b.den_pos
  constructor
  · rintro ⟨⟨h3, h4⟩, h5⟩
    exact Rat.ext (by omega) (by omega)
  · rintro rfl
    exact ⟨⟨rfl, Iff.rfl⟩, rfl⟩

end Go.Proofs.YtkpfineikahgfaaGreatDoor

namespace Go.Proofs.YtkpfineikahgfaaGreatDoor
open Go.Sx
set_option linter.unusedSimpArgs false
set_option linter.unusedVariables false
set_option maxRecDepth 100000
set_option maxHeartbeats 4000000

def ofInts (l : List Int) : List Rat := l.map fun (n : Int) => ((n : Int) : Rat)
theorem map_get {α β : Type} {f : α → β} {l : List α} {i : Nat} {d : α} {e : β} (h : i < l.length) : (l.map f).getD i e = f (l.getD i d) := by
  simp [List.getD_eq_getElem?_getD, List.getElem?_eq_getElem h]

end Go.Proofs.YtkpfineikahgfaaGreatDoor

namespace Go.Proofs
open Go.Shelf
def Tryz.lays156_ren : Go.Shelf.Ren := ⟨fun | 156 => 184 | 165 => 230 | 166 => 231 | 169 => 232 | 240 => 261 | 241 => 262 | 276 => 277 | 277 => 278 | n => n, fun | 31 => 223 | 9 => 9 | 3 => 3 | 4 => 4 | 0 => 0 | 20 => 20 | 72 => 274 | 76 => 278 | 70 => 271 | 37 => 272 | 75 => 277 | 127 => 304 | 164 => 315 | 5 => 5 | 80 => 280 | n => n, fun | n => n⟩
theorem Tryz.lays156 : Go.Proofs.Lays.n156 Tryz.prog Tryz.lays156_ren := {
  mixed := by kernel_rfl
  f156 := Tryz.func184.trans (congrArg some (by kernel_rfl))
  f165 := Tryz.func230.trans (congrArg some (by kernel_rfl))
  f166 := Tryz.func231.trans (congrArg some (by kernel_rfl))
  f169 := Tryz.func232.trans (congrArg some (by kernel_rfl))
  f240 := Tryz.func261.trans (congrArg some (by kernel_rfl))
  f241 := Tryz.func262.trans (congrArg some (by kernel_rfl))
  f276 := Tryz.func277.trans (congrArg some (by kernel_rfl))
  f277 := Tryz.func278.trans (congrArg some (by kernel_rfl))
  t0 := Tryz.underlying0
  a0 := Tryz.isAgg0
  z0 := Tryz.sizeOf0
  v0 := Tryz.zeroValue0
  t3 := Tryz.underlying3
  a3 := Tryz.isAgg3
  z3 := Tryz.sizeOf3
  v3 := Tryz.zeroValue3
  t4 := Tryz.underlying4
  a4 := Tryz.isAgg4
  z4 := Tryz.sizeOf4
  v4 := Tryz.zeroValue4
  t9 := Tryz.underlying9
  a9 := Tryz.isAgg9
  z9 := Tryz.sizeOf9
  v9 := Tryz.zeroValue9
  t20 := Tryz.underlying20
  a20 := Tryz.isAgg20
  z20 := Tryz.sizeOf20
  v20 := Tryz.zeroValue20
  t31 := Tryz.underlying223
  a31 := Tryz.isAgg223
  z31 := Tryz.sizeOf223
  v31 := Tryz.zeroValue223
  t37 := Tryz.underlying272
  a37 := Tryz.isAgg272
  z37 := Tryz.sizeOf272
  v37 := Tryz.zeroValue272
  t70 := Tryz.underlying271
  a70 := Tryz.isAgg271
  z70 := Tryz.sizeOf271
  v70 := Tryz.zeroValue271
  t72 := Tryz.underlying274
  a72 := Tryz.isAgg274
  z72 := Tryz.sizeOf274
  v72 := Tryz.zeroValue274
  t75 := Tryz.underlying277
  a75 := Tryz.isAgg277
  z75 := Tryz.sizeOf277
  v75 := Tryz.zeroValue277
  t76 := Tryz.underlying278
  a76 := Tryz.isAgg278
  z76 := Tryz.sizeOf278
  v76 := Tryz.zeroValue278
  t127 := Tryz.underlying304
  a127 := Tryz.isAgg304
  z127 := Tryz.sizeOf304
  v127 := Tryz.zeroValue304
  t164 := Tryz.underlying315
  a164 := Tryz.isAgg315
  z164 := Tryz.sizeOf315
  v164 := Tryz.zeroValue315 }
theorem Tryz.Builder_Extra_156 : Builder.Extra Tryz.prog Tryz.lays156_ren := {
  sizeBuilder := by kernel_rfl
  liesBuilder := by kernel_rfl
  t5 := Tryz.underlying5
  a5 := Tryz.isAgg5
  z5 := Tryz.sizeOf5
  v5 := Tryz.zeroValue5
  infoByte := by kernel_rfl
  cellsByte := by kernel_rfl
  sizeByte := by kernel_rfl
  neB5 := by decide }
open Go.RowKit in
/-- No element: the empty string; the world is as it was. (Whatever the slice's address and capacity: a nil slice too.) (LAID: no walk: one application.) -/
theorem Tryz.strings_Join_none (a : Option Addr) (c : Nat) (sep : ByteArray) (w : World) :
    Calls Tryz.prog 184 #[.slice a 0 c, .string sep] w fun e w' => e = .returned (.string ⟨#[]⟩) ∧ w' = w := Any.strings_Join_none Tryz.lays156 Tryz.Builder_Extra_156 a c sep w
open Go.RowKit in
/-- strings.Join: "Join concatenates the elements of its first argument to create a single string. The separator string sep is placed between elements in the resulting string.": HOWEVER MANY ELEMENTS. Below the heap's end the world is as it was. (LAID: no walk: one application.) -/
theorem Tryz.strings_Join (bk o c : Nat) (xs : List ByteArray) (sep : ByteArray) (w : World) (hcells : ∀ (j : Nat) x, xs[j]? = some x → w.cell? ⟨bk, o + j, none⟩ = some (.string x)) (hbk : bk < w.heap.size) (hN : xs.length ≤ 140737488355328) (hcap : xs.length ≤ c) (hlen : (Lib.join (xs.map (·.data.toList)) sep.data.toList).length ≤ 140737488355328) :
    Calls Tryz.prog 184 #[.slice (some ⟨bk, o, none⟩) xs.length c, .string sep] w fun e w' => e = .returned (.string ⟨(Lib.join (xs.map (·.data.toList)) sep.data.toList).toArray⟩) ∧ Below w.heap.size w w' := Any.strings_Join Tryz.lays156 Tryz.Builder_Extra_156 bk o c xs sep w hcells hbk hN hcap hlen
def Tryz.lays283_ren : Go.Shelf.Ren := ⟨fun | 283 => 279 | n => n, fun | 3 => 3 | 9 => 9 | 4 => 4 | n => n, fun | n => n⟩
theorem Tryz.lays283 : Go.Proofs.Lays.n283 Tryz.prog Tryz.lays283_ren := {
  mixed := by kernel_rfl
  f283 := Tryz.func279.trans (congrArg some (by kernel_rfl))
  t3 := Tryz.underlying3
  a3 := Tryz.isAgg3
  z3 := Tryz.sizeOf3
  v3 := Tryz.zeroValue3
  t4 := Tryz.underlying4
  a4 := Tryz.isAgg4
  z4 := Tryz.sizeOf4
  v4 := Tryz.zeroValue4
  t9 := Tryz.underlying9
  a9 := Tryz.isAgg9
  z9 := Tryz.sizeOf9
  v9 := Tryz.zeroValue9 }
open Go.Lib in
/-- internal/strconv.small: "small returns the string for an i with 0 <= i < nSmalls.": i's decimal numeral. The world is as it was. (LAID: no walk: one application.) -/
theorem Tryz.internal_strconv_small (i : Nat) (h : i < 100) (w : World) :
    Calls Tryz.prog 279 #[.int .i64 i] w fun e w' => e = .returned (.string ⟨(Lib.decDigits i).toArray⟩) ∧ w' = w := Any.internal_strconv_small Tryz.lays283 i h w
def Tryz.laysM284_ren : Go.Shelf.Ren := ⟨fun | 284 => 280 | 129 => 291 | 317 => 290 | 318 => 292 | n => n, fun | 53 => 30 | 3 => 3 | 212 => 329 | 0 => 0 | 4 => 4 | 46 => 249 | 5 => 5 | 9 => 9 | n => n, fun | 17 => 2 | n => n⟩
theorem Tryz.laysM284 : Go.Proofs.LaysM.n284 Tryz.prog Tryz.laysM284_ren := {
  mixed := by kernel_rfl
  f129 := Tryz.func291.trans (congrArg some (by kernel_rfl))
  f284 := Tryz.func280.trans (congrArg some (by kernel_rfl))
  f317 := Tryz.func290.trans (congrArg some (by kernel_rfl))
  f318 := Tryz.func292.trans (congrArg some (by kernel_rfl))
  t0 := Tryz.underlying0
  a0 := Tryz.isAgg0
  z0 := Tryz.sizeOf0
  v0 := Tryz.zeroValue0
  t3 := Tryz.underlying3
  a3 := Tryz.isAgg3
  z3 := Tryz.sizeOf3
  v3 := Tryz.zeroValue3
  t4 := Tryz.underlying4
  a4 := Tryz.isAgg4
  z4 := Tryz.sizeOf4
  v4 := Tryz.zeroValue4
  t5 := Tryz.underlying5
  a5 := Tryz.isAgg5
  z5 := Tryz.sizeOf5
  v5 := Tryz.zeroValue5
  t9 := Tryz.underlying9
  a9 := Tryz.isAgg9
  z9 := Tryz.sizeOf9
  v9 := Tryz.zeroValue9
  t46 := Tryz.underlying249
  a46 := Tryz.isAgg249
  z46 := Tryz.sizeOf249
  v46 := Tryz.zeroValue249
  t53 := Tryz.underlying30
  a53 := Tryz.isAgg30
  z53 := Tryz.sizeOf30
  v53 := Tryz.zeroValue30
  t212 := Tryz.underlying329
  a212 := Tryz.isAgg329
  z212 := Tryz.sizeOf329
  v212 := Tryz.zeroValue329
  g17 := by kernel_rfl
  i0 := by kernel_rfl
  i3 := by kernel_rfl
  i4 := by kernel_rfl
  i5 := by kernel_rfl
  i9 := by kernel_rfl
  i46 := by kernel_rfl
  i53 := by kernel_rfl
  i212 := by kernel_rfl
  m17 := by kernel_rfl }
open Go.Lib in
/-- internal/strconv.numDigits, at a d that is not 0: THE NUMBER OF d's DECIMAL DIGITS. The world is as it was. (LAID: no walk: one application.) -/
theorem Tryz.internal_strconv_numDigits (u : Nat) (h1 : 1 ≤ u) (h2 : u < 18446744073709551616) (w : World) (htab : Lib.TabIs Tryz.prog w "internal/strconv.uint64pow10" .u64 Lib.pow10Tab) :
    Calls Tryz.prog 280 #[.int .u64 u] w fun e w' => e = .returned (.int .i64 (Lib.nDigits u)) ∧ w' = w := Any.internal_strconv_numDigits Tryz.laysM284 u h1 h2 w htab
def Tryz.lays285_ren : Go.Shelf.Ren := ⟨fun | 285 => 281 | n => n, fun | 37 => 272 | 53 => 30 | 3 => 3 | 4 => 4 | 51 => 95 | 9 => 9 | 5 => 5 | 0 => 0 | n => n, fun | n => n⟩
theorem Tryz.lays285 : Go.Proofs.Lays.n285 Tryz.prog Tryz.lays285_ren := {
  mixed := by kernel_rfl
  f285 := Tryz.func281.trans (congrArg some (by kernel_rfl))
  t0 := Tryz.underlying0
  a0 := Tryz.isAgg0
  z0 := Tryz.sizeOf0
  v0 := Tryz.zeroValue0
  t3 := Tryz.underlying3
  a3 := Tryz.isAgg3
  z3 := Tryz.sizeOf3
  v3 := Tryz.zeroValue3
  t4 := Tryz.underlying4
  a4 := Tryz.isAgg4
  z4 := Tryz.sizeOf4
  v4 := Tryz.zeroValue4
  t5 := Tryz.underlying5
  a5 := Tryz.isAgg5
  z5 := Tryz.sizeOf5
  v5 := Tryz.zeroValue5
  t9 := Tryz.underlying9
  a9 := Tryz.isAgg9
  z9 := Tryz.sizeOf9
  v9 := Tryz.zeroValue9
  t37 := Tryz.underlying272
  a37 := Tryz.isAgg272
  z37 := Tryz.sizeOf272
  v37 := Tryz.zeroValue272
  t51 := Tryz.underlying95
  a51 := Tryz.isAgg95
  z51 := Tryz.sizeOf95
  v51 := Tryz.zeroValue95
  t53 := Tryz.underlying30
  a53 := Tryz.isAgg30
  z53 := Tryz.sizeOf30
  v53 := Tryz.zeroValue30 }
open Go.RowKit Go.Sort Go.Lib in
/-- internal/strconv.formatBase10: "formatBase10 formats the decimal representation of u into a. The caller is responsible for ensuring that a is big enough to hold u. If a is too big, leading zeros will be filled in as needed.": THE ROW HOLDS u's DIGITS ('FmtInv .. 0 ..': every place t holds 'dg u (len - 1 - t)'); all else is as it was but for the count of draws. (LAID: no walk: one application.) -/
theorem Tryz.internal_strconv_formatBase10 (blk off cap : Nat) (u : Nat) (d : Array UInt8) (w : World) (hH : Holds (fun (b : UInt8) => Value.int .u8 (b.toNat : Int)) w blk off d) (hu : u < 10 ^ d.size) (hu64 : u < 18446744073709551616) (hsz : d.size < 4611686018427387904) :
    Calls Tryz.prog 281 #[.slice (some ⟨blk, off, none⟩) d.size cap, .int .u64 u] w fun e w' =>
      e = .returned (.tuple #[]) ∧ ∃ (n v' : Nat) (dk : Array UInt8), w' = (putRow (fun (b : UInt8) => Value.int .u8 (b.toNat : Int)) w blk off dk).drewN n ∧ FmtInv d.size u 0 v' dk := Any.internal_strconv_formatBase10 Tryz.lays285 blk off cap u d w hH hu hu64 hsz
def Tryz.laysM171_ren : Go.Shelf.Ren := ⟨fun | 171 => 237 | 243 => 264 | 246 => 283 | 283 => 279 | 284 => 280 | 285 => 281 | 286 => 282 | 129 => 291 | 317 => 290 | 318 => 292 | 319 => 293 | 320 => 294 | 337 => 296 | 338 => 297 | n => n, fun | 3 => 3 | 9 => 9 | 2 => 2 | 4 => 4 | 171 => 318 | 0 => 0 | 53 => 30 | 37 => 272 | 5 => 5 | 173 => 321 | 212 => 329 | 51 => 95 | 20 => 20 | 213 => 330 | 46 => 249 | 232 => 332 | 233 => 333 | n => n, fun | 17 => 2 | 18 => 3 | 19 => 4 | n => n⟩
theorem Tryz.laysM171 : Go.Proofs.LaysM.n171 Tryz.prog Tryz.laysM171_ren := {
  mixed := by kernel_rfl
  f129 := Tryz.func291.trans (congrArg some (by kernel_rfl))
  f171 := Tryz.func237.trans (congrArg some (by kernel_rfl))
  f243 := Tryz.func264.trans (congrArg some (by kernel_rfl))
  f246 := Tryz.func283.trans (congrArg some (by kernel_rfl))
  f283 := Tryz.func279.trans (congrArg some (by kernel_rfl))
  f284 := Tryz.func280.trans (congrArg some (by kernel_rfl))
  f285 := Tryz.func281.trans (congrArg some (by kernel_rfl))
  f286 := Tryz.func282.trans (congrArg some (by kernel_rfl))
  f317 := Tryz.func290.trans (congrArg some (by kernel_rfl))
  f318 := Tryz.func292.trans (congrArg some (by kernel_rfl))
  f319 := Tryz.func293.trans (congrArg some (by kernel_rfl))
  f320 := Tryz.func294.trans (congrArg some (by kernel_rfl))
  f337 := Tryz.func296.trans (congrArg some (by kernel_rfl))
  f338 := Tryz.func297.trans (congrArg some (by kernel_rfl))
  t0 := Tryz.underlying0
  a0 := Tryz.isAgg0
  z0 := Tryz.sizeOf0
  v0 := Tryz.zeroValue0
  t2 := Tryz.underlying2
  a2 := Tryz.isAgg2
  z2 := Tryz.sizeOf2
  v2 := Tryz.zeroValue2
  t3 := Tryz.underlying3
  a3 := Tryz.isAgg3
  z3 := Tryz.sizeOf3
  v3 := Tryz.zeroValue3
  t4 := Tryz.underlying4
  a4 := Tryz.isAgg4
  z4 := Tryz.sizeOf4
  v4 := Tryz.zeroValue4
  t5 := Tryz.underlying5
  a5 := Tryz.isAgg5
  z5 := Tryz.sizeOf5
  v5 := Tryz.zeroValue5
  t9 := Tryz.underlying9
  a9 := Tryz.isAgg9
  z9 := Tryz.sizeOf9
  v9 := Tryz.zeroValue9
  t20 := Tryz.underlying20
  a20 := Tryz.isAgg20
  z20 := Tryz.sizeOf20
  v20 := Tryz.zeroValue20
  t37 := Tryz.underlying272
  a37 := Tryz.isAgg272
  z37 := Tryz.sizeOf272
  v37 := Tryz.zeroValue272
  t46 := Tryz.underlying249
  a46 := Tryz.isAgg249
  z46 := Tryz.sizeOf249
  v46 := Tryz.zeroValue249
  t51 := Tryz.underlying95
  a51 := Tryz.isAgg95
  z51 := Tryz.sizeOf95
  v51 := Tryz.zeroValue95
  t53 := Tryz.underlying30
  a53 := Tryz.isAgg30
  z53 := Tryz.sizeOf30
  v53 := Tryz.zeroValue30
  t171 := Tryz.underlying318
  a171 := Tryz.isAgg318
  z171 := Tryz.sizeOf318
  v171 := Tryz.zeroValue318
  t173 := Tryz.underlying321
  a173 := Tryz.isAgg321
  z173 := Tryz.sizeOf321
  v173 := Tryz.zeroValue321
  t212 := Tryz.underlying329
  a212 := Tryz.isAgg329
  z212 := Tryz.sizeOf329
  v212 := Tryz.zeroValue329
  t213 := Tryz.underlying330
  a213 := Tryz.isAgg330
  z213 := Tryz.sizeOf330
  t232 := Tryz.underlying332
  a232 := Tryz.isAgg332
  z232 := Tryz.sizeOf332
  v232 := Tryz.zeroValue332
  t233 := Tryz.underlying333
  a233 := Tryz.isAgg333
  z233 := Tryz.sizeOf333
  v233 := Tryz.zeroValue333
  g17 := by kernel_rfl
  g18 := by kernel_rfl
  g19 := by kernel_rfl
  i0 := by kernel_rfl
  i2 := by kernel_rfl
  i3 := by kernel_rfl
  i4 := by kernel_rfl
  i5 := by kernel_rfl
  i9 := by kernel_rfl
  i20 := by kernel_rfl
  i37 := by kernel_rfl
  i46 := by kernel_rfl
  i51 := by kernel_rfl
  i53 := by kernel_rfl
  i171 := by kernel_rfl
  i173 := by kernel_rfl
  i212 := by kernel_rfl
  i232 := by kernel_rfl
  i233 := by kernel_rfl
  m17 := by kernel_rfl
  m18 := by kernel_rfl
  m19 := by kernel_rfl }
open Go.RowKit Go.Sort Go.Lib in
/-- strconv.Itoa: "Itoa is equivalent to FormatInt(int64(i), 10).": i's DECIMAL NUMERAL ('Lib.itoa': a '-' where i is negative, then the digits), FOR EVERY int. The world behind the call: the world before it, new blocks behind the heap (the library's 'var a [24]byte'), draws. (LAID: no walk: one application.) -/
theorem Tryz.strconv_Itoa (n : Int) (h0 : -9223372036854775808 ≤ n) (h1 : n ≤ 9223372036854775807) (w : World) (htab : Lib.TabIs Tryz.prog w "internal/strconv.uint64pow10" .u64 Lib.pow10Tab) :
    Calls Tryz.prog 237 #[.int .i64 n] w fun e w' => e = .returned (.string ⟨(Lib.itoa n).toArray⟩) ∧ ∃ k os, w' = grow (w.drewN k) os := Any.strconv_Itoa Tryz.laysM171 n h0 h1 w htab
def Tryz.lays105_ren : Go.Shelf.Ren := ⟨fun | 105 => 238 | 212 => 265 | 99 => 266 | 165 => 230 | 166 => 231 | 170 => 267 | 169 => 232 | 263 => 284 | 264 => 222 | 206 => 285 | 240 => 261 | 241 => 262 | 276 => 277 | 277 => 278 | n => n, fun | 9 => 9 | 3 => 3 | 4 => 4 | 20 => 20 | 0 => 0 | 46 => 249 | 109 => 305 | 5 => 5 | 72 => 274 | 76 => 278 | 51 => 95 | 146 => 294 | 53 => 30 | 148 => 260 | 70 => 271 | 37 => 272 | 75 => 277 | 127 => 304 | 164 => 315 | 80 => 280 | n => n, fun | n => n⟩
theorem Tryz.lays105 : Go.Proofs.Lays.n105 Tryz.prog Tryz.lays105_ren := {
  mixed := by kernel_rfl
  f99 := Tryz.func266.trans (congrArg some (by kernel_rfl))
  f105 := Tryz.func238.trans (congrArg some (by kernel_rfl))
  f165 := Tryz.func230.trans (congrArg some (by kernel_rfl))
  f166 := Tryz.func231.trans (congrArg some (by kernel_rfl))
  f169 := Tryz.func232.trans (congrArg some (by kernel_rfl))
  f170 := Tryz.func267.trans (congrArg some (by kernel_rfl))
  f206 := Tryz.func285.trans (congrArg some (by kernel_rfl))
  f212 := Tryz.func265.trans (congrArg some (by kernel_rfl))
  f240 := Tryz.func261.trans (congrArg some (by kernel_rfl))
  f241 := Tryz.func262.trans (congrArg some (by kernel_rfl))
  f263 := Tryz.func284.trans (congrArg some (by kernel_rfl))
  f264 := Tryz.func222.trans (congrArg some (by kernel_rfl))
  f276 := Tryz.func277.trans (congrArg some (by kernel_rfl))
  f277 := Tryz.func278.trans (congrArg some (by kernel_rfl))
  t0 := Tryz.underlying0
  a0 := Tryz.isAgg0
  z0 := Tryz.sizeOf0
  v0 := Tryz.zeroValue0
  t3 := Tryz.underlying3
  a3 := Tryz.isAgg3
  z3 := Tryz.sizeOf3
  v3 := Tryz.zeroValue3
  t4 := Tryz.underlying4
  a4 := Tryz.isAgg4
  z4 := Tryz.sizeOf4
  v4 := Tryz.zeroValue4
  t5 := Tryz.underlying5
  a5 := Tryz.isAgg5
  z5 := Tryz.sizeOf5
  v5 := Tryz.zeroValue5
  t9 := Tryz.underlying9
  a9 := Tryz.isAgg9
  z9 := Tryz.sizeOf9
  v9 := Tryz.zeroValue9
  t20 := Tryz.underlying20
  a20 := Tryz.isAgg20
  z20 := Tryz.sizeOf20
  v20 := Tryz.zeroValue20
  t37 := Tryz.underlying272
  a37 := Tryz.isAgg272
  z37 := Tryz.sizeOf272
  v37 := Tryz.zeroValue272
  t46 := Tryz.underlying249
  a46 := Tryz.isAgg249
  z46 := Tryz.sizeOf249
  v46 := Tryz.zeroValue249
  t51 := Tryz.underlying95
  a51 := Tryz.isAgg95
  z51 := Tryz.sizeOf95
  v51 := Tryz.zeroValue95
  t53 := Tryz.underlying30
  a53 := Tryz.isAgg30
  z53 := Tryz.sizeOf30
  v53 := Tryz.zeroValue30
  t70 := Tryz.underlying271
  a70 := Tryz.isAgg271
  z70 := Tryz.sizeOf271
  v70 := Tryz.zeroValue271
  t72 := Tryz.underlying274
  a72 := Tryz.isAgg274
  z72 := Tryz.sizeOf274
  v72 := Tryz.zeroValue274
  t75 := Tryz.underlying277
  a75 := Tryz.isAgg277
  z75 := Tryz.sizeOf277
  v75 := Tryz.zeroValue277
  t76 := Tryz.underlying278
  a76 := Tryz.isAgg278
  z76 := Tryz.sizeOf278
  v76 := Tryz.zeroValue278
  t109 := Tryz.underlying305
  a109 := Tryz.isAgg305
  z109 := Tryz.sizeOf305
  v109 := Tryz.zeroValue305
  t127 := Tryz.underlying304
  a127 := Tryz.isAgg304
  z127 := Tryz.sizeOf304
  v127 := Tryz.zeroValue304
  t146 := Tryz.underlying294
  a146 := Tryz.isAgg294
  z146 := Tryz.sizeOf294
  v146 := Tryz.zeroValue294
  t148 := Tryz.underlying260
  a148 := Tryz.isAgg260
  z148 := Tryz.sizeOf260
  v148 := Tryz.zeroValue260
  t164 := Tryz.underlying315
  a164 := Tryz.isAgg315
  z164 := Tryz.sizeOf315
  v164 := Tryz.zeroValue315 }
theorem Tryz.Builder_Extra_105 : Builder.Extra Tryz.prog Tryz.lays105_ren := {
  sizeBuilder := by kernel_rfl
  liesBuilder := by kernel_rfl
  t5 := Tryz.underlying5
  a5 := Tryz.isAgg5
  z5 := Tryz.sizeOf5
  v5 := Tryz.zeroValue5
  infoByte := by kernel_rfl
  cellsByte := by kernel_rfl
  sizeByte := by kernel_rfl
  neB5 := by decide }
open Go.RowKit Go.Lib in
/-- **strings.Repeat: count ≥ 0, the result within one allocation: count copies of s.** (LAID: no walk: one application.) -/
theorem Tryz.strings_Repeat (s : ByteArray) (c : Nat) (w : World) (hc : c ≤ 9223372036854775807) (hlen : s.size * c ≤ 140737488355328) :
    Calls Tryz.prog 238 #[.string s, .int .i64 c] w fun e w' => e = .returned (.string ⟨(Lib.repeatL s.data.toList c).toArray⟩) ∧ Below w.heap.size w w' := Any.strings_Repeat Tryz.lays105 Tryz.Builder_Extra_105 s c w hc hlen
end Go.Proofs

namespace Go.Proofs.YtkpfineikahgfaaGreatDoor
open Go.Sx
set_option linter.unusedSimpArgs false
set_option linter.unusedVariables false
set_option maxRecDepth 100000
set_option maxHeartbeats 4000000

/-- The decimal text of a number. -/
def decF : Nat → Nat → List UInt8
  | 0, _ => []
  | f + 1, n => if n < 10 then [UInt8.ofNat (48 + n)] else decF f (n / 10) ++ [UInt8.ofNat (48 + n % 10)]
theorem decF_eq : ∀ f n, n < f → decF f n = Lib.decDigits n
  | 0, n, h => by omega
  | f + 1, n, h => by
    rw [decF, Lib.decDigits]
    by_cases h1 : n < 10
    · rw [if_pos h1, dif_pos h1]
    · rw [if_neg h1, dif_neg h1, decF_eq f (n / 10) (by omega)]
def tN (n : Nat) : ByteArray := ⟨(decF (n + 1) n).toArray⟩
theorem tN_eq (n : Nat) : tN n = ⟨(Lib.decDigits n).toArray⟩ := by rw [tN, decF_eq _ _ (Nat.lt_succ_self n)]
def tZ (z : Int) : ByteArray := if z < 0 then "-".toUTF8 ++ tN z.natAbs else tN z.natAbs
def tQ (q : Rat) : ByteArray := if q.den = 1 then tZ q.num else tZ q.num ++ "/".toUTF8 ++ tN q.den

theorem t_small (i : Nat) (h : i < 100) : CallOK Tryz.prog 279 [.val (.int .i64 (i : Nat))] [] (.val (.string (tN i))) [] [] :=
  call_vals' (vs := [.int .i64 (i : Nat)]) ⟨Tryz.f279, Tryz.func279, rfl, by kernel_rfl⟩ rfl (fun w => by rw [tN_eq]; exact Tryz.internal_strconv_small i h w)

theorem t_iFormat (n : Nat) (h : n < 100) : CallOK Tryz.prog 263 [.val (.int .u64 (n : Nat)), .val (.int .i64 10)] [] (.val (.string (tN n))) [] [] := by
  have k1 := t_small n h
  have t1 : decide ((n : Int) < 100) = true := decide_eq_true (by omega)
  have t2 : IntKind.i64.wrap (n : Int) = n := wrap_i64 (by omega) (by omega)
  refine callV (Z := []) tabOK mixedOK Tryz.func263 rfl (by kernel_rfl) rfl rfl (by kernel_rfl) rfl ?_
  intro W0 w0 ρ0 hE
  conv => whnf
  (repeat ((first | refine step_w1 rfl rfl ?_ | refine g_c (by assumption) ?_ | rw [beq_self_eq_true] | rw [t1] | rw [t2]); conv => whnf)); (first | exact Recast.refl _ | exact Frz.recast (Recast.refl _) rfl | (refine Frz.one rfl rfl ?_; skip) | (refine Frz.tup ?_; skip))
theorem t_Format (n : Nat) (h : n < 100) : CallOK Tryz.prog 236 [.val (.int .u64 (n : Nat)), .val (.int .i64 10)] [] (.val (.string (tN n))) [] [] := by
  have k1 := t_iFormat n h
  refine callV (Z := []) tabOK mixedOK Tryz.func236 rfl (by kernel_rfl) rfl rfl (by kernel_rfl) rfl ?_
  intro W0 w0 ρ0 hE
  conv => whnf
  (repeat (first | (refine g_c (by assumption) ?_; conv => whnf))); (first | exact Recast.refl _ | exact Frz.recast (Recast.refl _) rfl | (refine Frz.one rfl rfl ?_; skip) | (refine Frz.tup ?_; skip))
/-- The text of a vector. -/
def tV (a : List Rat) : ByteArray := "[".toUTF8 ++ ⟨(Lib.join ((a.map tQ).map (·.data.toList)) [32]).toArray⟩ ++ "]".toUTF8

theorem t_Join (ss : List ByteArray) (hN : ss.length ≤ 1099511627776) (hlen : (Lib.join (ss.map (·.data.toList)) [32]).length ≤ 140737488355328) :
    CallOK Tryz.prog 184 [mvec 1 sel ss, .val (.string ⟨#[32]⟩)] [] (.val (.string ⟨(Lib.join (ss.map (·.data.toList)) [32]).toArray⟩)) [] [] := by
  refine call_strs ⟨Tryz.f184, Tryz.func184, rfl, by kernel_rfl⟩ rfl ?_ ?_
  · rintro rfl a w
    exact Tryz.strings_Join_none a 0 ⟨#[32]⟩ w
  · intro bk o c w hc hb hcap
    exact Tryz.strings_Join bk o c ss ⟨#[32]⟩ w hc hb (by omega) hcap hlen

end Go.Proofs.YtkpfineikahgfaaGreatDoor

namespace Go.Proofs.YtkpfineikahgfaaGreatDoor
open Go.Sx
set_option linter.unusedSimpArgs false
set_option linter.unusedVariables false
set_option maxRecDepth 100000
set_option maxHeartbeats 4000000

theorem app_snoc {α : Type} {l : List α} {i : Nat} {d : α} (h : i < l.length) : (l.take i).take i ++ (([l.getD i d] : List α).drop 0).take 1 = l.take (i + 1) := by
  have e : l.take (i + 1) = l.take i ++ [l.getD i d] := by rw [List.take_add_one, List.getD_eq_getElem?_getD, List.getElem?_eq_getElem h]; rfl
  rw [List.take_take, Nat.min_self, e]; rfl

end Go.Proofs.YtkpfineikahgfaaGreatDoor

namespace Go.Proofs.YtkpfineikahgfaaGreatDoor
open Go.Sx
set_option linter.unusedSimpArgs false
set_option linter.unusedVariables false

/-- The sum of a function's values below n. -/
def sumR : Nat → (Nat → Rat) → Rat
  | 0, _ => 0
  | n + 1, f => sumR n f + f n

section
variable (x y : Nat → Rat)
end

theorem sum_congr {f g : Nat → Rat} : ∀ n, (∀ i, i < n → f i = g i) → sumR n f = sumR n g
  | 0, _ => rfl
  | n + 1, h => by rw [sumR, sumR, sum_congr n (fun i hi => h i (by omega)), h n (by omega)]
theorem sum_const_zero : ∀ n, sumR n (fun _ => 0) = 0
  | 0 => rfl
  | n + 1 => by rw [sumR, sum_const_zero n]; grind

end Go.Proofs.YtkpfineikahgfaaGreatDoor

namespace Go.Proofs.YtkpfineikahgfaaGreatDoor
open Go.Sx
set_option linter.unusedSimpArgs false
set_option linter.unusedVariables false
set_option maxRecDepth 100000
set_option maxHeartbeats 4000000

end Go.Proofs.YtkpfineikahgfaaGreatDoor

namespace Go.Proofs.YtkpfineikahgfaaGreatDoor
open Go.Sx
set_option linter.unusedSimpArgs false
set_option linter.unusedVariables false
set_option maxRecDepth 100000
set_option maxHeartbeats 4000000

/-- All elements have at most B bits. -/
def Sm (B : Nat) (l : List Rat) : Prop := ∀ i, i < l.length → fs (l.getD i 0) ≤ B
section
variable {a b z : List Rat} {n i : Nat} {c : Rat}
theorem vec_ext (ha : a.length = n) (hb : b.length = n) (h : ∀ i, i < n → a.getD i 0 = b.getD i 0) : a = b := by
  refine List.ext_getElem (ha.trans hb.symm) fun i h1 h2 => ?_
  have := h i (by omega)
  rwa [List.getD_eq_getElem?_getD, List.getD_eq_getElem?_getD, List.getElem?_eq_getElem h1, List.getElem?_eq_getElem h2] at this
theorem sum_add (f g : Nat → Rat) : ∀ n, sumR n (fun i => f i + g i) = sumR n f + sumR n g
  | 0 => by simp only [sumR]; grind
  | n + 1 => by simp only [sumR]; rw [sum_add f g n]; grind
theorem sum_smul (c : Rat) (f : Nat → Rat) : ∀ n, sumR n (fun i => c * f i) = c * sumR n f
  | 0 => by simp only [sumR]; grind
  | n + 1 => by simp only [sumR]; rw [sum_smul c f n]; grind
end

end Go.Proofs.YtkpfineikahgfaaGreatDoor

namespace Go.Proofs.YtkpfineikahgfaaGreatDoor
open Go.Sx
set_option linter.unusedSimpArgs false
set_option linter.unusedVariables false
set_option maxRecDepth 100000
set_option maxHeartbeats 4000000

/-- A matrix from its elements. -/
def mk (r c : Nat) (f : Nat → Nat → Rat) : List Rat := (List.range (r * c)).map fun p => f (p / c) (p % c)
/-- An element. -/
abbrev el (a : List Rat) (c i k : Nat) : Rat := a.getD (i * c + k) 0
theorem mk_len (r c : Nat) (f : Nat → Nat → Rat) : (mk r c f).length = r * c := by simp [mk]
theorem idx_lt {r c i k : Nat} (hi : i < r) (hk : k < c) : i * c + k < r * c := by
  have := Nat.mul_le_mul_right c (show i + 1 ≤ r from hi)
  rw [Nat.succ_mul] at this; omega
theorem idx_div {c i k : Nat} (hk : k < c) : (i * c + k) / c = i := by
  rw [Nat.mul_comm, Nat.mul_add_div (by omega), Nat.div_eq_of_lt hk, Nat.add_zero]
theorem idx_mod {c i k : Nat} (hk : k < c) : (i * c + k) % c = k := by
  rw [Nat.mul_comm, Nat.mul_add_mod, Nat.mod_eq_of_lt hk]
theorem mk_at {r c : Nat} {f : Nat → Nat → Rat} {p : Nat} (hp : p < r * c) : (mk r c f).getD p 0 = f (p / c) (p % c) := by
  simp [mk, List.getD_eq_getElem?_getD, hp]
theorem mk_el {r c i k : Nat} {f : Nat → Nat → Rat} (hi : i < r) (hk : k < c) : el (mk r c f) c i k = f i k := by
  rw [el, mk_at (idx_lt hi hk), idx_div hk, idx_mod hk]
theorem idx_split {r c p : Nat} (hp : p < r * c) : p / c < r ∧ p % c < c ∧ p / c * c + p % c = p := by
  have hc : 0 < c := by rcases Nat.eq_zero_or_pos c with h | h
                        · subst h; omega
                        · exact h
  refine ⟨(Nat.div_lt_iff_lt_mul hc).2 hp, Nat.mod_lt _ hc, ?_⟩
  rw [Nat.mul_comm]; exact Nat.div_add_mod p c
/-- Two matrices are equal if their elements are. -/
theorem mat_ext {a b : List Rat} {r c : Nat} (ha : a.length = r * c) (hb : b.length = r * c) (h : ∀ i k, i < r → k < c → el a c i k = el b c i k) : a = b := by
  refine vec_ext ha hb fun p hp => ?_
  obtain ⟨h1, h2, h3⟩ := idx_split hp
  have := h _ _ h1 h2
  rwa [el, el, h3] at this
theorem mk_ext {a : List Rat} {r c : Nat} {f : Nat → Nat → Rat} (ha : a.length = r * c) (h : ∀ i k, i < r → k < c → f i k = el a c i k) : mk r c f = a :=
  mat_ext (mk_len ..) ha fun i k hi hk => by rw [mk_el hi hk, h i k hi hk]
theorem mk_congr {r c : Nat} {f g : Nat → Nat → Rat} (h : ∀ i k, i < r → k < c → f i k = g i k) : mk r c f = mk r c g :=
  mk_ext (mk_len ..) fun i k hi hk => by rw [mk_el hi hk, h i k hi hk]
theorem Sm_mk {r c B : Nat} {f : Nat → Nat → Rat} (h : ∀ i k, i < r → k < c → fs (f i k) ≤ B) : Sm B (mk r c f) := by
  intro p hp
  rw [mk_len] at hp
  obtain ⟨h1, h2, _⟩ := idx_split hp
  rw [mk_at hp]; exact h _ _ h1 h2
theorem el_sm {a : List Rat} {r c B i k : Nat} (h : Sm B a) (ha : a.length = r * c) (hi : i < r) (hk : k < c) : fs (el a c i k) ≤ B := h _ (by rw [ha]; exact idx_lt hi hk)

theorem sum_swap (f : Nat → Nat → Rat) (m : Nat) : ∀ n, sumR n (fun i => sumR m (f i)) = sumR m (fun k => sumR n (fun i => f i k))
  | 0 => by
    rw [sumR]
    have : sumR m (fun _ => (0 : Rat)) = 0 := by induction m with
      | zero => rfl
      | succ m ih => rw [sumR, ih]; grind
    exact (show sumR m (fun k => sumR 0 (fun i => f i k)) = 0 from this).symm
  | n + 1 => by rw [sumR, sum_swap f m n, ← sum_add]; exact sum_congr m fun k _ => rfl
theorem sum_mul (c : Rat) (f : Nat → Rat) (n : Nat) : sumR n (fun i => f i * c) = sumR n f * c := by
  rw [Rat.mul_comm, ← sum_smul]
  exact sum_congr n fun i _ => Rat.mul_comm _ _
theorem sum_fs {f : Nat → Rat} {B : Nat} : ∀ n, (∀ i, i < n → fs (f i) ≤ B) → fs (sumR n f) ≤ 2 + n * B
  | 0, _ => by rw [sumR, fs_zero]; omega
  | n + 1, h => by
    have h1 := sum_fs n (fun i hi => h i (by omega))
    have h2 := h n (by omega)
    have := fs_add (sumR n f) (f n)
    rw [sumR, Nat.succ_mul]; omega

/-- The identity's elements. -/
def delta (i k : Nat) : Rat := if i = k then 1 else 0
theorem sum_deltaL {f : Nat → Rat} {i : Nat} : ∀ n, sumR n (fun j => delta i j * f j) = if i < n then f i else 0
  | 0 => by simp [sumR]
  | n + 1 => by
    rw [sumR, sum_deltaL n, delta]
    by_cases h : i = n
    · subst h; simp; grind
    · by_cases h2 : i < n
      · simp [h, h2, show i < n + 1 by omega]; grind
      · simp [h, h2, show ¬ i < n + 1 by omega]; grind
theorem delta_comm (i k : Nat) : delta i k = delta k i := by unfold delta; by_cases h : i = k <;> simp [h, eq_comm]
theorem sum_deltaR {f : Nat → Rat} {i n : Nat} : sumR n (fun j => f j * delta j i) = if i < n then f i else 0 := by
  rw [← sum_deltaL n]; exact sum_congr n fun j _ => by rw [delta_comm, Rat.mul_comm]
abbrev mmul (r s t : Nat) (a b : List Rat) : List Rat := mk r t fun i k => sumR s fun p => el a s i p * el b t p k
abbrev mturn (r c : Nat) (a : List Rat) : List Rat := mk c r fun i k => el a c k i
abbrev mone (n : Nat) : List Rat := mk n n delta
theorem sum_mulL {f : Nat → Rat} (c : Rat) (n : Nat) : c * sumR n f = sumR n fun i => c * f i := (sum_smul c f n).symm
theorem sum_mulR {f : Nat → Rat} (c : Rat) (n : Nat) : sumR n f * c = sumR n fun i => f i * c := (sum_mul c f n).symm

end Go.Proofs.YtkpfineikahgfaaGreatDoor

namespace Go.Proofs.YtkpfineikahgfaaGreatDoor
open Go.Sx
set_option linter.unusedSimpArgs false
set_option linter.unusedVariables false
set_option maxRecDepth 100000
set_option maxHeartbeats 4000000
theorem sum_shift (f : Nat → Rat) : ∀ n, sumR (n + 1) f = f 0 + sumR n (fun i => f (i + 1))
  | 0 => by simp only [sumR]; grind
  | n + 1 => by rw [sumR, sum_shift f n, sumR]; grind
theorem sum_zeros {f : Nat → Rat} {n : Nat} (h : ∀ i, i < n → f i = 0) : sumR n f = 0 := by
  rw [sum_congr n h, sum_const_zero]
theorem sum_one {f : Nat → Rat} {j : Nat} : ∀ n, j < n → (∀ i, i < n → i ≠ j → f i = 0) → sumR n f = f j
  | 0, h, _ => by omega
  | n + 1, hj, h => by
    rw [sumR]
    by_cases e : j = n
    · subst e; rw [sum_zeros fun i hi => h i (by omega) (by omega)]; grind
    · rw [sum_one n (by omega) (fun i hi hn => h i (by omega) hn), h n (by omega) (fun g => e g.symm)]; grind
/-- A sum with two terms at most, which cancel. -/
theorem sum_two {f : Nat → Rat} {j : Nat} {n : Nat} (hj : j + 1 < n) (h : ∀ i, i < n → i ≠ j → i ≠ j + 1 → f i = 0) (h2 : f j + f (j + 1) = 0) : sumR n f = 0 := by
  have e : sumR n f = sumR n (fun i => (if i = j then f j else 0) + (if i = j + 1 then f (j + 1) else 0)) := sum_congr n fun i hi => by
    by_cases h1 : i = j
    · subst h1; simp; grind
    · by_cases h3 : i = j + 1
      · subst h3; simp; grind
      · rw [h i hi h1 h3, if_neg h1, if_neg h3]; grind
  rw [e, sum_add, sum_one (f := fun i => if i = j then f j else 0) (j := j) n (by omega) (fun i _ hn => if_neg hn), sum_one (f := fun i => if i = j + 1 then f (j + 1) else 0) (j := j + 1) n hj (fun i _ hn => if_neg hn)]
  simp [h2]

abbrev Mx := Nat → Nat → Rat
/-- The sign of a number: of (-1)^n. -/
def sg : Nat → Rat
  | 0 => 1
  | n + 1 => - sg n
theorem sg_add (m : Nat) : ∀ n, sg (m + n) = sg m * sg n
  | 0 => by rw [sg, Nat.add_zero]; grind
  | n + 1 => by rw [← Nat.add_assoc, sg, sg, sg_add m n]; grind
theorem sg_sq (n : Nat) : sg n * sg n = 1 := by
  induction n with
  | zero => rw [sg]; grind
  | succ n ih => rw [sg]; grind
/-- The numbers but k. -/
def sk (k j : Nat) : Nat := if j < k then j else j + 1
theorem sk_ne (k j : Nat) : sk k j ≠ k := by unfold sk; split <;> omega
theorem sk_lt {n k j : Nat} (hj : j < n) : sk k j < n + 1 := by unfold sk; split <;> omega
theorem sk_le {k j : Nat} (h : j < k) : sk k j = j := if_pos h
theorem sk_ge {k j : Nat} (h : k ≤ j) : sk k j = j + 1 := if_neg (by omega)
theorem sk_sk {k l j : Nat} (h : l ≤ k) : sk (k + 1) (sk l j) = sk l (sk k j) := by
  unfold sk
  by_cases h1 : j < l
  · simp [h1, show j < k by omega, show j < k + 1 by omega]
  · by_cases h2 : j < k
    · simp [h1, h2]
    · simp [h1, h2, show ¬ j + 1 < l by omega]
/-- Without row 0 and column k. -/
def mn (A : Mx) (k : Nat) : Mx := fun i j => A (i + 1) (sk k j)
/-- The determinant, along row 0. -/
def det : Nat → Mx → Rat
  | 0, _ => 1
  | n + 1, A => sumR (n + 1) fun k => sg k * A 0 k * det n (mn A k)
theorem det_succ (n : Nat) (A : Mx) : det (n + 1) A = sumR (n + 1) fun k => sg k * A 0 k * det n (mn A k) := rfl
theorem det_congr : ∀ {n : Nat} {A B : Mx}, (∀ i k, i < n → k < n → A i k = B i k) → det n A = det n B
  | 0, _, _, _ => rfl
  | n + 1, A, B, h => by
    rw [det_succ, det_succ]
    refine sum_congr _ fun k hk => ?_
    rw [h 0 k (by omega) hk, det_congr (n := n) (A := mn A k) (B := mn B k) (fun i j hi hj => h _ _ (by omega) (sk_lt hj))]
def setRow (A : Mx) (i : Nat) (x : Nat → Rat) : Mx := fun p q => if p = i then x q else A p q
theorem setRow_at (A : Mx) (i : Nat) (x : Nat → Rat) : setRow A i x i = x := by funext q; simp [setRow]
theorem setRow_ne (A : Mx) {i p : Nat} (x : Nat → Rat) (h : p ≠ i) : setRow A i x p = A p := by funext q; simp [setRow, h]
theorem setRow_self (A : Mx) (i : Nat) : setRow A i (A i) = A := by
  funext p q
  by_cases h : p = i
  · subst h; rw [setRow_at]
  · rw [setRow_ne _ _ h]
theorem setRow_two (A : Mx) (i : Nat) (x y : Nat → Rat) : setRow (setRow A i x) i y = setRow A i y := by
  funext p q; unfold setRow; split <;> rfl
theorem setRow_comm (A : Mx) {i j : Nat} (x y : Nat → Rat) (h : i ≠ j) : setRow (setRow A i x) j y = setRow (setRow A j y) i x := by
  funext p q; unfold setRow
  by_cases h1 : p = i
  · subst h1; simp [h]
  · simp [h1]

/-- What the determinant has as a function of the rows. -/
structure Alt (n : Nat) (F : Mx → Rat) : Prop where
  congr : ∀ A B, (∀ i k, i < n → k < n → A i k = B i k) → F A = F B
  lin : ∀ A i x c y, i < n → F (setRow A i fun k => x k + c * y k) = F (setRow A i x) + c * F (setRow A i y)
  alt : ∀ A i, i + 1 < n → (∀ k, k < n → A i k = A (i + 1) k) → F A = 0

theorem mn_set0 (A : Mx) (x : Nat → Rat) (k : Nat) : mn (setRow A 0 x) k = mn A k := by
  funext i j; rw [mn, setRow_ne _ _ (by omega)]; rfl
theorem mn_set (A : Mx) (x : Nat → Rat) (k i : Nat) : mn (setRow A (i + 1) x) k = setRow (mn A k) i fun j => x (sk k j) := by
  funext p q
  by_cases h : p = i
  · subst h; rw [setRow_at, mn, setRow_at]
  · rw [setRow_ne _ _ h, mn, setRow_ne _ _ (by omega)]; rfl
theorem det_lin : ∀ (n : Nat) (A : Mx) (i : Nat) (x : Nat → Rat) (c : Rat) (y : Nat → Rat), i < n → det n (setRow A i fun k => x k + c * y k) = det n (setRow A i x) + c * det n (setRow A i y)
  | 0, _, _, _, _, _, h => by omega
  | n + 1, A, 0, x, c, y, _ => by
    rw [det_succ, det_succ, det_succ, sum_mulL, ← sum_add]
    refine sum_congr _ fun k _ => ?_
    rw [setRow_at, setRow_at, setRow_at, mn_set0, mn_set0, mn_set0]
    grind
  | n + 1, A, i + 1, x, c, y, h => by
    rw [det_succ, det_succ, det_succ, sum_mulL, ← sum_add]
    refine sum_congr _ fun k _ => ?_
    rw [setRow_ne _ _ (by omega), setRow_ne _ _ (by omega), setRow_ne _ _ (by omega), mn_set, mn_set, mn_set, det_lin n _ _ _ _ _ (by omega)]
    grind
/-- Two rows on top that are equal: the terms cancel. -/
theorem sum_anti (n : Nat) (T : Nat → Nat → Rat) (h : ∀ k l, l ≤ k → k < n → T (k + 1) l = - T l k) : sumR (n + 1) (fun k => sumR n (T k)) = 0 := by
  have e1 : sumR (n + 1) (fun k => sumR n (T k)) = sumR (n + 1) (fun k => sumR n fun l => if l < k then T k l else 0) + sumR (n + 1) (fun k => sumR n fun l => if l < k then 0 else T k l) := by
    rw [← sum_add]
    refine sum_congr _ fun k _ => ?_
    rw [← sum_add]
    exact sum_congr _ fun l _ => by split <;> grind
  have e2 : sumR (n + 1) (fun k => sumR n fun l => if l < k then T k l else 0) = sumR n fun k => sumR n fun l => if l < k + 1 then T (k + 1) l else 0 := by
    rw [sum_shift, sum_zeros fun l _ => if_neg (by omega)]; grind
  have e3 : sumR (n + 1) (fun k => sumR n fun l => if l < k then 0 else T k l) = sumR n fun k => sumR n fun l => if k < l then 0 else T l k := by
    rw [sumR, sum_zeros (f := fun l => if l < n then 0 else T n l) fun l hl => if_pos hl, sum_swap]; grind
  rw [e1, e2, e3, ← sum_add]
  refine sum_zeros fun k hk => ?_
  rw [← sum_add]
  refine sum_zeros fun l hl => ?_
  by_cases h1 : l ≤ k
  · rw [if_pos (by omega), if_neg (by omega), h k l h1 hk]; grind
  · rw [if_neg (by omega), if_pos (by omega)]; grind
theorem det_alt0 : ∀ (n : Nat) (A : Mx) (i : Nat), i + 1 < n → (∀ k, k < n → A i k = A (i + 1) k) → det n A = 0
  | 0, _, _, h, _ => by omega
  | 1, _, _, h, _ => by omega
  | n + 2, A, 0, _, h => by
    rw [det_succ]
    have e : ∀ k, k < n + 2 → sg k * A 0 k * det (n + 1) (mn A k) = sumR (n + 1) fun l => sg k * A 0 k * (sg l * A 1 (sk k l) * det n (mn (mn A k) l)) := fun k _ => by
      rw [det_succ, sum_mulL]; rfl
    rw [sum_congr _ e]
    refine sum_anti (n + 1) (fun k l => sg k * A 0 k * (sg l * A 1 (sk k l) * det n (mn (mn A k) l))) fun k l hl hk => ?_
    have e1 : mn (mn A (k + 1)) l = mn (mn A l) k := by
      funext i j
      rw [mn, mn, mn, mn, sk_sk hl]
    show sg (k + 1) * A 0 (k + 1) * (sg l * A 1 (sk (k + 1) l) * det n (mn (mn A (k + 1)) l)) = - (sg l * A 0 l * (sg k * A 1 (sk l k) * det n (mn (mn A l) k)))
    rw [e1, sk_le (by omega), sk_ge hl, h (k + 1) (by omega), h l (by omega), sg]
    grind
  | n + 2, A, i + 1, hi, h => by
    rw [det_succ]
    refine sum_zeros fun k _ => ?_
    rw [det_alt0 (n + 1) (mn A k) i (by omega) (fun j hj => h _ (sk_lt hj))]; grind
theorem det_Alt (n : Nat) : Alt n (det n) := ⟨fun _ _ => det_congr, fun A i x c y => det_lin n A i x c y, fun A i => det_alt0 n A i⟩

section
variable {n : Nat} {F : Mx → Rat} (hF : Alt n F)
include hF
theorem Alt.add (A : Mx) {i : Nat} (x y : Nat → Rat) (hi : i < n) : F (setRow A i fun k => x k + y k) = F (setRow A i x) + F (setRow A i y) := by
  have := hF.lin A i x 1 y hi
  rw [show (fun k => x k + 1 * y k) = fun k => x k + y k from by funext k; grind] at this
  rw [this]; grind
theorem Alt.zero (A : Mx) {i : Nat} (hi : i < n) : F (setRow A i fun _ => 0) = 0 := by
  have := hF.add A (fun _ => 0) (fun _ => 0) hi
  rw [show (fun _ : Nat => (0 : Rat) + 0) = fun _ => 0 from by funext k; grind] at this
  grind
theorem Alt.smul (A : Mx) {i : Nat} (c : Rat) (x : Nat → Rat) (hi : i < n) : F (setRow A i fun k => c * x k) = c * F (setRow A i x) := by
  have := hF.lin A i (fun _ => 0) c x hi
  rw [hF.zero A hi, show (fun k => (0 : Rat) + c * x k) = fun k => c * x k from by funext k; grind] at this
  rw [this]; grind
theorem Alt.sum (A : Mx) {i : Nat} (hi : i < n) (a : Nat → Rat) (e : Nat → Nat → Rat) : ∀ m, F (setRow A i fun k => sumR m fun p => a p * e p k) = sumR m fun p => a p * F (setRow A i (e p))
  | 0 => by simp only [sumR]; exact hF.zero A hi
  | m + 1 => by
    simp only [sumR]
    rw [hF.lin A i (fun k => sumR m fun p => a p * e p k) (a m) (e m) hi, Alt.sum A hi a e m]
/-- Two rows next to each other exchanged. -/
def swapRow (A : Mx) (i j : Nat) : Mx := fun p => if p = i then A j else if p = j then A i else A p
omit hF in
theorem swap_set (A : Mx) {i j : Nat} (h : i ≠ j) : swapRow A i j = setRow (setRow A i (A j)) j (A i) := by
  funext p q
  unfold swapRow
  by_cases h1 : p = i
  · subst h1; rw [if_pos rfl, setRow_ne _ _ h, setRow_at]
  · by_cases h2 : p = j
    · subst h2; rw [if_neg h1, if_pos rfl, setRow_at]
    · rw [if_neg h1, if_neg h2, setRow_ne _ _ h2, setRow_ne _ _ h1]
theorem Alt.swap_of (A : Mx) {i j : Nat} (hi : i < n) (hj : j < n) (hne : i ≠ j) (h0 : ∀ x, F (setRow (setRow A i x) j x) = 0) : F (swapRow A i j) = - F A := by
  have h1 := h0 (fun k => A i k + A j k)
  rw [hF.add _ _ _ hj, setRow_comm _ _ _ hne, hF.add _ _ _ hi, setRow_comm _ _ _ hne, hF.add _ _ _ hi,
    setRow_comm _ _ _ hne.symm, h0, setRow_comm _ _ _ hne.symm, setRow_comm _ _ _ hne.symm, setRow_comm _ _ _ hne.symm, h0] at h1
  have e1 : setRow (setRow A i (A i)) j (A j) = A := by rw [setRow_self, setRow_self]
  rw [← swap_set A hne] at h1
  rw [e1] at h1
  grind
theorem Alt.swap1 (A : Mx) {i : Nat} (hi : i + 1 < n) : F (swapRow A i (i + 1)) = - F A :=
  hF.swap_of A (by omega) hi (by omega) fun x => hF.alt _ i hi fun k _ => by rw [setRow_ne _ _ (by omega), setRow_at, setRow_at]
/-- Two equal rows. -/
theorem Alt.same (d : Nat) : ∀ (A : Mx) (i : Nat), i + d + 1 < n → (∀ k, k < n → A i k = A (i + d + 1) k) → F A = 0 := by
  induction d with
  | zero => exact fun A i hi h => hF.alt A i hi h
  | succ d ih =>
    intro A i hi h
    have h1 := ih (swapRow A (i + d + 1) (i + d + 1 + 1)) i (by omega) fun k hk => by
      unfold swapRow
      rw [if_neg (by omega), if_neg (by omega), if_pos rfl]; exact h k hk
    rw [hF.swap1 A (by omega)] at h1
    grind
theorem Alt.eq (A : Mx) {i j : Nat} (hi : i < n) (hj : j < n) (hne : i ≠ j) (h : ∀ k, k < n → A i k = A j k) : F A = 0 := by
  rcases Nat.lt_or_gt_of_ne hne with g | g
  · exact hF.same (j - i - 1) A i (by omega) fun k hk => by rw [show i + (j - i - 1) + 1 = j by omega]; exact h k hk
  · exact hF.same (i - j - 1) A j (by omega) fun k hk => by rw [show j + (i - j - 1) + 1 = i by omega]; exact (h k hk).symm
theorem Alt.swap (A : Mx) {i j : Nat} (hi : i < n) (hj : j < n) (hne : i ≠ j) : F (swapRow A i j) = - F A :=
  hF.swap_of A hi hj hne fun x => hF.eq _ hi hj hne fun k _ => by rw [setRow_ne _ _ hne, setRow_at, setRow_at]
/-- A multiple of another row added to a row. -/
theorem Alt.addrow (A : Mx) {i j : Nat} (c : Rat) (hi : i < n) (hj : j < n) (hne : i ≠ j) : F (setRow A i fun k => A i k + c * A j k) = F A := by
  rw [hF.lin A i (A i) c (A j) hi, setRow_self, hF.eq (setRow A i (A j)) hi hj hne fun k _ => by rw [setRow_at, setRow_ne _ _ (fun h => hne h.symm)]]
  grind
/-- Row k moved to the top. -/
def rowTop (k : Nat) (A : Mx) : Mx := fun i => if i = 0 then A k else if i ≤ k then A (i - 1) else A i
theorem Alt.top : ∀ (k : Nat) (A : Mx), k < n → F (rowTop k A) = sg k * F A
  | 0, A, _ => by
    rw [show rowTop 0 A = A from by
      funext i; unfold rowTop
      by_cases h : i = 0
      · rw [if_pos h, h]
      · rw [if_neg h, if_neg (by omega)], sg]
    grind
  | k + 1, A, h => by
    have e : rowTop (k + 1) A = rowTop k (swapRow A k (k + 1)) := by
      funext i; unfold rowTop swapRow
      by_cases h1 : i = 0
      · rw [if_pos h1, if_pos h1, if_pos rfl]
      · rw [if_neg h1, if_neg h1]
        by_cases h2 : i ≤ k
        · rw [if_pos (by omega), if_pos h2, if_neg (by omega), if_neg (by omega)]
        · rw [if_neg h2]
          by_cases h3 : i = k + 1
          · subst h3; rw [if_pos (by omega), if_neg (by omega), if_pos rfl]; rfl
          · rw [if_neg (by omega), if_neg (by omega), if_neg h3]
    rw [e, Alt.top k _ (by omega), hF.swap1 A h, sg]
    grind
end
/-- The place of a number among those but k. -/
def un (k q : Nat) : Nat := if q < k then q else q - 1
theorem un_sk (k j : Nat) : un k (sk k j) = j := by
  unfold un sk
  by_cases h : j < k
  · rw [if_pos h, if_pos h]
  · rw [if_neg h, if_neg (by omega)]; rfl
theorem sk_un {k q : Nat} (h : q ≠ k) : sk k (un k q) = q := by
  unfold un sk
  by_cases h1 : q < k
  · rw [if_pos h1, if_pos h1]
  · rw [if_neg h1, if_neg (by omega)]; omega
theorem un_lt {n k q : Nat} (hq : q < n + 1) (hk : k < n + 1) (h : q ≠ k) : un k q < n := by unfold un; split <;> omega
/-- Row 0 is a unit vector, column k has nothing else. -/
def bord (k : Nat) (B : Mx) : Mx := fun i q => if i = 0 then delta k q else if q = k then 0 else B (i - 1) (un k q)
theorem bord_set (k : Nat) (B : Mx) (i : Nat) (x : Nat → Rat) : bord k (setRow B i x) = setRow (bord k B) (i + 1) fun q => if q = k then 0 else x (un k q) := by
  funext p q
  by_cases h : p = i + 1
  · subst h
    rw [setRow_at, bord, if_neg (by omega), show i + 1 - 1 = i by omega, setRow_at]
  · rw [setRow_ne _ _ h, bord, bord]
    by_cases h0 : p = 0
    · rw [if_pos h0, if_pos h0]
    · rw [if_neg h0, if_neg h0, setRow_ne _ _ (by omega)]
theorem Alt.bord {n : Nat} {F : Mx → Rat} (hF : Alt (n + 1) F) {k : Nat} (hk : k < n + 1) : Alt n fun B => F (bord k B) where
  congr := fun A B h => hF.congr _ _ fun i q hi hq => by
    unfold Go.Proofs.YtkpfineikahgfaaGreatDoor.bord
    by_cases h0 : i = 0
    · rw [if_pos h0, if_pos h0]
    · rw [if_neg h0, if_neg h0]
      by_cases h1 : q = k
      · rw [if_pos h1, if_pos h1]
      · rw [if_neg h1, if_neg h1]; exact h _ _ (by omega) (un_lt hq hk h1)
  lin := fun A i x c y hi => by
    show F _ = F _ + c * F _
    rw [bord_set, bord_set, bord_set, ← hF.lin _ _ _ _ _ (by omega)]
    congr 2
    funext q
    by_cases h : q = k
    · rw [if_pos h, if_pos h, if_pos h]; grind
    · rw [if_neg h, if_neg h, if_neg h]
  alt := fun A i hi h => hF.alt _ (i + 1) (by omega) fun q hq => by
    unfold Go.Proofs.YtkpfineikahgfaaGreatDoor.bord
    rw [if_neg (show ¬ i + 1 = 0 by omega), if_neg (show ¬ i + 1 + 1 = 0 by omega)]
    by_cases h1 : q = k
    · rw [if_pos h1, if_pos h1]
    · rw [if_neg h1, if_neg h1]; exact h _ (un_lt hq hk h1)
/-- An alternating function is a multiple of the determinant. -/
theorem alt_unique : ∀ (n : Nat) (F : Mx → Rat), Alt n F → ∀ A, F A = F delta * det n A
  | 0, F, hF, A => by rw [hF.congr A delta fun i k hi => by omega, det]; grind
  | n + 1, F, hF, A => by
    have e0 : F A = sumR (n + 1) fun k => A 0 k * F (setRow A 0 (delta k)) := by
      rw [← hF.sum A (by omega) (A 0) delta (n + 1)]
      refine hF.congr _ _ fun i q hi hq => ?_
      by_cases h : i = 0
      · subst h; rw [setRow_at, sum_deltaR, if_pos hq]
      · rw [setRow_ne _ _ h]
    rw [e0, det_succ, sum_mulL]
    refine sum_congr _ fun k hk => ?_
    -- the other rows lose their element k
    have e1 : ∀ m, m ≤ n → F (setRow A 0 (delta k)) = F (fun i q => if i = 0 then delta k q else if i ≤ m ∧ q = k then 0 else A i q) := by
      intro m
      induction m with
      | zero =>
        intro _
        refine hF.congr _ _ fun i q _ _ => ?_
        by_cases h : i = 0
        · subst h; rw [setRow_at, if_pos rfl]
        · rw [setRow_ne _ _ h, if_neg h, if_neg (by omega)]
      | succ m ih =>
        intro hm
        rw [ih (by omega), ← hF.addrow (i := m + 1) (j := 0) (fun i q => if i = 0 then delta k q else if i ≤ m ∧ q = k then 0 else A i q) (- A (m + 1) k) (by omega) (by omega) (by omega)]
        refine hF.congr _ _ fun i q _ _ => ?_
        by_cases h : i = m + 1
        · subst h
          rw [setRow_at, if_neg (by omega), if_neg (by omega), if_pos rfl, if_neg (by omega)]
          by_cases hq : q = k
          · subst hq; rw [if_pos ⟨Nat.le_refl _, rfl⟩]; simp [delta]; grind
          · rw [if_neg (fun g => hq g.2), delta, if_neg (fun g => hq g.symm)]; grind
        · rw [setRow_ne _ _ h]
          by_cases h0 : i = 0
          · rw [if_pos h0, if_pos h0]
          · rw [if_neg h0, if_neg h0]
            by_cases g : i ≤ m ∧ q = k
            · rw [if_pos g, if_pos ⟨by omega, g.2⟩]
            · rw [if_neg g, if_neg (fun g2 => g ⟨by omega, g2.2⟩)]
    have e2 : F (setRow A 0 (delta k)) = F (bord k (mn A k)) := by
      rw [e1 n (Nat.le_refl _)]
      refine hF.congr _ _ fun i q hi _ => ?_
      unfold bord
      by_cases h0 : i = 0
      · rw [if_pos h0, if_pos h0]
      · rw [if_neg h0, if_neg h0]
        by_cases hq : q = k
        · rw [if_pos ⟨by omega, hq⟩, if_pos hq]
        · rw [if_neg (fun g => hq g.2), if_neg hq, mn, sk_un hq, show i - 1 + 1 = i by omega]
    have e3 : F (bord k delta) = sg k * F delta := by
      rw [← hF.top k delta hk]
      refine hF.congr _ _ fun i q hi _ => ?_
      unfold bord rowTop
      by_cases h0 : i = 0
      · rw [if_pos h0, if_pos h0]
      · rw [if_neg h0, if_neg h0]
        by_cases hq : q = k
        · rw [if_pos hq, hq]
          by_cases h1 : i ≤ k
          · rw [if_pos h1, delta, if_neg (by omega)]
          · rw [if_neg h1, delta, if_neg (by omega)]
        · rw [if_neg hq]
          unfold un delta
          by_cases h1 : i ≤ k
          · rw [if_pos h1]
            by_cases h2 : q < k
            · rw [if_pos h2]
            · rw [if_neg h2, if_neg (by omega), if_neg (by omega)]
          · rw [if_neg h1]
            by_cases h2 : q < k
            · rw [if_pos h2, if_neg (by omega), if_neg (by omega)]
            · rw [if_neg h2]
              by_cases h3 : i = q
              · rw [if_pos (by omega), if_pos h3]
              · rw [if_neg (by omega), if_neg h3]
    rw [e2, alt_unique n _ (hF.bord hk) (mn A k), e3]
    grind
end Go.Proofs.YtkpfineikahgfaaGreatDoor

namespace Go.Proofs.YtkpfineikahgfaaGreatDoor
open Go.Sx
set_option linter.unusedSimpArgs false
set_option linter.unusedVariables false
set_option maxRecDepth 100000
set_option maxHeartbeats 4000000
theorem det_one : ∀ n, det n delta = 1
  | 0 => rfl
  | n + 1 => by
    rw [det_succ, sum_one (j := 0) (n + 1) (by omega) fun i _ hi => by rw [delta, if_neg fun h => hi h.symm]; grind]
    rw [sg, det_congr (A := mn delta 0) (B := delta) fun i k _ _ => by
      show delta (i + 1) (sk 0 k) = _
      rw [sk_ge (by omega)]; unfold delta
      by_cases h : i = k
      · rw [if_pos (by omega), if_pos h]
      · rw [if_neg (by omega), if_neg h], det_one n]
    simp [delta]
/-- The product. -/
def pr (n : Nat) (A B : Mx) : Mx := fun i k => sumR n fun p => A i p * B p k
theorem det_mul (n : Nat) (A B : Mx) : det n (pr n A B) = det n A * det n B := by
  have h : Alt n fun A => det n (pr n A B) := {
    congr := fun A A' h => det_congr fun i k hi hk => sum_congr n fun p hp => by rw [h i p hi hp]
    lin := fun A i x c y hi => by
      have e : ∀ z, pr n (setRow A i z) B = setRow (pr n A B) i fun k => sumR n fun p => z p * B p k := fun z => by
        funext p q
        by_cases h : p = i
        · subst h; rw [setRow_at, pr]; simp only [setRow_at]
        · rw [setRow_ne _ _ h]; unfold pr; simp only [setRow_ne _ _ h]
      show det n _ = det n _ + c * det n _
      rw [e, e, e, ← det_lin n _ _ _ _ _ hi]
      congr 2
      funext k
      rw [sum_mulL, ← sum_add]
      exact sum_congr n fun p _ => by grind
    alt := fun A i hi h => det_alt0 n _ i hi fun k _ => sum_congr n fun p hp => by rw [h p hp] }
  rw [alt_unique n _ h A]
  show det n (pr n delta B) * det n A = _
  rw [det_congr (A := pr n delta B) (B := B) fun i k hi _ => by rw [pr, sum_deltaL, if_pos hi]]
  grind

def setCol (A : Mx) (j : Nat) (x : Nat → Rat) : Mx := fun p q => if q = j then x p else A p q
theorem mn_setCol_eq (A : Mx) (x : Nat → Rat) (k : Nat) : mn (setCol A k x) k = mn A k := by
  funext i j; rw [mn, setCol, if_neg (sk_ne _ _)]; rfl
theorem mn_setCol (A : Mx) (x : Nat → Rat) {j k : Nat} (h : j ≠ k) : mn (setCol A j x) k = setCol (mn A k) (un k j) fun p => x (p + 1) := by
  funext p q
  unfold mn setCol
  by_cases e : sk k q = j
  · rw [if_pos e, if_pos (by rw [← e, un_sk])]
  · rw [if_neg e, if_neg fun g => e (by rw [g, sk_un h])]
theorem det_collin : ∀ (n : Nat) (A : Mx) (j : Nat) (x : Nat → Rat) (c : Rat) (y : Nat → Rat), j < n → det n (setCol A j fun k => x k + c * y k) = det n (setCol A j x) + c * det n (setCol A j y)
  | 0, _, _, _, _, _, h => by omega
  | n + 1, A, j, x, c, y, hj => by
    rw [det_succ, det_succ, det_succ, sum_mulL, ← sum_add]
    refine sum_congr _ fun k hk => ?_
    by_cases h : j = k
    · subst h
      rw [mn_setCol_eq, mn_setCol_eq, mn_setCol_eq]
      simp only [setCol, if_true]
      grind
    · rw [mn_setCol _ _ h, mn_setCol _ _ h, mn_setCol _ _ h, det_collin n _ _ _ _ _ (un_lt hj hk h)]
      simp only [setCol, if_neg fun g => h (Eq.symm g)]
      grind
theorem det_colalt : ∀ (n : Nat) (A : Mx) (j : Nat), j + 1 < n → (∀ i, i < n → A i j = A i (j + 1)) → det n A = 0
  | 0, _, _, h, _ => by omega
  | n + 1, A, j, hj, h => by
    rw [det_succ]
    refine sum_two hj (fun k hk h1 h2 => ?_) ?_
    · have : det n (mn A k) = 0 := by
        rcases Nat.lt_or_gt_of_ne h1 with g | g
        · refine det_colalt n _ (j - 1) (by omega) fun i hi => ?_
          show A (i + 1) (sk k (j - 1)) = A (i + 1) (sk k (j - 1 + 1))
          rw [sk_ge (by omega), sk_ge (by omega), show j - 1 + 1 = j by omega]
          exact h _ (by omega)
        · refine det_colalt n _ j (by omega) fun i hi => ?_
          show A (i + 1) (sk k j) = A (i + 1) (sk k (j + 1))
          rw [sk_le (by omega), sk_le (by omega)]
          exact h _ (by omega)
      rw [this]; grind
    · have : det n (mn A j) = det n (mn A (j + 1)) := det_congr fun i q hi _ => by
        unfold mn
        by_cases e : q = j
        · subst e; rw [sk_ge (Nat.le_refl _), sk_le (Nat.lt_succ_self _)]; exact (h _ (by omega)).symm
        · by_cases g : q < j
          · rw [sk_le g, sk_le (by omega)]
          · rw [sk_ge (by omega), sk_ge (by omega)]
      rw [this, h 0 (by omega), sg]; grind
def tr (A : Mx) : Mx := fun i k => A k i
theorem det_turn (n : Nat) (A : Mx) : det n (tr A) = det n A := by
  have h : Alt n fun A => det n (tr A) := {
    congr := fun A A' h => det_congr fun i k hi hk => h k i hk hi
    lin := fun A i x c y hi => det_collin n (tr A) i x c y hi
    alt := fun A i hi h => det_colalt n (tr A) i hi h }
  rw [alt_unique n _ h A]
  show det n (tr delta) * det n A = _
  rw [det_congr (A := tr delta) (B := delta) fun i k _ _ => delta_comm k i, det_one]; grind

/-- Without row r and column k. -/
def mnr (A : Mx) (r k : Nat) : Mx := fun i j => A (sk r i) (sk k j)
theorem laplace (n : Nat) (A : Mx) {r : Nat} (hr : r < n + 1) : det (n + 1) A = sumR (n + 1) fun k => sg (r + k) * A r k * det n (mnr A r k) := by
  have h := (det_Alt (n + 1)).top r A hr
  have h2 : det (n + 1) A = sg r * det (n + 1) (rowTop r A) := by rw [h, ← Rat.mul_assoc, sg_sq]; grind
  rw [h2, det_succ, sum_mulL]
  refine sum_congr _ fun k _ => ?_
  have e : mn (rowTop r A) k = mnr A r k := by
    funext i j
    unfold mn mnr rowTop
    rw [if_neg (by omega)]
    by_cases g : i < r
    · rw [if_pos (by omega), sk_le g]; rfl
    · rw [if_neg (by omega), sk_ge (k := r) (by omega)]
  rw [e, sg_add, show rowTop r A 0 = A r from rfl]; grind
theorem mnr_tr (A : Mx) (r k : Nat) : mnr (tr A) r k = tr (mnr A k r) := rfl
/-- The adjugate. -/
def adj (n : Nat) (A : Mx) : Mx := fun i k => sg (i + k) * det (n - 1) (mnr A k i)
theorem adj_tr (n : Nat) (A : Mx) (i k : Nat) : adj n (tr A) i k = adj n A k i := by
  rw [adj, adj, mnr_tr, det_turn, Nat.add_comm]
theorem mnr_set (A : Mx) (r k : Nat) (x : Nat → Rat) : mnr (setRow A r x) r k = mnr A r k := by
  funext i j; rw [mnr, setRow_ne _ _ (sk_ne _ _)]; rfl
theorem mul_adj {n : Nat} (A : Mx) {i k : Nat} (hi : i < n) (hk : k < n) : pr n A (adj n A) i k = if i = k then det n A else 0 := by
  obtain ⟨m, rfl⟩ : ∃ m, n = m + 1 := ⟨n - 1, by omega⟩
  have h : pr (m + 1) A (adj (m + 1) A) i k = det (m + 1) (setRow A k (A i)) := by
    rw [laplace m _ hk]
    refine sum_congr _ fun p _ => ?_
    rw [mnr_set, setRow_at, adj, Nat.add_comm k p, show m + 1 - 1 = m from rfl]; grind
  rw [h]
  by_cases e : i = k
  · subst e; rw [setRow_self, if_pos rfl]
  · rw [if_neg e, (det_Alt (m + 1)).eq _ hi hk e fun q _ => by rw [setRow_ne _ _ e, setRow_at]]
theorem adj_mul {n : Nat} (A : Mx) {i k : Nat} (hi : i < n) (hk : k < n) : pr n (adj n A) A i k = if i = k then det n A else 0 := by
  have h := mul_adj (tr A) hk hi
  rw [det_turn] at h
  have e : pr n (adj n A) A i k = pr n (tr A) (adj n (tr A)) k i := sum_congr _ fun p _ => by rw [adj_tr, Rat.mul_comm]; rfl
  rw [e, h]
  by_cases g : i = k
  · rw [if_pos g, if_pos g.symm]
  · rw [if_neg g, if_neg (fun h => g h.symm)]

def pev : List Rat → Rat → Rat
  | [], _ => 0
  | a :: l, t => a + t * pev l t
def Pol (f : Rat → Rat) : Prop := ∃ l, ∀ t, f t = pev l t
theorem Pol.const (c : Rat) : Pol fun _ => c := ⟨[c], fun t => by simp only [pev]; grind⟩
theorem Pol.id : Pol fun t => t := ⟨[0, 1], fun t => by simp only [pev]; grind⟩
def addL : List Rat → List Rat → List Rat
  | [], l => l
  | l, [] => l
  | a :: l, b :: m => (a + b) :: addL l m
theorem pev_addL : ∀ (l m : List Rat) (t : Rat), pev (addL l m) t = pev l t + pev m t
  | [], m, t => by rw [addL, pev]; grind
  | a :: l, [], t => by rw [addL]; simp only [pev]; grind; simp
  | a :: l, b :: m, t => by rw [addL]; simp only [pev]; rw [pev_addL l m t]; grind
theorem addL_len : ∀ (l m : List Rat) (d : Nat), l.length ≤ d → m.length ≤ d → (addL l m).length ≤ d
  | [], m, d, _, h => by rw [addL]; exact h
  | a :: l, [], d, h, _ => by rw [addL]; exact h; simp
  | a :: l, b :: m, 0, h, _ => by simp at h
  | a :: l, b :: m, d + 1, h1, h2 => by rw [addL, List.length_cons]; have := addL_len l m d (by simpa using h1) (by simpa using h2); omega
theorem pev_map (c : Rat) : ∀ (l : List Rat) (t : Rat), pev (l.map (c * ·)) t = c * pev l t
  | [], t => by simp only [List.map_nil, pev]; grind
  | a :: l, t => by simp only [List.map_cons, pev]; rw [pev_map c l t]; grind
theorem Pol.add {f g : Rat → Rat} (hf : Pol f) (hg : Pol g) : Pol fun t => f t + g t := by
  obtain ⟨l, hl⟩ := hf; obtain ⟨m, hm⟩ := hg
  exact ⟨addL l m, fun t => by show f t + g t = _; rw [pev_addL, hl, hm]⟩
theorem Pol.smul {f : Rat → Rat} (c : Rat) (hf : Pol f) : Pol fun t => c * f t := by
  obtain ⟨l, hl⟩ := hf
  exact ⟨l.map (c * ·), fun t => by show c * f t = _; rw [pev_map, hl]⟩
theorem Pol.x {f : Rat → Rat} (hf : Pol f) : Pol fun t => t * f t := by
  obtain ⟨l, hl⟩ := hf
  exact ⟨0 :: l, fun t => by show t * f t = _; rw [pev, hl]; grind⟩
theorem Pol.mul {f g : Rat → Rat} (hf : Pol f) (hg : Pol g) : Pol fun t => f t * g t := by
  obtain ⟨l, hl⟩ := hf
  have : ∀ l : List Rat, Pol fun t => pev l t * g t := by
    intro l
    induction l with
    | nil => exact ⟨[], fun t => by simp only [pev]; grind⟩
    | cons a l ih =>
      obtain ⟨m, hm⟩ := (hg.smul a).add ih.x
      exact ⟨m, fun t => by rw [← hm t]; simp only [pev]; grind⟩
  obtain ⟨m, hm⟩ := this l
  exact ⟨m, fun t => by show f t * g t = _; rw [hl]; exact hm t⟩
theorem Pol.sub {f g : Rat → Rat} (hf : Pol f) (hg : Pol g) : Pol fun t => f t - g t := by
  obtain ⟨m, hm⟩ := hf.add (hg.smul (-1))
  exact ⟨m, fun t => by rw [← hm t]; grind⟩
theorem Pol.sum {f : Nat → Rat → Rat} : ∀ n, (∀ i, i < n → Pol (f i)) → Pol fun t => sumR n fun i => f i t
  | 0, _ => ⟨[], fun t => by simp only [sumR, pev]⟩
  | n + 1, h => (Pol.sum n fun i hi => h i (by omega)).add (h n (by omega))
theorem Pol.det {A : Rat → Mx} : ∀ n, (∀ i k, Pol fun t => A t i k) → Pol fun t => det n (A t)
  | 0, _ => Pol.const 1
  | n + 1, h => Pol.sum (n + 1) fun k _ => ((h 0 k).smul (sg k)).mul (Pol.det (A := fun t => mn (A t) k) n fun _ _ => h _ _)
/-- A polynomial less its value at s, divided by t - s. -/
def qd (s : Rat) : List Rat → List Rat
  | [] => []
  | _ :: l => addL l ((qd s l).map (s * ·))
theorem qd_len (s : Rat) : ∀ (l : List Rat), (qd s l).length ≤ l.length - 1
  | [] => by simp [qd]
  | a :: l => by
    rw [qd]
    refine addL_len _ _ _ (by simp) ?_
    rw [List.length_map]; have := qd_len s l; simp; omega
theorem qd_spec (s : Rat) : ∀ (l : List Rat) (t : Rat), pev l t - pev l s = (t - s) * pev (qd s l) t
  | [], t => by simp only [pev, qd]; grind
  | a :: l, t => by
    have := qd_spec s l t
    rw [qd, pev_addL, pev_map]; simp only [pev]; grind
theorem pev_zero : ∀ (d N : Nat) (l : List Rat), l.length ≤ d → (∀ n : Nat, N ≤ n → pev l n = 0) → ∀ t, pev l t = 0
  | 0, _, l, hl, _, t => by
    obtain rfl : l = [] := List.eq_nil_of_length_eq_zero (by omega)
    rfl
  | d + 1, N, l, hl, h, t => by
    have h1 := qd_spec (N : Rat) l
    rw [h N (Nat.le_refl _)] at h1
    have h2 := pev_zero d (N + 1) (qd N l) (by have := qd_len (N : Rat) l; omega) fun n hn => by
      have := h1 n
      rw [h n (by omega)] at this
      have hne : (n : Rat) - N ≠ 0 := by
        intro e
        have : (n : Rat) = N := by grind
        have := Rat.natCast_inj.1 this
        omega
      have h0 : ((n : Rat) - N) * pev (qd N l) n = 0 := by rw [← this]; grind
      rcases Rat.mul_eq_zero.1 h0 with g | g
      · exact absurd g hne
      · exact g
    have := h1 t
    rw [h2 t] at this
    grind
theorem Pol.zero {f : Rat → Rat} (hf : Pol f) (N : Nat) (h : ∀ n : Nat, N ≤ n → f n = 0) (t : Rat) : f t = 0 := by
  obtain ⟨l, hl⟩ := hf
  rw [hl]; exact pev_zero _ N l (Nat.le_refl _) (fun n hn => by rw [← hl]; exact h n hn) t
/-- A polynomial that is zero where another is not, is zero. -/
theorem Pol.dom {f h : Rat → Rat} (hf : Pol f) (hh : Pol h) (h0 : h 0 ≠ 0) (H : ∀ s, h s ≠ 0 → f s = 0) (t : Rat) : f t = 0 := by
  have key : ∀ l : List Rat, (∀ t, pev l t * h t = 0) → ∀ t, pev l t = 0 := by
    intro l
    induction l with
    | nil => intro _ t; rfl
    | cons a l ih =>
      intro hz t
      have h1 := hz 0
      simp only [pev] at h1
      have ha : a = 0 := by
        rcases Rat.mul_eq_zero.1 h1 with g | g
        · grind
        · exact absurd g h0
      have hp : Pol fun t => pev l t * h t := Pol.mul ⟨l, fun _ => rfl⟩ hh
      have h2 := ih fun t => hp.zero 1 (fun n hn => by
        have h3 := hz n
        simp only [pev] at h3
        rw [ha] at h3
        have h4 : (n : Rat) * (pev l n * h n) = 0 := by grind
        rcases Rat.mul_eq_zero.1 h4 with g | g
        · have := Rat.natCast_inj.1 (show (n : Rat) = (0 : Nat) by rw [g]; rfl)
          omega
        · exact g) t
      simp only [pev]; rw [ha, h2 t]; grind
  obtain ⟨l, hl⟩ := hf
  rw [hl]
  refine key l (fun t => ?_) t
  by_cases g : h t = 0
  · rw [g]; grind
  · rw [← hl, H t g]; grind
/-- From a matrix to the identity. -/
def mixI (A : Mx) (s : Rat) : Mx := fun i k => s * A i k + (1 - s) * delta i k
theorem mixI_pol (A : Mx) (i k : Nat) : Pol fun s => mixI A s i k := (Pol.id.mul (Pol.const _)).add (((Pol.const 1).sub Pol.id).mul (Pol.const _))
theorem mixI_one (A : Mx) : mixI A 1 = A := by funext i k; unfold mixI; grind
theorem mixI_zero (A : Mx) : mixI A 0 = delta := by funext i k; unfold mixI; grind
/-- A polynomial identity of a matrix may be shown for those whose leading minor is not zero. -/
theorem generic (s : Nat) (A : Mx) (f : Mx → Rat) (hp : Pol fun t => f (mixI A t)) (h : ∀ B, det s B ≠ 0 → f B = 0) : f A = 0 := by
  have := hp.dom (h := fun t => det s (mixI A t)) (Pol.det s (mixI_pol A)) (by show det s (mixI A 0) ≠ 0; rw [mixI_zero, det_one]; decide) (fun t ht => h _ ht) 1
  rwa [mixI_one] at this
end Go.Proofs.YtkpfineikahgfaaGreatDoor

namespace Go.Proofs.YtkpfineikahgfaaGreatDoor
open Go.Sx
set_option linter.unusedSimpArgs false
set_option linter.unusedVariables false
set_option maxRecDepth 100000
set_option maxHeartbeats 4000000
/-- Multiples of other rows added to a row. -/
theorem Alt.addrows {n : Nat} {F : Mx → Rat} (hF : Alt n F) (A : Mx) {i : Nat} (c : Nat → Rat) (hi : i < n) : ∀ m, m ≤ i → F (setRow A i fun k => A i k + sumR m fun p => c p * A p k) = F A
  | 0, _ => by
    simp only [sumR]
    rw [show (fun k => A i k + 0) = A i from by funext k; grind, setRow_self]
  | m + 1, h => by
    have h1 := hF.addrow (i := i) (j := m) (setRow A i fun k => A i k + sumR m fun p => c p * A p k) (c m) hi (by omega) (by omega)
    rw [setRow_at, setRow_two, setRow_ne _ _ (by omega), Alt.addrows hF A c hi m (by omega)] at h1
    rw [← h1]
    congr 2
    funext k
    simp only [sumR]; grind
/-- The last row has one element. -/
theorem det_last {n : Nat} {A : Mx} (h : ∀ k, k < n → A n k = 0) : det (n + 1) A = A n n * det n A := by
  rw [laplace n A (r := n) (by omega), sum_one (j := n) (n + 1) (by omega) fun k hk hne => by rw [h k (by omega)]; grind, sg_add, sg_sq]
  rw [det_congr (A := mnr A n n) (B := A) fun i j hi hj => by unfold mnr; rw [sk_le hi, sk_le hj]]
  grind
/-- The last row has two elements. -/
theorem det_last2 {n : Nat} {A : Mx} (h : ∀ k, k < n → A (n + 1) k = 0) : det (n + 2) A = A (n + 1) (n + 1) * det (n + 1) A - A (n + 1) n * det (n + 1) (fun i j => A i (if j < n then j else n + 1)) := by
  rw [laplace (n + 1) A (r := n + 1) (by omega), sumR, sumR, sum_zeros fun k hk => by rw [h k hk]; grind]
  rw [det_congr (A := mnr A (n + 1) n) (B := fun i j => A i (if j < n then j else n + 1)) fun i j hi hj => by
    unfold mnr; rw [sk_le hi]
    by_cases g : j < n
    · rw [sk_le g, if_pos g]
    · rw [sk_ge (by omega), if_neg g, show j = n by omega]]
  rw [det_congr (A := mnr A (n + 1) (n + 1)) (B := A) fun i j hi hj => by unfold mnr; rw [sk_le hi, sk_le hj]]
  rw [show n + 1 + n = (n + n) + 1 by omega, sg, sg_add, sg_sq, sg_add, sg_sq]
  grind
/-- The place of a bordered minor's index. -/
def at1 (s i a : Nat) : Nat := if a < s then a else s + i
def bm (s : Nat) (A : Mx) (i k : Nat) : Rat := det (s + 1) fun a b => A (at1 s i a) (at1 s k b)
theorem bm_tr (s : Nat) (A : Mx) (i k : Nat) : bm s (tr A) i k = bm s A k i := by
  unfold bm; rw [← det_turn]; rfl
theorem bm_zero (A : Mx) (i k : Nat) : bm 0 A i k = A i k := by
  unfold bm at1
  rw [det_succ, sumR, sumR, det, sg]
  simp only [Nat.not_lt_zero, if_false, Nat.zero_add]; grind
theorem bm_first (s : Nat) (A : Mx) : bm s A 0 0 = det (s + 1) A := det_congr fun a b ha hb => by
  have e : ∀ x, x < s + 1 → at1 s 0 x = x := fun x hx => by unfold at1; split <;> omega
  rw [e a ha, e b hb]
section
variable {s : Nat} {A : Mx} (hd : det s A ≠ 0)
include hd
/-- What of the rows on top is taken from row s + i. -/
def xs (s : Nat) (A : Mx) (r : Nat → Rat) (p : Nat) : Rat := sumR s fun q => r q * (adj s A q p * (det s A)⁻¹)
theorem xs_mul (r : Nat → Rat) {b : Nat} (hb : b < s) : sumR s (fun p => xs s A r p * A p b) = r b := by
  have e1 : sumR s (fun p => xs s A r p * A p b) = sumR s fun p => sumR s fun q => r q * (adj s A q p * (det s A)⁻¹) * A p b :=
    sum_congr s fun p _ => by rw [xs, sum_mulR]
  have e2 : ∀ q, q < s → sumR s (fun p => r q * (adj s A q p * (det s A)⁻¹) * A p b) = r q * delta q b := fun q hq => by
    have h1 := adj_mul A hq hb
    unfold pr at h1
    rw [sum_congr s (g := fun p => (r q * (det s A)⁻¹) * (adj s A q p * A p b)) fun p _ => by grind, ← sum_mulL, h1, delta]
    split
    · have := Rat.mul_inv_cancel _ hd; grind
    · grind
  rw [e1, sum_swap, sum_congr s e2, sum_deltaR, if_pos hb]
/-- The Schur complement. -/
def sch (s : Nat) (A : Mx) (i k : Nat) : Rat := A (s + i) (s + k) - sumR s fun p => xs s A (A (s + i)) p * A p (s + k)
theorem bm_sch (i k : Nat) : bm s A i k = det s A * sch s A i k := by
  have h := (det_Alt (s + 1)).addrows (fun a b => A (at1 s i a) (at1 s k b)) (i := s) (fun p => - xs s A (A (s + i)) p) (by omega) s (Nat.le_refl _)
  rw [bm, ← h]
  have e : ∀ b, (A (at1 s i s) (at1 s k b) + sumR s fun p => - xs s A (A (s + i)) p * A (at1 s i p) (at1 s k b)) = A (s + i) (at1 s k b) - sumR s fun p => xs s A (A (s + i)) p * A p (at1 s k b) := fun b => by
    rw [at1, if_neg (by omega), sum_congr s (g := fun p => (-1) * (xs s A (A (s + i)) p * A p (at1 s k b))) fun p hp => by rw [at1, if_pos hp]; grind, ← sum_mulL]
    grind
  rw [det_last fun b hb => by rw [setRow_at, e]; rw [show at1 s k b = b from if_pos hb, xs_mul hd _ hb]; grind]
  rw [setRow_at, e, show at1 s k s = s + k from if_neg (by omega), det_congr (A := setRow _ s _) (B := A) fun a b ha hb => by
    rw [setRow_ne _ _ (by omega), show at1 s i a = a from if_pos ha, show at1 s k b = b from if_pos hb]]
  unfold sch; grind
theorem bm_sch2 (i k : Nat) : bm (s + 1) A i k = det s A * (sch s A 0 0 * sch s A (i + 1) (k + 1) - sch s A (i + 1) 0 * sch s A 0 (k + 1)) := by
  have h := (det_Alt (s + 2)).addrows (fun a b => A (at1 (s + 1) i a) (at1 (s + 1) k b)) (i := s + 1) (fun p => - xs s A (A (s + (i + 1))) p) (by omega) s (by omega)
  rw [bm, ← h]
  have ea : ∀ p, p < s → at1 (s + 1) i p = p := fun p hp => if_pos (by omega)
  have e : ∀ b, (A (at1 (s + 1) i (s + 1)) (at1 (s + 1) k b) + sumR s fun p => - xs s A (A (s + (i + 1))) p * A (at1 (s + 1) i p) (at1 (s + 1) k b)) = A (s + (i + 1)) (at1 (s + 1) k b) - sumR s fun p => xs s A (A (s + (i + 1))) p * A p (at1 (s + 1) k b) := fun b => by
    rw [show at1 (s + 1) i (s + 1) = s + (i + 1) from by unfold at1; rw [if_neg (by omega)]; omega, sum_congr s (g := fun p => (-1) * (xs s A (A (s + (i + 1))) p * A p (at1 (s + 1) k b))) fun p hp => by rw [ea p hp]; grind, ← sum_mulL]
    grind
  rw [det_last2 fun b hb => by rw [setRow_at, e, show at1 (s + 1) k b = b from if_pos (by omega), xs_mul hd _ hb]; grind]
  have e1 : det (s + 1) (setRow (fun a b => A (at1 (s + 1) i a) (at1 (s + 1) k b)) (s + 1) fun b => A (at1 (s + 1) i (s + 1)) (at1 (s + 1) k b) + sumR s fun p => - xs s A (A (s + (i + 1))) p * A (at1 (s + 1) i p) (at1 (s + 1) k b)) = bm s A 0 0 := by
    rw [bm_first]
    exact det_congr fun a b ha hb => by rw [setRow_ne _ _ (by omega), show at1 (s + 1) i a = a from if_pos (by omega), show at1 (s + 1) k b = b from if_pos (by omega)]
  have e2 : det (s + 1) (fun a b => setRow (fun a b => A (at1 (s + 1) i a) (at1 (s + 1) k b)) (s + 1) (fun b => A (at1 (s + 1) i (s + 1)) (at1 (s + 1) k b) + sumR s fun p => - xs s A (A (s + (i + 1))) p * A (at1 (s + 1) i p) (at1 (s + 1) k b)) a (if b < s then b else s + 1)) = bm s A 0 (k + 1) := by
    refine det_congr fun a b ha hb => ?_
    show setRow _ (s + 1) _ a (if b < s then b else s + 1) = _
    rw [setRow_ne _ _ (by omega)]
    show A (at1 (s + 1) i a) (at1 (s + 1) k (if b < s then b else s + 1)) = A (at1 s 0 a) (at1 s (k + 1) b)
    rw [show at1 (s + 1) i a = a from if_pos (by omega), show at1 s 0 a = a from by unfold at1; split <;> omega]
    congr 1
    unfold at1
    by_cases g : b < s
    · rw [if_pos g, if_pos (by omega), if_pos g]
    · rw [if_neg g, if_neg (by omega), if_neg g]; omega
  rw [e1, e2, setRow_at, e, e, show at1 (s + 1) k (s + 1) = s + (k + 1) from by unfold at1; rw [if_neg (by omega)]; omega, show at1 (s + 1) k s = s + 0 from if_pos (by omega), bm_sch hd, bm_sch hd]
  have f1 : (A (s + (i + 1)) (s + (k + 1)) - sumR s fun p => xs s A (A (s + (i + 1))) p * A p (s + (k + 1))) = sch s A (i + 1) (k + 1) := rfl
  have f2 : (A (s + (i + 1)) (s + 0) - sumR s fun p => xs s A (A (s + (i + 1))) p * A p (s + 0)) = sch s A (i + 1) 0 := rfl
  rw [f1, f2]; grind
end
/-- The recurrence of Bareiss: of Desnanot and Jacobi. -/
theorem bm_step (s : Nat) (A : Mx) (i k : Nat) : bm s A 0 0 * bm s A (i + 1) (k + 1) - bm s A (i + 1) 0 * bm s A 0 (k + 1) = det s A * bm (s + 1) A i k := by
  have hb : ∀ s i k, Pol fun t => bm s (mixI A t) i k := fun s i k => Pol.det (s + 1) fun a b => mixI_pol A _ _
  have := generic s A (fun A => bm s A 0 0 * bm s A (i + 1) (k + 1) - bm s A (i + 1) 0 * bm s A 0 (k + 1) - det s A * bm (s + 1) A i k)
    ((((hb _ _ _).mul (hb _ _ _)).sub ((hb _ _ _).mul (hb _ _ _))).sub ((Pol.det s (mixI_pol A)).mul (hb _ _ _))) fun B hB => by
      rw [bm_sch hB, bm_sch hB, bm_sch hB, bm_sch hB, bm_sch2 hB]; grind
  grind
/-- No pivot in the column: the determinant is zero. -/
theorem bm_sing {s n : Nat} {A : Mx} (hd : det s A ≠ 0) (hs : s < n) (h : ∀ i, s + i < n → bm s A i 0 = 0) : det n A = 0 := by
  have hd' : det s (tr A) ≠ 0 := by rwa [det_turn]
  rw [← det_turn, ← (det_Alt n).addrows (tr A) (i := s) (fun p => - xs s (tr A) (tr A s) p) hs s (Nat.le_refl _)]
  have e : ∀ b, b < n → (fun k => tr A s k + sumR s fun p => - xs s (tr A) (tr A s) p * tr A p k) b = (fun _ => 0) b := fun b hb => by
    show tr A s b + (sumR s fun p => - xs s (tr A) (tr A s) p * tr A p b) = 0
    rw [sum_congr s (g := fun p => (-1) * (xs s (tr A) (tr A s) p * tr A p b)) fun p _ => by grind, ← sum_mulL]
    by_cases g : b < s
    · rw [xs_mul hd' _ g]; grind
    · have h1 := h (b - s) (by omega)
      rw [← bm_tr, bm_sch hd'] at h1
      have h2 : sch s (tr A) 0 (b - s) = 0 := by
        rcases Rat.mul_eq_zero.1 h1 with g | g
        · exact absurd g hd'
        · exact g
      unfold sch at h2
      rw [Nat.add_zero, show s + (b - s) = b by omega] at h2
      grind
  rw [(det_Alt n).congr (setRow (tr A) s fun k => tr A s k + sumR s fun p => - xs s (tr A) (tr A s) p * tr A p k) (setRow (tr A) s fun _ => 0) fun i k _ hk => by
    by_cases g : i = s
    · subst g; rw [setRow_at, setRow_at]; exact e k hk
    · rw [setRow_ne _ _ g, setRow_ne _ _ g], (det_Alt n).zero _ hs]

theorem pr_assoc (n : Nat) (A B C : Mx) (i k : Nat) : pr n (pr n A B) C i k = pr n A (pr n B C) i k := by
  unfold pr
  rw [sum_congr n (f := fun p => (sumR n fun q => A i q * B q p) * C p k) (g := fun p => sumR n fun q => A i q * B q p * C p k) fun p _ => sum_mulR _ n, sum_swap]
  exact sum_congr n fun q _ => by rw [sum_mulL]; exact sum_congr n fun p _ => by grind
theorem adj_mul_of {n : Nat} {A B : Mx} (hA : det n A ≠ 0) (hB : det n B ≠ 0) {i k : Nat} (hi : i < n) (hk : k < n) : adj n (pr n A B) i k = pr n (adj n B) (adj n A) i k := by
  -- both, times a b, are the determinant times the identity
  have hP : det n (pr n A B) ≠ 0 := by rw [det_mul]; intro h; rcases Rat.mul_eq_zero.1 h with g | g; exact hA g; exact hB g
  have congrL : ∀ {X Y Z : Mx} {i k}, (∀ p, p < n → X i p = Y i p) → pr n X Z i k = pr n Y Z i k := fun h => sum_congr n fun p hp => by rw [h p hp]
  have congrR : ∀ {X Y Z : Mx} {i k}, (∀ p, p < n → X p k = Y p k) → pr n Z X i k = pr n Z Y i k := fun h => sum_congr n fun p hp => by rw [h p hp]
  -- x = adj B adj A satisfies x (A B) = d I
  have h1 : ∀ {i p}, i < n → p < n → pr n (pr n (adj n B) (adj n A)) (pr n A B) i p = if i = p then det n A * det n B else 0 := by
    intro i p hi hp
    rw [pr_assoc, congrR (Y := fun q k => det n A * B q k) fun q hq => by
      rw [← pr_assoc]
      show sumR n (fun r => pr n (adj n A) A q r * B r p) = _
      rw [sum_congr n (g := fun r => det n A * (delta q r * B r p)) fun r hr => by rw [adj_mul A hq hr, delta]; split <;> grind, ← sum_mulL, sum_deltaL, if_pos hq]]
    show sumR n (fun q => adj n B i q * (det n A * B q p)) = _
    rw [sum_congr n (g := fun q => det n A * (adj n B i q * B q p)) fun q _ => by grind, ← sum_mulL]
    have := adj_mul B hi hp
    unfold pr at this
    rw [this]; split <;> grind
  have h2 : pr n (pr n (pr n (adj n B) (adj n A)) (pr n A B)) (adj n (pr n A B)) i k = det n A * det n B * adj n (pr n A B) i k := by
    show sumR n (fun p => pr n (pr n (adj n B) (adj n A)) (pr n A B) i p * adj n (pr n A B) p k) = _
    rw [sum_congr n (g := fun p => det n A * det n B * (delta i p * adj n (pr n A B) p k)) fun p hp => by rw [h1 hi hp, delta]; split <;> grind, ← sum_mulL, sum_deltaL, if_pos hi]
  rw [pr_assoc] at h2
  have h3 : pr n (pr n (adj n B) (adj n A)) (pr n (pr n A B) (adj n (pr n A B))) i k = det n (pr n A B) * pr n (adj n B) (adj n A) i k := by
    show sumR n (fun p => pr n (adj n B) (adj n A) i p * pr n (pr n A B) (adj n (pr n A B)) p k) = _
    rw [sum_congr n (g := fun p => det n (pr n A B) * (pr n (adj n B) (adj n A) i p * delta p k)) fun p hp => by rw [mul_adj _ hp hk, delta]; split <;> grind, ← sum_mulL, sum_deltaR, if_pos hk]
  rw [h3, det_mul] at h2
  have hne : det n A * det n B ≠ 0 := by rwa [det_mul] at hP
  have h4 : det n A * det n B * (adj n (pr n A B) i k - pr n (adj n B) (adj n A) i k) = 0 := by grind
  rcases Rat.mul_eq_zero.1 h4 with g | g
  · exact absurd g hne
  · grind
theorem Pol.adj {A : Rat → Mx} (n : Nat) (h : ∀ i k, Pol fun t => A t i k) (i k : Nat) : Pol fun t => adj n (A t) i k := (Pol.det (A := fun t => mnr (A t) k i) (n - 1) fun _ _ => h _ _).smul (sg (i + k))
theorem adj_pr {n : Nat} (A B : Mx) {i k : Nat} (hi : i < n) (hk : k < n) : adj n (pr n A B) i k = pr n (adj n B) (adj n A) i k := by
  have hpr : ∀ {X Y : Rat → Mx}, (∀ i k, Pol fun t => X t i k) → (∀ i k, Pol fun t => Y t i k) → ∀ i k, Pol fun t => pr n (X t) (Y t) i k := fun hX hY i k => Pol.sum n fun p _ => (hX _ _).mul (hY _ _)
  have h1 : ∀ A B, det n A ≠ 0 → adj n (pr n A B) i k - pr n (adj n B) (adj n A) i k = 0 := fun A B hA =>
    generic n B (fun B => adj n (pr n A B) i k - pr n (adj n B) (adj n A) i k)
      ((Pol.adj n (fun i k => hpr (X := fun _ => A) (fun i k => Pol.const (A i k)) (mixI_pol B) i k) i k).sub (hpr (Y := fun _ => adj n A) (fun i k => Pol.adj n (mixI_pol B) i k) (fun i k => Pol.const (adj n A i k)) i k))
      fun B' hB => by rw [adj_mul_of hA hB hi hk]; grind
  have := generic n A (fun A => adj n (pr n A B) i k - pr n (adj n B) (adj n A) i k)
      ((Pol.adj n (fun i k => hpr (Y := fun _ => B) (mixI_pol A) (fun i k => Pol.const (B i k)) i k) i k).sub (hpr (X := fun _ => adj n B) (fun i k => Pol.const (adj n B i k)) (fun i k => Pol.adj n (mixI_pol A) i k) i k))
      fun A' hA => h1 A' B hA
  grind
end Go.Proofs.YtkpfineikahgfaaGreatDoor

namespace Go.Proofs.YtkpfineikahgfaaGreatDoor
open Go.Sx
set_option linter.unusedSimpArgs false
set_option linter.unusedVariables false
set_option maxRecDepth 100000
set_option maxHeartbeats 4000000
/-- How many of the numbers are greater. -/
def turns (l : List Nat) (k : Nat) : Nat := l.countP fun u => decide (k < u)
theorem turns_snoc (l : List Nat) (u k : Nat) : turns (l ++ [u]) k = turns l k + if k < u then 1 else 0 := by
  simp [turns, List.countP_append, List.countP_cons]
def picksR (n : Nat) (A : Mx) : Nat → Nat → List Nat → Rat
  | 0, _, _ => 1
  | m + 1, i, l => sumR n fun k => if k ∈ l then 0 else sg (turns l k) * A i k * picksR n A m (i + 1) (l ++ [k])
theorem picks_perm (n : Nat) (A : Mx) : ∀ (m i : Nat) (l l' : List Nat), (∀ k, k ∈ l ↔ k ∈ l') → (∀ k, turns l k = turns l' k) → picksR n A m i l = picksR n A m i l'
  | 0, _, _, _, _, _ => rfl
  | m + 1, i, l, l', h1, h2 => sum_congr n fun k _ => by
    by_cases h : k ∈ l
    · rw [if_pos h, if_pos ((h1 k).1 h)]
    · rw [if_neg h, if_neg fun g => h ((h1 k).2 g), h2, picks_perm n A m (i + 1) (l ++ [k]) (l' ++ [k]) (fun q => by simp [h1 q]) (fun q => by rw [turns_snoc, turns_snoc, h2])]
theorem picks_congr (n : Nat) {A B : Mx} : ∀ (m i : Nat) (l : List Nat), (∀ a k, i ≤ a → a < i + m → k < n → A a k = B a k) → picksR n A m i l = picksR n B m i l
  | 0, _, _, _ => rfl
  | m + 1, i, l, h => sum_congr n fun k hk => by
    rw [picks_congr n m (i + 1) (l ++ [k]) fun a k ha hb hk => h a k (by omega) (by omega) hk, h i k (by omega) (by omega) hk]
theorem picks_lin (n : Nat) (A : Mx) (r : Nat) (x : Nat → Rat) (c : Rat) (y : Nat → Rat) : ∀ (m i : Nat) (l : List Nat), i ≤ r → r < i + m →
    picksR n (setRow A r fun k => x k + c * y k) m i l = picksR n (setRow A r x) m i l + c * picksR n (setRow A r y) m i l
  | 0, _, _, h1, h2 => by omega
  | m + 1, i, l, h1, h2 => by
    rw [picksR, picksR, picksR, sum_mulL, ← sum_add]
    refine sum_congr n fun k _ => ?_
    by_cases hk : k ∈ l
    · rw [if_pos hk, if_pos hk, if_pos hk]; grind
    · rw [if_neg hk, if_neg hk, if_neg hk]
      by_cases e : i = r
      · subst e
        have e1 : ∀ z, picksR n (setRow A i z) m (i + 1) (l ++ [k]) = picksR n A m (i + 1) (l ++ [k]) := fun z => picks_congr n m (i + 1) _ fun a q ha _ _ => by rw [setRow_ne _ _ (by omega)]
        rw [e1, e1, e1, setRow_at, setRow_at, setRow_at]; grind
      · rw [setRow_ne _ _ e, setRow_ne _ _ e, setRow_ne _ _ e, picks_lin n A r x c y m (i + 1) _ (by omega) (by omega)]; grind
theorem sum_asym (n : Nat) (T : Nat → Nat → Rat) (h : ∀ k l, k < n → l < n → T k l = - T l k) : sumR n (fun k => sumR n (T k)) = 0 := by
  have h1 : sumR n (fun k => sumR n (T k)) = sumR n fun k => sumR n fun l => (-1) * T l k :=
    sum_congr n fun k hk => sum_congr n fun l hl => by rw [h k l hk hl]; grind
  have h2 : (sumR n fun k => sumR n fun l => (-1) * T l k) = sumR n fun k => (-1) * sumR n fun l => T l k :=
    sum_congr n fun k _ => (sum_mulL _ _).symm
  have h3 : (sumR n fun k => (-1) * sumR n fun l => T l k) = (-1) * sumR n (fun k => sumR n (T k)) := by
    rw [← sum_mulL, ← sum_swap]
  rw [h2, h3] at h1
  grind
theorem picks_alt (n : Nat) (A : Mx) (r : Nat) (h : ∀ k, k < n → A r k = A (r + 1) k) : ∀ (m i : Nat) (l : List Nat), i ≤ r → r + 1 < i + m → picksR n A m i l = 0
  | 0, _, _, h1, h2 => by omega
  | 1, _, _, h1, h2 => by omega
  | m + 2, i, l, h1, h2 => by
    by_cases e : i = r
    · subst e
      rw [picksR]
      refine Eq.trans ?_ (sum_asym n (fun k q => if k ∈ l then 0 else if q ∈ l ++ [k] then 0 else sg (turns l k) * A i k * (sg (turns (l ++ [k]) q) * A (i + 1) q * picksR n A m (i + 1 + 1) (l ++ [k] ++ [q]))) ?_)
      · refine sum_congr n fun k _ => ?_
        by_cases hk : k ∈ l
        · rw [if_pos hk, sum_zeros fun q _ => if_pos hk]
        · rw [if_neg hk, picksR, sum_mulL]
          refine sum_congr n fun q _ => ?_
          rw [if_neg hk]
          by_cases hq : q ∈ l ++ [k]
          · rw [if_pos hq, if_pos hq]; grind
          · rw [if_neg hq, if_neg hq]
      · intro k q hk hq
        by_cases h1 : k ∈ l
        · rw [if_pos h1]
          by_cases h2 : q ∈ l
          · rw [if_pos h2]; grind
          · rw [if_neg h2, if_pos (by simp [h1])]; grind
        · rw [if_neg h1]
          by_cases h2 : q ∈ l
          · rw [if_pos (by simp [h2]), if_pos h2]; grind
          · rw [if_neg h2]
            by_cases h3 : q = k
            · subst h3; rw [if_pos (by simp)]; grind
            · rw [if_neg (by simp [h2, h3]), if_neg (by simp [h1]; exact fun g => h3 g.symm)]
              rw [picks_perm n A m (i + 1 + 1) (l ++ [k] ++ [q]) (l ++ [q] ++ [k]) (fun p => by simp; grind) (fun p => by rw [turns_snoc, turns_snoc, turns_snoc, turns_snoc]; omega)]
              rw [turns_snoc, turns_snoc, h k hk, ← h q hq]
              rcases Nat.lt_or_gt_of_ne h3 with g | g
              · rw [if_pos g, if_neg (by omega), sg]; grind
              · rw [if_neg (by omega), if_pos g]; simp only [sg, Nat.add_zero]; grind
    · rw [picksR]
      refine sum_zeros fun k _ => ?_
      by_cases hk : k ∈ l
      · rw [if_pos hk]
      · rw [if_neg hk, picks_alt n A r h (m + 1) (i + 1) _ (by omega) (by omega)]; grind
theorem picks_one (n : Nat) : ∀ (m i : Nat), i + m = n → picksR n delta m i (List.range i) = 1
  | 0, _, _ => rfl
  | m + 1, i, h => by
    rw [picksR, sum_one (j := i) n (by omega) fun k _ hne => by
      split
      · rfl
      · rw [delta, if_neg (fun g => hne g.symm)]; grind]
    rw [if_neg (by simp), ← List.range_succ, picks_one n m (i + 1) (by omega), delta, if_pos rfl]
    have : turns (List.range i) i = 0 := by
      rw [turns, List.countP_eq_zero]; intro u hu; have := List.mem_range.1 hu; simp; omega
    rw [this, sg]; grind
/-- The sum over permutations is the determinant. -/
theorem picks_det (n : Nat) (A : Mx) : picksR n A n 0 [] = det n A := by
  have h : Alt n fun A => picksR n A n 0 [] := {
    congr := fun A B h => picks_congr n n 0 [] fun a k _ ha hk => h a k (by omega) hk
    lin := fun A i x c y hi => picks_lin n A i x c y n 0 [] (by omega) (by omega)
    alt := fun A i hi h => picks_alt n A i h n 0 [] (by omega) (by omega) }
  rw [alt_unique n _ h A]
  show picksR n delta n 0 (List.range 0) * _ = _
  rw [picks_one n n 0 (by omega)]; grind

/-- A number of at most some size. -/
def Bd (x b : Rat) : Prop := -b ≤ x ∧ x ≤ b
theorem Bd.nonneg {x b : Rat} (h : Bd x b) : 0 ≤ b := by obtain ⟨h1, h2⟩ := h; grind
theorem Bd.add {x y a b : Rat} (h : Bd x a) (k : Bd y b) : Bd (x + y) (a + b) := by
  obtain ⟨h1, h2⟩ := h; obtain ⟨k1, k2⟩ := k; constructor <;> grind
theorem Bd.neg {x a : Rat} (h : Bd x a) : Bd (-x) a := by obtain ⟨h1, h2⟩ := h; constructor <;> grind
theorem Bd.mono {x a b : Rat} (h : Bd x a) (hb : a ≤ b) : Bd x b := by obtain ⟨h1, h2⟩ := h; constructor <;> grind
theorem Bd.mul {x y a b : Rat} (h : Bd x a) (k : Bd y b) : Bd (x * y) (a * b) := by
  have ha := h.nonneg; have hb := k.nonneg
  obtain ⟨h1, h2⟩ := h; obtain ⟨k1, k2⟩ := k
  have p1 := Rat.mul_nonneg (show 0 ≤ a - x by grind) (show 0 ≤ b + y by grind)
  have p2 := Rat.mul_nonneg (show 0 ≤ a + x by grind) (show 0 ≤ b - y by grind)
  have p3 := Rat.mul_nonneg (show 0 ≤ a - x by grind) (show 0 ≤ b - y by grind)
  have p4 := Rat.mul_nonneg (show 0 ≤ a + x by grind) (show 0 ≤ b + y by grind)
  constructor <;> grind
theorem Bd.sg {x a : Rat} (h : Bd x a) : ∀ n, Bd (sg n * x) a
  | 0 => by rw [Go.Proofs.YtkpfineikahgfaaGreatDoor.sg, show (1 : Rat) * x = x by grind]; exact h
  | n + 1 => by rw [Go.Proofs.YtkpfineikahgfaaGreatDoor.sg, show - Go.Proofs.YtkpfineikahgfaaGreatDoor.sg n * x = - (Go.Proofs.YtkpfineikahgfaaGreatDoor.sg n * x) by grind]; exact (Bd.sg h n).neg
theorem Bd.sum {f r : Nat → Rat} : ∀ n, (∀ i, i < n → Bd (f i) (r i)) → Bd (sumR n f) (sumR n r)
  | 0, _ => (show Bd 0 0 from ⟨by decide, by decide⟩)
  | n + 1, h => (Bd.sum n fun i hi => h i (by omega)).add (h n (by omega))
end Go.Proofs.YtkpfineikahgfaaGreatDoor

namespace Go.Proofs.YtkpfineikahgfaaGreatDoor
open Go.Sx
set_option linter.unusedSimpArgs false
set_option linter.unusedVariables false
set_option maxRecDepth 100000
set_option maxHeartbeats 4000000
abbrev Mz := Nat → Nat → Int
/-- A matrix of integers as one of fractions. -/
def toR (A : Mz) : Mx := fun i k => (A i k : Rat)
def sumZ : Nat → (Nat → Int) → Int
  | 0, _ => 0
  | n + 1, f => sumZ n f + f n
theorem sumZ_cast (f : Nat → Int) : ∀ n, ((sumZ n f : Int) : Rat) = sumR n fun i => (f i : Rat)
  | 0 => by simp [sumZ, sumR]
  | n + 1 => by rw [sumZ, sumR, Rat.intCast_add, sumZ_cast f n]
def sgZ : Nat → Int
  | 0 => 1
  | n + 1 => - sgZ n
theorem sgZ_cast : ∀ n, ((sgZ n : Int) : Rat) = sg n
  | 0 => by simp [sgZ, sg]
  | n + 1 => by rw [sgZ, sg, Rat.intCast_neg, sgZ_cast n]
theorem sgZ_mod : ∀ n, sgZ n = if n % 2 = 1 then -1 else 1
  | 0 => rfl
  | n + 1 => by
    rw [sgZ, sgZ_mod n]
    by_cases h : n % 2 = 1
    · rw [if_pos h, if_neg (by omega)]; rfl
    · rw [if_neg h, if_pos (by omega)]
/-- The determinant of integers. -/
def detZ : Nat → Mz → Int
  | 0, _ => 1
  | n + 1, A => sumZ (n + 1) fun k => sgZ k * A 0 k * detZ n fun i j => A (i + 1) (sk k j)
theorem detZ_cast : ∀ (n : Nat) (A : Mz), ((detZ n A : Int) : Rat) = det n (toR A)
  | 0, _ => by simp [detZ, det]
  | n + 1, A => by
    rw [detZ, det_succ, sumZ_cast]
    refine sum_congr _ fun k _ => ?_
    rw [Rat.intCast_mul, Rat.intCast_mul, sgZ_cast, detZ_cast n]; rfl
theorem cast_inj {a b : Int} (h : (a : Rat) = (b : Rat)) : a = b := Rat.intCast_inj.1 h
theorem detZ_congr {n : Nat} {A B : Mz} (h : ∀ i k, i < n → k < n → A i k = B i k) : detZ n A = detZ n B := by
  apply cast_inj
  rw [detZ_cast, detZ_cast]
  exact det_congr fun i k hi hk => by unfold toR; rw [h i k hi hk]
/-- A bordered minor of integers. -/
def bmZ (s : Nat) (A : Mz) (i k : Nat) : Int := detZ (s + 1) fun a b => A (at1 s i a) (at1 s k b)
theorem bmZ_cast (s : Nat) (A : Mz) (i k : Nat) : ((bmZ s A i k : Int) : Rat) = bm s (toR A) i k := detZ_cast _ _
theorem bmZ_zero (A : Mz) (i k : Nat) : bmZ 0 A i k = A i k := by
  apply cast_inj; rw [bmZ_cast, bm_zero]; rfl
theorem bmZ_first (s : Nat) (A : Mz) : bmZ s A 0 0 = detZ (s + 1) A := by
  apply cast_inj; rw [bmZ_cast, bm_first, detZ_cast]
/-- The recurrence. -/
theorem bmZ_step (s : Nat) (A : Mz) (i k : Nat) : bmZ s A 0 0 * bmZ s A (i + 1) (k + 1) - bmZ s A (i + 1) 0 * bmZ s A 0 (k + 1) = detZ s A * bmZ (s + 1) A i k := by
  apply cast_inj
  have := bm_step s (toR A) i k
  simp only [Rat.intCast_sub, Rat.intCast_mul, bmZ_cast, detZ_cast]; exact this
theorem bmZ_div {s : Nat} {A : Mz} (h : detZ s A ≠ 0) (i k : Nat) : (bmZ s A 0 0 * bmZ s A (i + 1) (k + 1) - bmZ s A (i + 1) 0 * bmZ s A 0 (k + 1)) / detZ s A = bmZ (s + 1) A i k := by
  rw [bmZ_step, Int.mul_ediv_cancel_left _ h]
theorem bmZ_sing {s n : Nat} {A : Mz} (hd : detZ s A ≠ 0) (hs : s < n) (h : ∀ i, s + i < n → bmZ s A i 0 = 0) : detZ n A = 0 := by
  apply cast_inj
  rw [detZ_cast]
  refine bm_sing (s := s) ?_ hs fun i hi => ?_
  · rw [← detZ_cast]; intro g; exact hd (cast_inj g)
  · rw [← bmZ_cast, h i hi]; rfl
def swapZ (A : Mz) (i j : Nat) : Mz := fun p => if p = i then A j else if p = j then A i else A p
theorem swapZ_cast (A : Mz) (i j : Nat) : toR (swapZ A i j) = swapRow (toR A) i j := by
  funext p q
  unfold toR swapZ swapRow
  by_cases h : p = i
  · rw [if_pos h, if_pos h]
  · rw [if_neg h, if_neg h]
    by_cases h2 : p = j
    · rw [if_pos h2, if_pos h2]
    · rw [if_neg h2, if_neg h2]
theorem swapZ_self (A : Mz) (i : Nat) : swapZ A i i = A := by
  funext p; unfold swapZ
  by_cases h : p = i
  · rw [if_pos h, h]
  · rw [if_neg h, if_neg h]
theorem detZ_swap {n : Nat} (A : Mz) {i j : Nat} (hi : i < n) (hj : j < n) (hne : i ≠ j) : detZ n (swapZ A i j) = - detZ n A := by
  apply cast_inj
  rw [detZ_cast, swapZ_cast, (det_Alt n).swap _ hi hj hne, Rat.intCast_neg, detZ_cast]
/-- A row below is brought to the top of the stage. -/
theorem bmZ_swap (s : Nat) (A : Mz) (j p q : Nat) : bmZ s (swapZ A s (s + j)) p q = swapZ (bmZ s A) 0 j p q := by
  have e : ∀ p r, (∀ a, a < s + 1 → swapZ A s (s + j) (at1 s p a) = A (at1 s r a)) → bmZ s (swapZ A s (s + j)) p q = bmZ s A r q := fun p r h => detZ_congr fun a b ha _ => by rw [h a ha]
  unfold swapZ at e ⊢
  by_cases h : p = 0
  · subst h
    rw [if_pos rfl]
    refine e 0 j fun a ha => ?_
    unfold at1
    by_cases g : a < s
    · rw [if_pos g, if_pos g, if_neg (by omega), if_neg (by omega)]
    · rw [if_neg g, if_neg g, if_pos (Nat.add_zero s)]
  · rw [if_neg h]
    by_cases h2 : p = j
    · subst h2
      rw [if_pos rfl]
      refine e p 0 fun a ha => ?_
      unfold at1
      by_cases g : a < s
      · rw [if_pos g, if_pos g, if_neg (by omega), if_neg (by omega)]
      · rw [if_neg g, if_neg g, if_neg (by omega), if_pos rfl, Nat.add_zero]
    · rw [if_neg h2]
      refine e p p fun a ha => ?_
      unfold at1
      by_cases g : a < s
      · rw [if_pos g, if_neg (by omega), if_neg (by omega)]
      · rw [if_neg g, if_neg (by omega), if_neg (by omega)]
theorem detZ_swap_lead (s : Nat) (A : Mz) (j : Nat) : detZ s (swapZ A s (s + j)) = detZ s A := detZ_congr fun i k hi _ => by
  unfold swapZ; rw [if_neg (by omega), if_neg (by omega)]
end Go.Proofs.YtkpfineikahgfaaGreatDoor

namespace Go.Proofs.YtkpfineikahgfaaGreatDoor
open Go.Sx
set_option linter.unusedSimpArgs false
set_option linter.unusedVariables false
set_option maxRecDepth 100000
set_option maxHeartbeats 4000000

end Go.Proofs.YtkpfineikahgfaaGreatDoor

namespace Go.Proofs.YtkpfineikahgfaaGreatDoor
open Go.Sx
set_option linter.unusedSimpArgs false
set_option linter.unusedVariables false
section
open Go.Shelf Go.RowKit Go.Sort Go.Lib

set_option maxHeartbeats 6400000 in
set_option maxRecDepth 100000 in
/-- internal/strconv.FormatUint at base 10, from 100 on. -/
theorem fmt_big (u : Nat) (hu : 100 ≤ u) (hu64 : u < 18446744073709551616) (w : World) (htab : Lib.TabIs Tryz.prog w "internal/strconv.uint64pow10" .u64 Lib.pow10Tab) :
    Calls Tryz.prog 263 #[.int .u64 u, .int .i64 10] w fun e w' => e = .returned (.string ⟨(Lib.decDigits u).toArray⟩) ∧ ∃ k os, w' = grow (w.drewN k) os := by
  have mixed : Tryz.prog.follows .mixedOrders = true := by kernel_rfl
  have t3 := Tryz.underlying3; have a3 := Tryz.isAgg3; have z3 := Tryz.sizeOf3; have v3 := Tryz.zeroValue3
  have t9 := Tryz.underlying9; have a9 := Tryz.isAgg9; have z9 := Tryz.sizeOf9; have v9 := Tryz.zeroValue9
  have t4 := Tryz.underlying4; have a4 := Tryz.isAgg4; have z4 := Tryz.sizeOf4; have v4 := Tryz.zeroValue4
  have t53 := Tryz.underlying30; have a53 := Tryz.isAgg30; have z53 := Tryz.sizeOf30; have v53 := Tryz.zeroValue30
  have t5 := Tryz.underlying5; have a5 := Tryz.isAgg5; have z5 := Tryz.sizeOf5; have v5 := Tryz.zeroValue5
  have t37 := Tryz.underlying272; have a37 := Tryz.isAgg272; have z37 := Tryz.sizeOf272; have v37 := Tryz.zeroValue272
  have t171 := Tryz.underlying318; have a171 := Tryz.isAgg318; have z171 := Tryz.sizeOf318; have v171 := Tryz.zeroValue318
  have t0 := Tryz.underlying0; have a0 := Tryz.isAgg0; have z0 := Tryz.sizeOf0; have v0 := Tryz.zeroValue0
  have e284 : ∀ args w, (callFunc 280 args).run Tryz.prog w = .ok (.enter 280 args) w := enters_of Tryz.func280 (by kernel_rfl) rfl
  have e285 : ∀ args w, (callFunc 281 args).run Tryz.prog w = .ok (.enter 281 args) w := enters_of Tryz.func281 (by kernel_rfl) rfl
  have hu1 : 1 ≤ u := by omega
  have hnd20 : Lib.nDigits u ≤ 20 := by have := Lib.numDigits_eq u hu1 hu64; split at this <;> omega
  have hal : Tryz.prog.arrayLen 318 = 24 := by simp [Program.arrayLen, t171]
  -- 'a[:nd]', for the walk to take
  have hsl : ∀ W, (Instr.sliceAt 318 (.pointer (some ⟨w.heap.size, 0, none⟩)) none (some (.int .i64 (Lib.nDigits u : Int))) none).run Tryz.prog W = .ok (.slice (some ⟨w.heap.size, 0, none⟩) (Lib.nDigits u) 24) W := fun W => by
    rw [run_sliceAt_array_h W 318 ⟨w.heap.size, 0, none⟩ (by simp [Program.arrayLen, Program.elem, t171]) .i64 (Lib.nDigits u : Int) (by omega) (by rw [hal]; omega)]
    go_simp
  -- formatBase10's contract at the new block's row of zeros
  have hH0 := Lib.holds_zero0 w 318 (Lib.nDigits u) (by omega)
  have hfmt := Tryz.internal_strconv_formatBase10 w.heap.size 0 24 u (Array.replicate (Lib.nDigits u) 0) (w.alloc (.cells Lib.zeros24 318)) hH0 (by rw [Array.size_replicate]; exact Lib.lt_pow_nDigits u) hu64 (by rw [Array.size_replicate]; omega)
  rw [Array.size_replicate] at hfmt
  have HH0 := Lib.hid hH0
  have iu : ¬ (u : Int) < 100 := by omega
  clear hH0 hal
  go_enter Tryz.func263, Tryz.ntmps263
  go_wp2_with (first
    | (go_at_fn 280; refine (Tryz.internal_strconv_numDigits u hu1 hu64 _ (Lib.tabIs_alloc htab _)).mono ?_; rintro e w' ⟨rfl, rfl⟩))
  go_at_fn 281
  refine hfmt.mono ?_
  rintro e w' ⟨rfl, k, v', dk, rfl, hF⟩
  -- 'string(a[:nd])', for the walk to take: the row reads as the numeral
  have hcv : (convert 272 9 (.slice (some ⟨w.heap.size, 0, none⟩) (Lib.nDigits u) 24)).run Tryz.prog ((putRow (fun (b : UInt8) => Value.int .u8 (b.toNat : Int)) (w.alloc (.cells Lib.zeros24 318)) w.heap.size 0 dk).drewN k) = .ok (.string ⟨(Lib.decDigits u).toArray⟩) ((putRow (fun (b : UInt8) => Value.int .u8 (b.toNat : Int)) (w.alloc (.cells Lib.zeros24 318)) w.heap.size 0 dk).drewN k) := by
    have h := run_convert_bytes_back (P := Tryz.prog) ((putRow (fun (b : UInt8) => Value.int .u8 (b.toNat : Int)) (w.alloc (.cells Lib.zeros24 318)) w.heap.size 0 dk).drewN k) 272 9 5 ⟨w.heap.size, 0, none⟩ 24 (Lib.decDigits u) t37 t5 t9 (fun j hj => by
      rw [Lib.row_is_numeral hF j hj, Lib.add_plain, World.cell?_drewN]
      exact cell?_putRow (fun (b : UInt8) => Value.int .u8 (b.toNat : Int)) _ w.heap.size 0 _ dk HH0.out (by rw [hF.size, Array.size_replicate]) j (by rw [hF.size]; rw [Lib.decDigits_length] at hj; exact hj))
    rw [Lib.decDigits_length] at h
    exact h
  go_wp2
  go_ret
  obtain ⟨os, eo⟩ := Lib.fin_at w (.cells Lib.zeros24 318) dk k 0
  exact ⟨rfl, k, os, eo⟩
end
end Go.Proofs.YtkpfineikahgfaaGreatDoor

namespace Go.Proofs.YtkpfineikahgfaaGreatDoor
open Go.Sx
set_option linter.unusedSimpArgs false
set_option linter.unusedVariables false
set_option maxRecDepth 100000
set_option maxHeartbeats 4000000

def padF : Nat → Nat → List UInt8
  | 0, _ => []
  | k + 1, r => padF k (r / 10) ++ [UInt8.ofNat (48 + r % 10)]
theorem dec_big {n : Nat} (h : 10 ≤ n) : Lib.decDigits n = Lib.decDigits (n / 10) ++ [UInt8.ofNat (48 + n % 10)] := by rw [Lib.decDigits, dif_neg (by omega)]
theorem dec_lt {n : Nat} (h : n < 10) : Lib.decDigits n = [UInt8.ofNat (48 + n)] := by rw [Lib.decDigits, dif_pos h]
theorem dec_split : ∀ k q r, 0 < q → r < 10 ^ k → Lib.decDigits (q * 10 ^ k + r) = Lib.decDigits q ++ padF k r
  | 0, q, r, hq, hr => by
    obtain rfl : r = 0 := by simp at hr; exact hr
    simp [padF]
  | k + 1, q, r, hq, hr => by
    have hp : 0 < 10 ^ k := Nat.pow_pos (by decide)
    have e : q * 10 ^ (k + 1) = 10 * (q * 10 ^ k) := by rw [Nat.pow_succ, ← Nat.mul_assoc, Nat.mul_comm]
    have hqp : 0 < q * 10 ^ k := Nat.mul_pos hq hp
    rw [Nat.pow_succ] at hr
    rw [dec_big (by omega), show (q * 10 ^ (k + 1) + r) / 10 = q * 10 ^ k + r / 10 by omega, show (q * 10 ^ (k + 1) + r) % 10 = r % 10 by omega, dec_split k q (r / 10) hq (by omega), padF, List.append_assoc]
theorem pad_zero : ∀ k, padF k 0 = List.replicate k 48
  | 0 => rfl
  | k + 1 => by rw [padF, Nat.zero_div, pad_zero k, List.replicate_succ']; rfl
theorem pad_dec : ∀ k r, r < 10 ^ k → 0 < k → padF k r = List.replicate (k - (Lib.decDigits r).length) 48 ++ Lib.decDigits r ∧ (Lib.decDigits r).length ≤ k
  | 0, r, h, h0 => by omega
  | k + 1, r, h, _ => by
    by_cases h1 : r < 10
    · rw [padF, show r / 10 = 0 by omega, pad_zero, dec_lt h1, show r % 10 = r by omega]
      exact ⟨rfl, by simp⟩
    · have hk : 0 < k := by rcases Nat.eq_zero_or_pos k with g | g
                            · subst g; simp at h; omega
                            · exact g
      rw [Nat.pow_succ] at h
      obtain ⟨h2, h3⟩ := pad_dec k (r / 10) (by omega) hk
      have e := dec_big (n := r) (by omega)
      rw [padF, h2, e, List.length_append, List.append_assoc, List.length_singleton]
      exact ⟨by rw [show k + 1 - ((Lib.decDigits (r / 10)).length + 1) = k - (Lib.decDigits (r / 10)).length by omega], by omega⟩

theorem pow_tab {ρ : Rho} {w : World} (h : ∀ b o, ρ.imm b = some o → w.heap[b]? = some o) : Lib.TabIs Tryz.prog w "internal/strconv.uint64pow10" .u64 Lib.pow10Tab := by
  obtain ⟨o, h1, _, ty, fz, rfl⟩ := ρ.glob 2 .u64 Lib.pow10Tab (by decide +kernel)
  exact tab_is (g := 2) (by kernel_rfl) (h _ _ h1)
theorem call_valsT {f : FuncId} {vs : List Value} {v : Value} (hf : FnOK Tryz.prog f) (hv : v.oneCell' = true) (h : ∀ w : World, Lib.TabIs Tryz.prog w "internal/strconv.uint64pow10" .u64 Lib.pow10Tab → Calls Tryz.prog f vs.toArray w fun e w' => e = .returned v ∧ RowKit.Below w.heap.size w w') : CallOK Tryz.prog f (vs.map .val) [] (.val v) [] [] := by
  refine .inl ⟨hf, fun ρ w z hz hp => ?_⟩
  rw [zip_vals hz]
  refine (h w (pow_tab hp.imm)).mono ?_
  rintro e w' ⟨rfl, hb⟩
  exact ⟨v, ρ, rfl, .of_below hb (has_val hv)⟩
theorem t_iFmtB (n : Nat) (h1 : 100 ≤ n) (h2 : n < 18446744073709551616) : CallOK Tryz.prog 263 [.val (.int .u64 (n : Nat)), .val (.int .i64 10)] [] (.val (.string (tN n))) [] [] :=
  call_valsT (vs := [.int .u64 (n : Nat), .int .i64 10]) ⟨Tryz.f263, Tryz.func263, rfl, by kernel_rfl⟩ rfl fun w ht => by
    rw [tN_eq]
    refine (fmt_big n h1 h2 w ht).mono ?_
    rintro e w' ⟨rfl, k, os, rfl⟩
    exact ⟨rfl, Lib.below_grow w.heap.size w (Nat.le_refl _) k os⟩
theorem t_FormatG (n : Nat) (h : n < 18446744073709551616) : CallOK Tryz.prog 236 [.val (.int .u64 (n : Nat)), .val (.int .i64 10)] [] (.val (.string (tN n))) [] [] := by
  by_cases hs : n < 100
  · exact t_Format n hs
  · have k1 := t_iFmtB n (by omega) h
    refine callV (Z := []) tabOK mixedOK Tryz.func236 rfl (by kernel_rfl) rfl rfl (by kernel_rfl) rfl ?_
    intro W0 w0 ρ0 hE
    conv => whnf
    (repeat (first | (refine g_c (by assumption) ?_; conv => whnf))); (first | exact Recast.refl _ | exact Frz.recast (Recast.refl _) rfl | (refine Frz.one rfl rfl ?_; skip) | (refine Frz.tup ?_; skip))
theorem t_Itoa (n : Nat) (h : n < 9223372036854775808) : CallOK Tryz.prog 237 [.val (.int .i64 (n : Nat))] [] (.val (.string (tN n))) [] [] :=
  call_valsT (vs := [.int .i64 (n : Nat)]) ⟨Tryz.f237, Tryz.func237, rfl, by kernel_rfl⟩ rfl fun w ht => by
    rw [tN_eq]
    refine (Tryz.strconv_Itoa n (by omega) (by omega) w ht).mono ?_
    rintro e w' ⟨rfl, k, os, rfl⟩
    refine ⟨?_, Lib.below_grow w.heap.size w (Nat.le_refl _) k os⟩
    rw [Lib.itoa_nonneg]
theorem t_Repeat (c : Nat) (hc : c ≤ 100) : CallOK Tryz.prog 238 [.val (.string ⟨#[48]⟩), .val (.int .i64 (c : Nat))] [] (.val (.string ⟨(List.replicate c 48).toArray⟩)) [] [] :=
  call_vals (vs := [.string ⟨#[48]⟩, .int .i64 (c : Nat)]) ⟨Tryz.f238, Tryz.func238, rfl, by kernel_rfl⟩ rfl fun w => by
    have e : ∀ c, Lib.repeatL [48] c = List.replicate c 48 := fun c => by
      induction c with
      | zero => rfl
      | succ c ih => show [48] ++ Lib.repeatL [48] c = _; rw [ih, List.replicate_succ, List.singleton_append]
    refine (Tryz.strings_Repeat ⟨#[48]⟩ c w (by omega) (by show 1 * c ≤ _; omega)).mono ?_
    rintro e' w' ⟨rfl, hb⟩
    exact ⟨by rw [show (⟨#[48]⟩ : ByteArray).data.toList = [48] from rfl, e], hb⟩

/-- A block of strings. -/
abbrev sblk (ss : List ByteArray) : Blk := ⟨9, true, .seq 1 (ss.map sel)⟩
theorem str_ext {a b : List ByteArray} {n : Nat} (ha : a.length = n) (hb : b.length = n) (h : ∀ i, i < n → a.getD i .empty = b.getD i .empty) : a = b := by
  refine List.ext_getElem (ha.trans hb.symm) fun i h1 h2 => ?_
  have := h i (by omega)
  rwa [List.getD_eq_getElem?_getD, List.getD_eq_getElem?_getD, List.getElem?_eq_getElem h1, List.getElem?_eq_getElem h2] at this
theorem str_set {l : List ByteArray} {i j : Nat} {v : ByteArray} (hi : i < l.length) : (l.set i v).getD j .empty = if i = j then v else l.getD j .empty := by
  simp only [List.getD_eq_getElem?_getD, List.getElem?_set]
  by_cases h : i = j
  · subst h; simp [hi]
  · simp [h]
theorem str_rev {l : List ByteArray} {n k : Nat} (hl : l.length = n) (hk : k < n) : l.reverse.getD k .empty = l.getD (n - 1 - k) .empty := by
  simp only [List.getD_eq_getElem?_getD]
  rw [List.getElem?_reverse (by omega), hl]
theorem t_Reverse (ss : List ByteArray) (n : Nat) (hn : ss.length = n) (hl : n < 1099511627776) (K : Nat) : CallOK Tryz.prog 239 [.slc K 1 0 n] [(K, sblk ss)] (.tup []) [] [(K, sblk ss.reverse)] := by
  have e0 : IntKind.i64.wrap ((n : Int) - 1) = (n : Int) - 1 := wrap_i64 (by omega) (by omega)
  refine callK (Z := []) tabOK mixedOK Tryz.func239 rfl (by kernel_rfl) (args := [.slc 1001 1 0 n]) (fk := [(1001, sblk ss)]) (c := .tup []) (new := []) (upd := [(1001, sblk ss.reverse)]) (ShapeOK.of rfl rfl rfl rfl rfl rfl rfl rfl rfl rfl rfl) rfl (fun _ => K) NamesOK.upd ?_
  intro W0 w0 ρ0 hE
  conv => whnf
  (repeat (first | (rw [e0]; conv => whnf)))
  refine SW_loopN hE (fun k => k) [0, 2, 3] [1001] (fun q fr hp => ∃ (i : Nat) (ys : List ByteArray), q = n - i ∧ (2 * i ≤ n) ∧ ys.length = n ∧ (∀ k, k < n → ys.getD k .empty = if k < i ∨ n - i ≤ k then ss.getD (n - 1 - k) .empty else ss.getD k .empty) ∧
    fr = [(0, .slc 1001 1 0 n), (2, .val (.int .i64 (i : Nat))), (3, .val (.int .i64 ((n : Int) - 1 - i)))] ∧ hp = [(1001, sblk ys)]) n ?_ ?_ ?_
  · kernel_rfl
  · exact ⟨0, ss, rfl, by omega, hn, (fun k hk => by rw [if_neg (by omega)]), by rw [show (n : Int) - 1 - ((0 : Nat) : Int) = (n : Int) - 1 by omega]; rfl, rfl⟩
  rintro q _ _ ⟨i, ys, rfl, hi, hy, hv, rfl, rfl⟩
  conv => whnf
  by_cases hgo : i + i + 1 < n
  · obtain ⟨j, hj⟩ : ∃ j, j = n - 1 - i := ⟨_, rfl⟩
    have ej : (n : Int) - 1 - i = (j : Int) := by omega
    rw [ej]
    have t1 : decide ((i : Int) < (j : Int)) = true := decide_eq_true (by omega)
    have e1 := winc (i := i) (by omega)
    have e2 : IntKind.i64.wrap ((j : Int) - 1) = (n : Int) - 1 - ((i + 1 : Nat) : Int) := by rw [wrap_i64 (by omega) (by omega)]; omega
    have g1 : (ys.map sel).getD i .any = .val (.string (ys.getD i .empty)) := by rw [map_get (d := ByteArray.empty) (by omega)]; rfl
    have g2 : (ys.map sel).getD j .any = .val (.string (ys.getD j .empty)) := by rw [map_get (d := ByteArray.empty) (by omega)]; rfl
    have g3 : ((ys.map sel).set i (.val (.string (ys.getD j .empty)))).getD j .any = .val (.string (ys.getD j .empty)) := by rw [← g2, List.getD_eq_getElem?_getD, List.getElem?_set_ne (by omega), ← List.getD_eq_getElem?_getD]
    have hlm : (ys.map sel).length = n := by rw [List.length_map]; exact hy
    have hset : (((ys.set i (ys.getD j .empty)).set j (ys.getD i .empty)).map sel) = ((ys.map sel).set i (.val (.string (ys.getD j .empty)))).set j (.val (.string (ys.getD i .empty))) := by rw [List.map_set, List.map_set]; rfl
    have hnew : ∀ k, k < n → ((ys.set i (ys.getD j .empty)).set j (ys.getD i .empty)).getD k .empty = if k < i + 1 ∨ n - (i + 1) ≤ k then ss.getD (n - 1 - k) .empty else ss.getD k .empty := by
      intro k hk
      rw [str_set (by rw [List.length_set]; omega), str_set (by omega)]
      by_cases h1 : j = k
      · rw [if_pos h1, if_pos (by omega), hv i (by omega), if_neg (by omega), show n - 1 - k = i by omega]
      · rw [if_neg h1]
        by_cases h2 : i = k
        · rw [if_pos h2, if_pos (by omega), hv j (by omega), if_neg (by omega), show n - 1 - k = j by omega]
        · rw [if_neg h2, hv k hk]
          by_cases h3 : k < i ∨ n - i ≤ k
          · rw [if_pos h3, if_pos (by omega)]
          · rw [if_neg h3, if_neg (by omega)]
    (repeat ((first | refine step_w1 rfl rfl ?_ | refine step_i (by kernel_rfl) ?_ | refine And.intro (by first | decide | omega | (simp only [tl0, dlen, List.length_replicate, List.length_set, List.length_map, List.length_zipWith, List.length_take, List.length_append, List.length_cons, List.length_nil]; omega)) ?_ | rw [t1] | rw [show 0 + (i : Int).toNat = i from by omega] | rw [show 0 + (j : Int).toNat = j from by omega] | rw [g1] | rw [g2] | rw [g3] | rw [e1] | rw [e2]); conv => whnf))
    refine ⟨n - (i + 1), fun k => k, [0, 2, 3], [1001], by omega, by kernel_rfl, i + 1, _, rfl, by omega, ?_, hnew, rfl, ?_⟩
    · rw [List.length_set, List.length_set]; exact hy
    · rw [sblk, hset]; rfl
  · have t1 : decide ((i : Int) < (n : Int) - 1 - i) = false := decide_eq_false (by omega)
    have e : ys = ss.reverse := str_ext hy (by rw [List.length_reverse]; exact hn) fun k hk => by
      rw [hv k hk, str_rev hn hk]
      split
      · rfl
      · rw [show n - 1 - k = k by omega]
    rw [e]
    (repeat (first | (refine step_w2 rfl rfl ?_; conv => whnf) | (rw [t1]; conv => whnf)))
    exact ⟨Recast.refl _, (fun _ _ h => by cases h), fun k b hm => by simp only [List.mem_singleton, Prod.mk.injEq] at hm; obtain ⟨rfl, rfl⟩ := hm; rfl⟩

theorem call_strsM {P : Program} {f : FuncId} {ss : List ByteArray} {n : Nat} {sep : ByteArray} {v : Value} {ty : TypeId} (hn : ss.length = n) (hf : FnOK P f) (hv : v.oneCell' = true)
    (h0 : ss = [] → ∀ (a : Option Addr) (w : World), Calls P f #[.slice a 0 0, .string sep] w fun e w' => e = .returned v ∧ w' = w)
    (h : ∀ (bk o c : Nat) (w : World), (∀ (j : Nat) x, ss[j]? = some x → w.cell? ⟨bk, o + j, none⟩ = some (.string x)) → bk < w.heap.size → ss.length ≤ c → Calls P f #[.slice (some ⟨bk, o, none⟩) ss.length c, .string sep] w fun e w' => e = .returned v ∧ RowKit.Below w.heap.size w w') (K : Nat) :
    CallOK P f [.slc K 1 0 n, .val (.string sep)] [(K, ⟨ty, true, .seq 1 (ss.map sel)⟩)] (.val v) [] [] := by
  subst hn
  refine .inl ⟨hf, fun ρ w z hz hp => ?_⟩
  simp only [HasZ] at hz
  obtain ⟨x, _, rfl, hx, y, _, rfl, hy, rfl⟩ := hz
  simp only [HasC] at hy
  obtain ⟨rfl, _⟩ := hy
  have fin : ∀ (a : Value), (Calls P f #[a, .string sep] w fun e w' => e = .returned v ∧ RowKit.Below w.heap.size w w') → Calls P f (List.zipWith mkV [.slc K 1 0 ss.length, SV.val (.string sep)] [[a], [.string sep]]).toArray w fun e w' => ∃ v' ρ', e = .returned v' ∧ Post ρ w (.val v) [] [] v' ρ' w' := fun a hc => by
    have e : (List.zipWith mkV [.slc K 1 0 ss.length, SV.val (.string sep)] [[a], [.string sep]]).toArray = #[a, .string sep] := by simp [mkV, SV.isOne]
    rw [e]
    refine hc.mono ?_
    rintro e w' ⟨rfl, hb⟩
    exact ⟨v, ρ, rfl, .of_below hb (has_val hv)⟩
  obtain ⟨z, hz, hcase⟩ := blk_rows (hp.hfk K _ (List.mem_cons_self ..)) rfl rfl
  simp only [HasC] at hx
  rcases hx with ⟨b, t, cap, e1, e2, e3, rfl⟩ | ⟨hn, a, rfl⟩
  · rcases hcase with ⟨b', t', ex, h1, h2, h3, h4⟩ | ⟨h1, _⟩
    · rw [e1] at h1
      cases h1
      have hzf : ∀ (l : List ByteArray) (z : List (List Value)), HasZ (bareR ρ.imm ρ.glob) (l.map sel) z → z.flatten = l.map .string := by
        intro l
        induction l with
        | nil => intro z hz; simp only [List.map_nil, HasZ] at hz; subst hz; rfl
        | cons s l ih =>
          intro z hz
          simp only [List.map_cons, HasZ, sel, HasC] at hz
          obtain ⟨x, r, rfl, ⟨rfl, _⟩, h⟩ := hz
          simp [ih r h]
      refine fin _ ((h b 0 cap w (fun j x hj => ?_) ?_ e2))
      · rw [cell_of_row w b _ _ _ _ h2, List.getElem?_toArray, hzf ss z hz.2.1, Nat.zero_add]
        rw [List.getElem?_append_left (by rw [List.length_map]; exact (List.getElem?_eq_some_iff.1 hj).1), List.getElem?_map, hj]; rfl
      · rcases Nat.lt_or_ge b w.heap.size with h' | h'
        · exact h'
        · simp [Array.getElem?_eq_none h'] at h2
    · rw [e1] at h1; cases h1
  · refine fin _ ?_
    have hn : ss = [] := List.length_eq_zero_iff.1 hn
    subst hn
    exact (h0 rfl a w).mono fun _ _ ⟨he, hw⟩ => ⟨he, hw ▸ RowKit.Below.refl _ _⟩
theorem t_JoinM (ss : List ByteArray) (n : Nat) (hn : ss.length = n) (sep : ByteArray) (hN : ss.length ≤ 1099511627776) (hlen : (Lib.join (ss.map (·.data.toList)) sep.data.toList).length ≤ 140737488355328) (K : Nat) :
    CallOK Tryz.prog 184 [.slc K 1 0 n, .val (.string sep)] [(K, sblk ss)] (.val (.string ⟨(Lib.join (ss.map (·.data.toList)) sep.data.toList).toArray⟩)) [] [] := by
  refine call_strsM hn ⟨Tryz.f184, Tryz.func184, rfl, by kernel_rfl⟩ rfl ?_ ?_ K
  · rintro rfl a w
    exact Tryz.strings_Join_none a 0 sep w
  · intro bk o c w hc hb hcap
    exact Tryz.strings_Join bk o c ss sep w hc hb (by omega) hcap hlen
end Go.Proofs.YtkpfineikahgfaaGreatDoor

namespace Go.Proofs.YtkpfineikahgfaaGreatDoor
open Go.Sx
set_option linter.unusedSimpArgs false
set_option linter.unusedVariables false
set_option maxRecDepth 100000
set_option maxHeartbeats 4000000

theorem dec_len : ∀ k n, n < 2 ^ k → (Lib.decDigits n).length ≤ k + 1
  | 0, n, h => by
    obtain rfl : n = 0 := by simp at h; exact h
    rw [dec_lt (by decide)]; simp
  | k + 1, n, h => by
    by_cases h1 : n < 10
    · rw [dec_lt h1]; simp
    · rw [dec_big (by omega), List.length_append, List.length_singleton]
      have := dec_len k (n / 10) (by rw [Nat.pow_succ] at h; omega)
      omega
def cat (ss : List ByteArray) : List UInt8 := (ss.map (·.data.toList)).flatten
theorem join_empty (l : List (List UInt8)) : Lib.join l [] = l.flatten := by
  cases l with
  | nil => rfl
  | cons x r => rw [Lib.join_cons, Lib.joinTail]; simp
theorem cut_digs {v m : Nat} (h : v < 4294967296 ^ m) : cutN (digs v m) m = (wInts v).length ∧ (wInts v).length ≤ m := by
  have hlen := digs_len v m
  have hv := valI_digs v m
  rw [Nat.mod_eq_of_lt h] at hv
  have hc := valI_cut (digs v m) m
  have hle := cutN_le (digs v m) m
  have htop := cutN_top (digs v m) m
  have := wInts_of (cutN (digs v m) m) (digs v m) (digs_w32 v m) (by omega) htop
  rw [hc, hv, Int.toNat_natCast] at this
  have e : (wInts v).length = cutN (digs v m) m := by rw [this, List.length_take]; omega
  exact ⟨e.symm, by omega⟩
theorem sz_div9 {v : Nat} (h : 1000000000 ≤ v) : sz (v / 1000000000) + 29 ≤ sz v := by
  have h1 : v < 2 ^ sz v := sz_le.1 (Nat.le_refl _)
  have h2 : 29 ≤ sz v := by
    rcases Nat.lt_or_ge (sz v) 29 with g | g
    · have : 2 ^ sz v ≤ 2 ^ 29 := Nat.pow_le_pow_right (by decide) (by omega)
      omega
    · exact g
  have h3 : sz (v / 1000000000) ≤ sz v - 29 := sz_le.2 (by
    rw [Nat.div_lt_iff_lt_mul (by decide)]
    have e : 2 ^ sz v = 2 ^ (sz v - 29) * 2 ^ 29 := by rw [← Nat.pow_add]; congr 1; omega
    have : 2 ^ (sz v - 29) * 2 ^ 29 ≤ 2 ^ (sz v - 29) * 1000000000 := Nat.mul_le_mul_left _ (by decide)
    omega)
  omega
theorem tN_size9 {r : Nat} (h : r < 1000000000) : (tN r).size ≤ 9 := by
  rw [tN_eq]
  show (Lib.decDigits r).toArray.size ≤ 9
  have := (pad_dec 9 r h (by decide)).2
  simpa using this
/-- A part of a text, filled with zeros. -/
theorem pad_tN {r : Nat} (h : r < 1000000000) : ((⟨(List.replicate (9 - (tN r).size) 48).toArray⟩ : ByteArray) ++ tN r).data.toList = padF 9 r := by
  have hs : (tN r).size = (Lib.decDigits r).length := by rw [tN_eq]; show (Lib.decDigits r).toArray.size = _; simp
  rw [(pad_dec 9 r h (by decide)).1, hs, tN_eq, ByteArray.data_append]
  simp
theorem cat_snoc (ps : List ByteArray) (s : ByteArray) : cat (ps ++ [s]).reverse = s.data.toList ++ cat ps.reverse := by simp [cat]

theorem wl_of {n M : Nat} (h : sz n ≤ M) : (wInts n).length ≤ M := len_le_of (Nat.lt_of_lt_of_le (sz_le.1 h) (Nat.pow_le_pow_left (by decide) M))
theorem t_NatB (n : Nat) (h : ¬ n < 18446744073709551616) (hs : sz n ≤ 1073741824) : CallOK Tryz.prog 198 [.nat n] [] (.val (.string (tN n))) [] [] := by
  have hwl : (wInts n).length < 1099511627776 := Nat.lt_of_le_of_lt (wl_of hs) (by decide)
  have k1 := c_words n 3001 hwl
  have e2 : ((big n).toList == (ByteArray.mk #[]).toList) = false := by rw [big_eq]; exact decide_eq_false h
  have hwa := wArr_len n
  refine callF (Z := []) tabOK mixedOK Tryz.func198 rfl (by kernel_rfl) (by first | rfl | (simp [keylessL, keyless, keylessL_map, *]; done)) (by first | rfl | (simp [keylessL, keyless, keylessL_map, *]; done)) (by kernel_rfl) rfl ?_
  intro w0 ρ0 hE
  conv => whnf
  (repeat ((first | refine step_w2 rfl rfl ?_ | refine g_cn (by assumption) rfl ?_ | rw [e2] | rw [Nat.zero_add]); conv => whnf))
  refine SWx_adopt (t := 3) (k := 2002) (s := 1) (blk := sblk []) rfl rfl rfl ?_
  have hwn := wInts_val n
  refine SW_loopN hE (fun k => k) [3, 4] [2002, 3001] (fun q fr hp => ∃ (v : Nat) (L : List Int) (ps : List ByteArray), q = v ∧ (wInts v).length ≤ L.length ∧ L.length < 1099511627776 ∧ W32 L ∧ valI L (wInts v).length = (v : Int) ∧ ((v ≠ 0 ∧ Lib.decDigits n = Lib.decDigits v ++ cat ps.reverse ∧ ps.length * 29 + sz v ≤ sz n) ∨ (v = 0 ∧ Lib.decDigits n = cat ps.reverse ∧ ps.length * 29 ≤ sz n + 29)) ∧
    fr = [(3, .slc 2002 1 0 ps.length), (4, .slc 3001 1 0 (wInts v).length)] ∧ hp = [(2002, sblk ps), (3001, ⟨95, true, .ints .u32 L⟩)]) n ?_ ?_ ?_
  · kernel_rfl
  · have hwA : (wArr n) = wInts n := by rw [wArr, if_neg h]
    refine ⟨n, wArr n, [], rfl, hwa, by rw [hwA]; exact hwl, by rw [hwA]; exact wInts_w32 n, by rw [hwA]; exact hwn, .inl ⟨by omega, ?_, by simp⟩, rfl, rfl⟩
    simp [cat]
  rintro q _ _ ⟨v, L, ps, rfl, hL, hLl, hLw, hLv, hrel, rfl, rfl⟩
  conv => whnf
  have hpl : ps.length < 1099511627776 := by rcases hrel with ⟨_, _, g⟩ | ⟨_, _, g⟩ <;> omega
  by_cases h0 : 0 < q
  · obtain ⟨_, hdec, hlen⟩ := hrel.resolve_right (by omega)
    clear hrel
    have hm := wInts_top (n := q) (by omega)
    have t1 : decide (((wInts q).length : Int) > 0) = true := decide_eq_true (by omega)
    have hqm : q < 4294967296 ^ (wInts q).length := lt_of_len q
    have k2 := c_short L (wInts q).length hL (by omega) hLw 1000000000 (by decide) (by decide) 3001 3002 (by decide) true q hLv
    obtain ⟨hcut, hcle⟩ := cut_digs (v := q / 1000000000) (m := (wInts q).length) (Nat.lt_of_le_of_lt (Nat.div_le_self _ _) hqm)
    have hdl := digs_len (q / 1000000000) (wInts q).length
    have k3 := c_cut (digs (q / 1000000000) (wInts q).length) (wInts q).length (by omega) (by omega) 3002 true
    rw [hcut] at k3
    have hr : q % 1000000000 < 1000000000 := Nat.mod_lt _ (by decide)
    have k4 := t_Itoa (q % 1000000000) (by omega)
    have e1 : IntKind.i64.wrap ((q % 1000000000 : Nat) : Int) = ((q % 1000000000 : Nat) : Int) := wrap_i64 (by omega) (by omega)
    have hsz := tN_size9 hr
    have hdw : W32 (digs (q / 1000000000) (wInts q).length) := digs_w32 _ _
    have hdv : valI (digs (q / 1000000000) (wInts q).length) (wInts (q / 1000000000)).length = ((q / 1000000000 : Nat) : Int) := by
      have h1 := valI_cut (digs (q / 1000000000) (wInts q).length) (wInts q).length
      rw [hcut, valI_digs, Nat.mod_eq_of_lt (Nat.lt_of_le_of_lt (Nat.div_le_self _ _) hqm)] at h1
      exact h1
    have hqv : q / 1000000000 * 1000000000 + q % 1000000000 = q := by have := Nat.div_add_mod q 1000000000; omega
    by_cases hq : 1000000000 ≤ q
    · have hv0 : 0 < q / 1000000000 := Nat.div_pos hq (by decide)
      have hs9 := sz_div9 hq
      have hsplit := dec_split 9 (q / 1000000000) (q % 1000000000) hv0 hr
      rw [show 10 ^ 9 = 1000000000 from rfl, hqv, ← pad_tN hr] at hsplit
      have hm2 := wInts_top (n := q / 1000000000) (by omega)
      have t2 : decide (((wInts (q / 1000000000)).length : Int) > 0) = true := decide_eq_true (by omega)
      have e2 : IntKind.i64.wrap (9 - ((tN (q % 1000000000)).size : Int)) = ((9 - (tN (q % 1000000000)).size : Nat) : Int) := by rw [wrap_i64 (by omega) (by omega)]; omega
      have k5 := t_Repeat (9 - (tN (q % 1000000000)).size) (by omega)
      have hrs : (⟨(List.replicate (9 - (tN (q % 1000000000)).size) 48).toArray⟩ : ByteArray).size = 9 - (tN (q % 1000000000)).size := by show (List.replicate _ _).toArray.size = _; simp
      have hob : (⟨(List.replicate (9 - (tN (q % 1000000000)).size) 48).toArray⟩ : ByteArray).size + (tN (q % 1000000000)).size ≤ 9223372036854775807 := by omega
      have hd2 : Lib.decDigits n = Lib.decDigits (q / 1000000000) ++ cat (ps ++ [(⟨(List.replicate (9 - (tN (q % 1000000000)).size) 48).toArray⟩ : ByteArray) ++ tN (q % 1000000000)]).reverse := by
        rw [hdec, hsplit, cat_snoc, List.append_assoc]
      clear hdec hsplit
      generalize (⟨(List.replicate (9 - (tN (q % 1000000000)).size) 48).toArray⟩ : ByteArray) = z9 at *
      have hpm : (ps.map sel).length = ps.length := List.length_map ..
      (repeat ((first | refine step_w1 rfl rfl ?_ | refine And.intro (by first | decide | omega | (simp only [tl0, dlen, List.length_replicate, List.length_set, List.length_map, List.length_zipWith, List.length_take, List.length_append, List.length_cons, List.length_nil]; omega)) ?_ | refine g_c (by assumption) ?_ | refine g_c1 (by assumption) rfl ?_ | refine g_c1n (by assumption) rfl rfl ?_ | rw [t1] | rw [e1] | rw [t2] | rw [e2]); conv => whnf))
      refine ⟨q / 1000000000, renBy [(41, 2002), (3002, 3001)], [3, 4], [41, 3002], by omega, by kernel_rfl, q / 1000000000, _, ps ++ [z9 ++ tN (q % 1000000000)], rfl, by rw [hdl]; exact hcle, by omega, hdw, hdv, .inl ⟨by omega, hd2, by rw [List.length_append, List.length_singleton]; omega⟩, by rw [List.length_append]; rfl, ?_⟩
      have e9 : sblk (ps ++ [z9 ++ tN (q % 1000000000)]) = ⟨9, true, .seq 1 (List.take ps.length (ps.map sel) ++ List.take 1 (List.drop 0 [SV.val (.string (z9 ++ tN (q % 1000000000)))]))⟩ := by
        rw [sblk, List.take_of_length_le (by omega), List.map_append]; rfl
      rw [e9]; rfl
    · have hv0 : q / 1000000000 = 0 := Nat.div_eq_of_lt (by omega)
      have t2 : decide (((wInts (q / 1000000000)).length : Int) > 0) = false := by rw [hv0]; rfl
      have hmod : q % 1000000000 = q := Nat.mod_eq_of_lt (by omega)
      have hd2 : Lib.decDigits n = cat (ps ++ [tN (q % 1000000000)]).reverse := by
        rw [hdec, cat_snoc, hmod, tN_eq]
      clear hdec
      have hpm : (ps.map sel).length = ps.length := List.length_map ..
      (repeat ((first | refine step_w1 rfl rfl ?_ | refine step_w2 rfl rfl ?_ | refine And.intro (by first | decide | omega | (simp only [tl0, dlen, List.length_replicate, List.length_set, List.length_map, List.length_zipWith, List.length_take, List.length_append, List.length_cons, List.length_nil]; omega)) ?_ | refine g_c (by assumption) ?_ | refine g_c1 (by assumption) rfl ?_ | refine g_c1n (by assumption) rfl rfl ?_ | rw [t1] | rw [e1] | rw [t2]); conv => whnf))
      refine ⟨q / 1000000000, renBy [(41, 2002), (3002, 3001)], [3, 4], [41, 3002], by omega, by kernel_rfl, q / 1000000000, _, ps ++ [tN (q % 1000000000)], rfl, by rw [hdl]; exact hcle, by omega, hdw, hdv, .inr ⟨hv0, hd2, by rw [List.length_append, List.length_singleton]; omega⟩, by rw [List.length_append]; rfl, ?_⟩
      have e9 : sblk (ps ++ [tN (q % 1000000000)]) = ⟨9, true, .seq 1 (List.take ps.length (ps.map sel) ++ List.take 1 (List.drop 0 [SV.val (.string (tN (q % 1000000000)))]))⟩ := by
        rw [sblk, List.take_of_length_le (by omega), List.map_append]; rfl
      rw [e9]; rfl
  · obtain rfl : q = 0 := by omega
    obtain ⟨_, hdec, _⟩ := hrel.resolve_left (fun h => h.1 rfl)
    have t1 : decide (((wInts 0).length : Int) > 0) = false := rfl
    have k2 := t_Reverse ps ps.length rfl (by omega) 2002
    have hdl : (Lib.decDigits n).length ≤ 140737488355328 := by
      exact Nat.le_trans (dec_len (sz n) n (sz_le.1 (Nat.le_refl _))) (by omega)
    have k3 := t_JoinM ps.reverse ps.length (by rw [List.length_reverse]) ⟨#[]⟩ (by rw [List.length_reverse]; omega) (by
      rw [show (⟨#[]⟩ : ByteArray).data.toList = [] from rfl, join_empty]
      show (cat ps.reverse).length ≤ _
      rw [← hdec]; exact hdl) 2002
    have e : (⟨(Lib.join (ps.reverse.map (·.data.toList)) (⟨#[]⟩ : ByteArray).data.toList).toArray⟩ : ByteArray) = tN n := by
      rw [show (⟨#[]⟩ : ByteArray).data.toList = [] from rfl, join_empty, tN_eq, hdec]; rfl
    rw [e] at k3
    (repeat (first | (refine step_w2 rfl rfl ?_; conv => whnf) | (refine g_c1 (by assumption) rfl ?_; conv => whnf) | (refine g_c1u (by assumption) rfl rfl ?_; conv => whnf))); (first | exact Recast.refl _ | exact Frz.recast (Recast.refl _) rfl | (refine Frz.one rfl rfl ?_; skip) | (refine Frz.tup ?_; skip))

theorem tN_sizeG (n : Nat) : (tN n).size ≤ sz n + 1 := by
  rw [tN_eq]
  show (Lib.decDigits n).toArray.size ≤ _
  simpa using dec_len (sz n) n (sz_le.1 (Nat.le_refl _))
theorem t_NatG (n : Nat) (hs : sz n ≤ 1073741824) : CallOK Tryz.prog 198 [.nat n] [] (.val (.string (tN n))) [] [] := by
  by_cases h : n < 18446744073709551616
  · have k1 := t_FormatG n h
    have e1 : low n = (n : Int) := low_small h
    have e2 : ((big n).toList == (ByteArray.mk #[]).toList) = true := by rw [big_eq]; exact decide_eq_true h
    refine callV (Z := []) tabOK mixedOK Tryz.func198 rfl (by kernel_rfl) rfl rfl (by kernel_rfl) rfl ?_
    intro W0 w0 ρ0 hE
    conv => whnf
    (repeat ((first | refine step_w1 rfl rfl ?_ | refine g_c (by assumption) ?_ | rw [e2] | rw [e1]); conv => whnf)); (first | exact Recast.refl _ | exact Frz.recast (Recast.refl _) rfl | (refine Frz.one rfl rfl ?_; skip) | (refine Frz.tup ?_; skip))
  · exact t_NatB n h hs
theorem t_IntG (z : Int) (h : sz z.natAbs ≤ 1073741824) : CallOK Tryz.prog 197 [.int z] [] (.val (.string (tZ z))) [] [] := by
  have k1 := t_NatG z.natAbs h
  have hs := tN_sizeG z.natAbs
  have h1 : (ByteArray.mk #[45]).size = 1 := rfl
  have h2 : (ByteArray.mk #[45]).size + (tN z.natAbs).size ≤ 9223372036854775807 := by omega
  unfold tZ
  refine callV (Z := []) tabOK mixedOK Tryz.func197 rfl (by kernel_rfl) rfl rfl (by kernel_rfl) rfl ?_
  intro W0 w0 ρ0 hE
  conv => whnf
  by_cases hz : z < 0
  · have t1 : decide (z < 0) = true := decide_eq_true hz
    rw [if_pos hz]
    (repeat ((first | refine step_w1 rfl rfl ?_ | refine And.intro (by first | decide | omega | (simp only [tl0, dlen, List.length_replicate, List.length_set, List.length_map, List.length_zipWith, List.length_take, List.length_append, List.length_cons, List.length_nil]; omega)) ?_ | refine g_c (by assumption) ?_ | rw [t1]); conv => whnf)); (first | exact Recast.refl _ | exact Frz.recast (Recast.refl _) rfl | (refine Frz.one rfl rfl ?_; skip) | (refine Frz.tup ?_; skip))
  · have t1 : decide (z < 0) = false := decide_eq_false hz
    rw [if_neg hz]
    (repeat (first | (refine step_w2 rfl rfl ?_; conv => whnf) | (refine g_c (by assumption) ?_; conv => whnf) | (rw [t1]; conv => whnf))); (first | exact Recast.refl _ | exact Frz.recast (Recast.refl _) rfl | (refine Frz.one rfl rfl ?_; skip) | (refine Frz.tup ?_; skip))
theorem tZ_sizeG (z : Int) : (tZ z).size ≤ sz z.natAbs + 2 := by
  have hs := tN_sizeG z.natAbs
  unfold tZ
  split
  · rw [ByteArray.size_append]; have : ("-".toUTF8).size = 1 := rfl; omega
  · omega
theorem t_FracG (q : Rat) (h : fs q ≤ 1073741824) : CallOK Tryz.prog 111 [.frac q] [] (.val (.string (tQ q))) [] [] := by
  have n1 := fsz_num q
  have n2 := fsz_den q
  unfold fs at h
  have kw := c_Whole q
  have k1 := t_IntG q.num (by omega)
  have k2 := t_NatG q.den (by omega)
  have k3 := c_den natBig q (by omega)
  have hs := tZ_sizeG q.num
  have hs2 := tN_sizeG q.den
  have h1 : (ByteArray.mk #[47]).size = 1 := rfl
  have h2 : (tZ q.num).size + (ByteArray.mk #[47]).size ≤ 9223372036854775807 := by omega
  have h3 : (tZ q.num ++ (ByteArray.mk #[47])).size + (tN q.den).size ≤ 9223372036854775807 := by rw [ByteArray.size_append]; omega
  unfold tQ
  refine callV (Z := []) tabOK mixedOK Tryz.func111 rfl (by kernel_rfl) rfl rfl (by kernel_rfl) rfl ?_
  intro W0 w0 ρ0 hE
  conv => whnf
  by_cases hd : q.den = 1
  · rw [decide_eq_true hd] at kw
    rw [if_pos hd]
    (repeat (first | (refine step_w1 rfl rfl ?_; conv => whnf) | (refine g_c (by assumption) ?_; conv => whnf))); (first | exact Recast.refl _ | exact Frz.recast (Recast.refl _) rfl | (refine Frz.one rfl rfl ?_; skip) | (refine Frz.tup ?_; skip))
  · rw [decide_eq_false hd] at kw
    rw [if_neg hd]
    (repeat ((first | refine step_w2 rfl rfl ?_ | refine step_i (by kernel_rfl) ?_ | refine And.intro (by first | decide | omega | (simp only [tl0, dlen, List.length_replicate, List.length_set, List.length_map, List.length_zipWith, List.length_take, List.length_append, List.length_cons, List.length_nil]; omega)) ?_ | refine g_c (by assumption) ?_); conv => whnf)); (first | exact Recast.refl _ | exact Frz.recast (Recast.refl _) rfl | (refine Frz.one rfl rfl ?_; skip) | (refine Frz.tup ?_; skip))
theorem tQ_size (q : Rat) : (tQ q).size ≤ fs q + fs q + 4 := by
  have n1 := fsz_num q
  have n2 := fsz_den q
  have hs := tZ_sizeG q.num
  have hs2 := tN_sizeG q.den
  unfold fs
  unfold tQ
  split
  · omega
  · rw [ByteArray.size_append, ByteArray.size_append]; have : ("/".toUTF8).size = 1 := rfl; omega
/-- The text of some fractions, with blanks. -/
theorem join_size : ∀ (l : List (List UInt8)) (B : Nat), (∀ x ∈ l, x.length ≤ B) → (Lib.join l [32]).length ≤ l.length * (B + 1)
  | [], B, _ => by simp [Lib.join_nil]
  | [x], B, h => by rw [Lib.join_one]; have := h x (List.mem_cons_self ..); simp; omega
  | x :: y :: l, B, h => by
    have ih := join_size (y :: l) B (fun z hz => h z (List.mem_cons_of_mem _ hz))
    have hx := h x (List.mem_cons_self ..)
    have e : Lib.join (x :: y :: l) [32] = x ++ [32] ++ Lib.join (y :: l) [32] := by rw [Lib.join_cons, Lib.join_cons]; simp [Lib.joinTail]
    rw [e]
    simp only [List.length_append, List.length_cons, List.length_nil] at *
    rw [Nat.succ_mul (l.length + 1)]
    omega
theorem tV_join {a : List Rat} {B : Nat} (hl : a.length ≤ 2048) (h : ∀ i, i < a.length → fs (a.getD i 0) ≤ B) (hB : B ≤ 1000000000) : (Lib.join ((a.map tQ).map (·.data.toList)) [32]).length ≤ 140737488355328 := by
  refine Nat.le_trans (join_size _ (2 * B + 4) ?_) ?_
  · intro x hx
    obtain ⟨s, hs, rfl⟩ := List.mem_map.1 hx
    obtain ⟨q, hq, rfl⟩ := List.mem_map.1 hs
    obtain ⟨i, hi, rfl⟩ := mem_getD hq 0
    have h1 := tQ_size (a.getD i 0)
    have h2 := h i hi
    show (tQ (a.getD i 0)).data.toList.length ≤ _
    have : (tQ (a.getD i 0)).data.toList.length = (tQ (a.getD i 0)).size := Array.length_toList
    omega
  · rw [List.length_map, List.length_map]
    have : a.length * (2 * B + 4 + 1) ≤ 2048 * (2 * B + 4 + 1) := Nat.mul_le_mul_right _ hl
    omega
theorem t_VecG (a : List Rat) (B : Nat) (hl : a.length ≤ 2048) (h : ∀ i, i < a.length → fs (a.getD i 0) ≤ B) (hB : B ≤ 1000000000) : CallOK Tryz.prog 81 [fvec a] [] (.val (.string (tV a))) [] [] := by
  have hJ := tV_join hl h hB
  have hz : ((a.map tQ).map sel).length = a.length := by simp
  have hget : ∀ i, i < a.length → ((a.map tQ).map sel).getD i .any = .val (.string (tQ (a.getD i 0))) := fun i hi => by rw [map_get (d := ByteArray.empty) (by simpa using hi), map_get (d := 0) hi]; rfl
  have kj := t_Join (a.map tQ) (by simp; omega) hJ
  refine callF (Z := []) tabOK mixedOK Tryz.func81 rfl (by kernel_rfl) (by first | rfl | (simp [keylessL, keyless, keylessL_map, *]; done)) (by first | rfl | (simp [keylessL, keyless, keylessL_map, *]; done)) (by kernel_rfl) rfl ?_
  intro w0 ρ0 hE
  conv => whnf
  (repeat (first | (refine And.intro (by first | decide | omega | (simp only [tl0, dlen, List.length_replicate, List.length_set, List.length_map, List.length_zipWith, List.length_take, List.length_append, List.length_cons, List.length_nil]; omega)) ?_; conv => whnf) | (refine g_o (op_lenM rfl rfl rfl (ev_ok rfl) (tgt rfl) rfl) ?_; conv => whnf) | (rw [Int.toNat_natCast]; conv => whnf)))
  refine SW_loopS hE (fun k => k) [0, 2, 3, 9, 10, 11] [8] (fun m fr hp => ∃ i, m = a.length - i ∧ i ≤ a.length ∧ fr = [(0, fvec a), (2, .val (.string ⟨#[]⟩)), (3, .slc 8 1 0 a.length), (9, fvec a), (10, .val (.int .i64 (a.length : Nat))), (11, .val (.int .i64 (i : Nat)))] ∧
    hp = [(8, ⟨9, true, .seq 1 (((a.map tQ).map sel).take i ++ List.replicate (a.length - i) (.val (.string .empty)))⟩)]) a.length ?_ ?_ ?_
  · kernel_rfl
  · exact ⟨0, rfl, Nat.zero_le _, rfl, rfl⟩
  rintro m _ _ ⟨i, rfl, hi, rfl, rfl⟩
  have hlen := fill_len (d := SV.val (.string .empty)) hi hz
  by_cases hlt : i < a.length
  · have t1 := dlt hlt
    have t2 := winc (i := i) (by omega)
    have k1 := t_FracG (a.getD i 0) (Nat.le_trans (h i hlt) (by omega))
    refine SWx.of hE ?_
    conv => whnf
    have e3 := fill_get (d := SV.val (.string .empty)) (e := SV.any) hlt hz
    (repeat ((first | refine step_w1 rfl rfl ?_ | refine And.intro (by first | decide | omega | (simp only [tl0, dlen, List.length_replicate, List.length_set, List.length_map, List.length_zipWith, List.length_take, List.length_append, List.length_cons, List.length_nil]; omega)) ?_ | refine g_c (by assumption) ?_ | refine g_o (op_indexN (α := Rat) (d := 0) rfl (ev_ok rfl) (ev_ok rfl) (tgt rfl) rfl (tgt rfl) rfl (by omega)) ?_ | refine g_o (op_loadA rfl (ev_ok rfl) (tgt rfl) rfl (Nat.succ_ne_zero _) rfl) ?_ | rw [t1] | rw [e3] | rw [t2] | rw [Int.toNat_natCast] | rw [Nat.zero_add]); conv => whnf))
    refine ⟨a.length - (i + 1), fun k => k, [0, 2, 3, 9, 10, 11], [8], by omega, by kernel_rfl, i + 1, rfl, hlt, rfl, ?_⟩
    rw [← fill_set (e := .any) hlt hz, hget i hlt]
    rfl
  · have t1 := dge hlt
    have hI : i = a.length := by omega
    subst hI
    rw [fill_all hz]
    refine SWx_freezeM 3 8 (fun _ h => h) (fun _ => rfl) rfl rfl (by simp) ?_
    refine SWx.of hE ?_
    conv => whnf
    have h91 : (ByteArray.mk #[91]).size = 1 := rfl
    have h93 : (ByteArray.mk #[93]).size = 1 := rfl
    have hjs : (ByteArray.mk (Lib.join ((a.map tQ).map (·.data.toList)) [32]).toArray).size = (Lib.join ((a.map tQ).map (·.data.toList)) [32]).length := by show (Lib.join ((a.map tQ).map (·.data.toList)) [32]).toArray.size = _; simp
    have o1 : (ByteArray.mk #[91]).size + (ByteArray.mk (Lib.join ((a.map tQ).map (·.data.toList)) [32]).toArray).size ≤ 9223372036854775807 := by omega
    have o2 : (ByteArray.mk #[91] ++ ByteArray.mk (Lib.join ((a.map tQ).map (·.data.toList)) [32]).toArray).size + (ByteArray.mk #[93]).size ≤ 9223372036854775807 := by rw [ByteArray.size_append]; omega
    (repeat ((first | refine step_w2 rfl rfl ?_ | refine And.intro (by first | decide | omega | (simp only [tl0, dlen, List.length_replicate, List.length_set, List.length_map, List.length_zipWith, List.length_take, List.length_append, List.length_cons, List.length_nil]; omega)) ?_ | refine g_c (by assumption) ?_ | rw [t1]); conv => whnf)); (first | exact Recast.refl _ | exact Frz.recast (Recast.refl _) rfl | (refine Frz.one rfl rfl ?_; skip) | (refine Frz.tup ?_; skip))
end Go.Proofs.YtkpfineikahgfaaGreatDoor

namespace Go.Proofs.YtkpfineikahgfaaGreatDoor
open Go.Sx
set_option linter.unusedSimpArgs false
set_option linter.unusedVariables false
set_option maxRecDepth 100000
set_option maxHeartbeats 4000000

abbrev iv (n : Int) : SV := .val (.int .i64 n)
abbrev mA (r c : Int) (a : List Rat) : SV := .agg [iv r, iv c, fvec a]
/-- A matrix as it lies behind a pointer. -/
abbrev mC (r c : Int) (a : List Rat) : List SV := [iv r, iv c, fvec a]
abbrev MV := Int × Int × List Rat
abbrev mB (m : MV) : SV := mA m.1 m.2.1 m.2.2

/-- The error of numbers of rows and columns. -/
def sidesF (r c : Int) : Int := if r < 0 ∨ c < 0 then 1 else if r > 2048 ∨ c > 2048 then 3 else 0
theorem m_sides (r c : Int) : CallOK Tryz.prog 83 [iv r, iv c] [] (iv (sidesF r c)) [] [] := by
  refine callV (Z := []) tabOK mixedOK Tryz.func83 rfl (by kernel_rfl) rfl rfl (by kernel_rfl) rfl ?_
  intro W0 w0 ρ0 hE
  conv => whnf
  unfold sidesF
  by_cases h1 : r < 0
  · have t1 : decide (r < 0) = true := decide_eq_true h1
    rw [if_pos (.inl h1)]
    (repeat ((first | refine step_w1 rfl rfl ?_ | refine step_w2 rfl rfl ?_ | refine g_o (op_pickT rfl (ev_ok rfl) (ev_ok rfl)) ?_ | rw [t1]); conv => whnf)); (first | exact Recast.refl _ | exact Frz.recast (Recast.refl _) rfl | (refine Frz.one rfl rfl ?_; skip) | (refine Frz.tup ?_; skip))
  have t1 : decide (r < 0) = false := decide_eq_false h1
  by_cases h2 : c < 0
  · have t2 : decide (c < 0) = true := decide_eq_true h2
    rw [if_pos (.inr h2)]
    (repeat ((first | refine step_w1 rfl rfl ?_ | refine g_o (op_pickF rfl (ev_ok rfl) (ev_ok rfl)) ?_ | rw [t1] | rw [t2]); conv => whnf)); (first | exact Recast.refl _ | exact Frz.recast (Recast.refl _) rfl | (refine Frz.one rfl rfl ?_; skip) | (refine Frz.tup ?_; skip))
  have t2 : decide (c < 0) = false := decide_eq_false h2
  rw [if_neg (by omega)]
  by_cases h3 : r > 2048
  · have t3 : decide (r > 2048) = true := decide_eq_true h3
    rw [if_pos (.inl h3)]
    (repeat ((first | refine step_w1 rfl rfl ?_ | refine step_w2 rfl rfl ?_ | refine g_o (op_pickT rfl (ev_ok rfl) (ev_ok rfl)) ?_ | refine g_o (op_pickF rfl (ev_ok rfl) (ev_ok rfl)) ?_ | rw [t1] | rw [t2] | rw [t3]); conv => whnf)); (first | exact Recast.refl _ | exact Frz.recast (Recast.refl _) rfl | (refine Frz.one rfl rfl ?_; skip) | (refine Frz.tup ?_; skip))
  have t3 : decide (r > 2048) = false := decide_eq_false h3
  by_cases h4 : c > 2048
  · have t4 : decide (c > 2048) = true := decide_eq_true h4
    rw [if_pos (.inr h4)]
    (repeat ((first | refine step_w1 rfl rfl ?_ | refine step_w2 rfl rfl ?_ | refine g_o (op_pickF rfl (ev_ok rfl) (ev_ok rfl)) ?_ | rw [t1] | rw [t2] | rw [t3] | rw [t4]); conv => whnf)); (first | exact Recast.refl _ | exact Frz.recast (Recast.refl _) rfl | (refine Frz.one rfl rfl ?_; skip) | (refine Frz.tup ?_; skip))
  have t4 : decide (c > 2048) = false := decide_eq_false h4
  rw [if_neg (by omega)]
  (repeat ((first | refine step_w1 rfl rfl ?_ | refine step_w2 rfl rfl ?_ | refine g_o (op_pickF rfl (ev_ok rfl) (ev_ok rfl)) ?_ | rw [t1] | rw [t2] | rw [t3] | rw [t4]); conv => whnf)); (first | exact Recast.refl _ | exact Frz.recast (Recast.refl _) rfl | (refine Frz.one rfl rfl ?_; skip) | (refine Frz.tup ?_; skip))

theorem sides_ok {r c : Int} (h : sidesF r c = 0) : (0 ≤ r ∧ r ≤ 2048) ∧ (0 ≤ c ∧ c ≤ 2048) := by
  unfold sidesF at h
  by_cases h1 : r < 0 ∨ c < 0
  · rw [if_pos h1] at h; omega
  · rw [if_neg h1] at h
    by_cases h2 : r > 2048 ∨ c > 2048
    · rw [if_pos h2] at h; omega
    · omega
theorem sides_of {r c : Int} (h : (0 ≤ r ∧ r ≤ 2048) ∧ (0 ≤ c ∧ c ≤ 2048)) : sidesF r c = 0 := by
  unfold sidesF; rw [if_neg (by omega), if_neg (by omega)]
theorem prod_le {r c : Int} (h : (0 ≤ r ∧ r ≤ 2048) ∧ (0 ≤ c ∧ c ≤ 2048)) : 0 ≤ r * c ∧ r * c ≤ 4194304 := by
  obtain ⟨⟨a, b⟩, d, e⟩ := h
  refine ⟨Int.mul_nonneg a d, ?_⟩
  exact Int.le_trans (Int.mul_le_mul b e d (by decide)) (by decide)

/-- The error of a matrix. -/
def checkF (r c : Int) (n : Nat) : Int := if sidesF r c ≠ 0 then sidesF r c else if (n : Int) ≠ r * c then 1 else 0
theorem m_Check (r c : Int) (a : List Rat) (hn : a.length < 1099511627776) : CallOK Tryz.prog 43 [mA r c a] [] (iv (checkF r c a.length)) [] [] := by
  have k1 := m_sides r c
  refine callV (Z := []) tabOK mixedOK Tryz.func43 rfl (by kernel_rfl) rfl rfl (by kernel_rfl) rfl ?_
  intro W0 w0 ρ0 hE
  conv => whnf
  unfold checkF
  by_cases h1 : sidesF r c = 0
  · rw [if_neg (by omega)]
    rw [h1] at k1
    have hp := prod_le (sides_ok h1)
    have t2 : IntKind.i64.wrap (r * c) = r * c := wrap_i64 (by omega) (by omega)
    by_cases h2 : (a.length : Int) = r * c
    · have t3 : ((a.length : Int) != r * c) = false := by rw [h2]; exact bne_self_eq_false _
      rw [if_neg (by omega)]
      clear hp
      (repeat ((first | refine step_w2 rfl rfl ?_ | refine g_c (by assumption) ?_ | rw [bne_self_eq_false] | refine g_o (op_lenM rfl rfl rfl (ev_ok rfl) (tgt rfl) rfl) ?_ | rw [t2] | rw [t3]); conv => whnf)); (first | exact Recast.refl _ | exact Frz.recast (Recast.refl _) rfl | (refine Frz.one rfl rfl ?_; skip) | (refine Frz.tup ?_; skip))
    · have t3 : ((a.length : Int) != r * c) = true := bne_iff_ne.2 h2
      rw [if_pos h2]
      clear hp
      (repeat ((first | refine step_w1 rfl rfl ?_ | refine step_w2 rfl rfl ?_ | refine g_c (by assumption) ?_ | rw [bne_self_eq_false] | refine g_o (op_lenM rfl rfl rfl (ev_ok rfl) (tgt rfl) rfl) ?_ | rw [t2] | rw [t3]); conv => whnf)); (first | exact Recast.refl _ | exact Frz.recast (Recast.refl _) rfl | (refine Frz.one rfl rfl ?_; skip) | (refine Frz.tup ?_; skip))
  · have t1 : (sidesF r c != 0) = true := bne_iff_ne.2 h1
    rw [if_pos h1]
    (repeat (first | (refine step_w1 rfl rfl ?_; conv => whnf) | (refine g_c (by assumption) ?_; conv => whnf) | (rw [t1]; conv => whnf))); (first | exact Recast.refl _ | exact Frz.recast (Recast.refl _) rfl | (refine Frz.one rfl rfl ?_; skip) | (refine Frz.tup ?_; skip))
theorem check_ok {r c : Nat} {n : Nat} (hr : r ≤ 2048) (hc : c ≤ 2048) (hn : n = r * c) : checkF r c n = 0 := by
  unfold checkF
  rw [sides_of (by omega), if_neg (by omega), if_neg (by rw [hn]; push_cast; omega)]
/-- A matrix that fits. -/
structure OKM (R C : Nat) (a : List Rat) : Prop where
  r : R ≤ 2048
  c : C ≤ 2048
  n : a.length = R * C
theorem OKM.small {r c : Nat} {a : List Rat} (h : OKM r c a) : a.length ≤ 4194304 := by rw [h.n]; exact Nat.mul_le_mul h.r h.c
theorem m_Check0 {r c : Nat} {a : List Rat} (h : OKM r c a) : CallOK Tryz.prog 43 [mA r c a] [] (iv 0) [] [] := by
  have := m_Check r c a (by have := h.small; omega)
  rwa [check_ok h.r h.c h.n] at this

/-- The error of the first invalid matrix. -/
def allF : List MV → Int
  | [] => 0
  | m :: l => if checkF m.1 m.2.1 m.2.2.length ≠ 0 then checkF m.1 m.2.1 m.2.2.length else allF l
theorem drop_one {α : Type} {l : List α} {i : Nat} (d : α) (h : i < l.length) : l.drop i = l.getD i d :: l.drop (i + 1) := by
  rw [List.drop_eq_getElem_cons h, List.getD_eq_getElem?_getD, List.getElem?_eq_getElem h]; rfl
abbrev nilM : MV := (0, 0, [])
theorem m_all (l : List MV) (hl : l.length < 1099511627776) (h : ∀ m ∈ l, m.2.2.length < 1099511627776) : CallOK Tryz.prog 172 [mvec 3 mB l] [] (iv (allF l)) [] [] := by
  refine callV (Z := []) tabOK mixedOK Tryz.func172 rfl (by kernel_rfl) rfl rfl (by kernel_rfl) rfl ?_
  intro W0 w0 ρ0 hE
  conv => whnf
  (repeat (first | (refine g_o (op_lenM rfl rfl rfl (ev_ok rfl) (tgt rfl) rfl) ?_; conv => whnf)))
  refine SW_loopN hE (fun k => k) [0, 6, 7, 8] [] (fun m fr hp => ∃ i : Nat, m = l.length - i ∧ i ≤ l.length ∧ allF (l.drop i) = allF l ∧ fr = [(0, mvec 3 mB l), (6, mvec 3 mB l), (7, iv (l.length : Nat)), (8, iv (i : Nat))] ∧ hp = []) l.length ?_ ?_ ?_
  · kernel_rfl
  · exact ⟨0, rfl, Nat.zero_le _, rfl, rfl, rfl⟩
  rintro m _ _ ⟨i, rfl, hi, hs, rfl, rfl⟩
  conv => whnf
  by_cases hlt : i < l.length
  · have t1 := dlt hlt
    have t2 := winc (i := i) (by omega)
    have k1 := m_Check (l.getD i nilM).1 (l.getD i nilM).2.1 (l.getD i nilM).2.2 (h _ (getD_mem hlt))
    rw [drop_one nilM hlt, allF] at hs
    by_cases hc : checkF (l.getD i nilM).1 (l.getD i nilM).2.1 (l.getD i nilM).2.2.length = 0
    · rw [if_neg (by omega)] at hs
      rw [hc] at k1
      (repeat ((first | refine step_w1 rfl rfl ?_ | refine step_w2 rfl rfl ?_ | refine g_c (by assumption) ?_ | rw [bne_self_eq_false] | refine g_o (op_loadA rfl (ev_ok rfl) (tgt rfl) rfl (Nat.succ_ne_zero _) rfl) ?_ | refine g_o (op_indexN (α := MV) (d := nilM) rfl (ev_ok rfl) (ev_ok rfl) (tgt rfl) rfl (tgt rfl) rfl (by omega)) ?_ | rw [t1] | rw [t2]); conv => whnf))
      exact ⟨l.length - (i + 1), fun k => k, [0, 6, 7, 8], [], by omega, by kernel_rfl, i + 1, rfl, hlt, hs, rfl, rfl⟩
    · have t3 : (checkF (l.getD i nilM).1 (l.getD i nilM).2.1 (l.getD i nilM).2.2.length != 0) = true := bne_iff_ne.2 hc
      rw [if_pos hc] at hs
      rw [← hs]
      (repeat ((first | refine step_w1 rfl rfl ?_ | refine g_c (by assumption) ?_ | refine g_o (op_loadA rfl (ev_ok rfl) (tgt rfl) rfl (Nat.succ_ne_zero _) rfl) ?_ | refine g_o (op_indexN (α := MV) (d := nilM) rfl (ev_ok rfl) (ev_ok rfl) (tgt rfl) rfl (tgt rfl) rfl (by omega)) ?_ | rw [t1] | rw [t3]); conv => whnf)); (first | exact Recast.refl _ | exact Frz.recast (Recast.refl _) rfl | (refine Frz.one rfl rfl ?_; skip) | (refine Frz.tup ?_; skip))
  · have t1 := dge hlt
    have hI : i = l.length := by omega
    rw [hI, List.drop_length] at hs
    rw [← hs]
    (repeat (first | (refine step_w2 rfl rfl ?_; conv => whnf) | (rw [t1]; conv => whnf))); (first | exact Recast.refl _ | exact Frz.recast (Recast.refl _) rfl | (refine Frz.one rfl rfl ?_; skip) | (refine Frz.tup ?_; skip))
theorem m_all2 {r c s t : Nat} {a b : List Rat} (ha : OKM r c a) (hb : OKM s t b) : CallOK Tryz.prog 172 [mvec 3 mB [((r : Int), (c : Int), a), ((s : Int), (t : Int), b)]] [] (iv 0) [] [] := by
  have := m_all [((r : Int), (c : Int), a), ((s : Int), (t : Int), b)] (by simp) (by
    intro m hm
    have h1 := ha.small; have h2 := hb.small
    simp only [List.mem_cons, List.not_mem_nil, or_false] at hm
    rcases hm with rfl | rfl
    · show a.length < _; omega
    · show b.length < _; omega)
  rwa [allF, if_neg (by rw [check_ok ha.r ha.c ha.n]; decide), allF, if_neg (by rw [check_ok hb.r hb.c hb.n]; decide), allF] at this
theorem idx_w {i k c : Nat} (hi : i ≤ 2048) (hc : c ≤ 2048) (hk : k ≤ 2048) : IntKind.i64.wrap ((i : Int) * (c : Int)) = ((i * c : Nat) : Int) ∧ IntKind.i64.wrap (((i * c : Nat) : Int) + (k : Int)) = ((i * c + k : Nat) : Int) := by
  have h1 : i * c ≤ 2048 * 2048 := Nat.mul_le_mul hi hc
  constructor
  · rw [← Int.natCast_mul, wrap_i64 (by omega) (by omega)]
  · rw [wrap_i64 (by omega) (by omega)]; omega
theorem m_at {r c : Nat} {a : List Rat} (h : OKM r c a) {i k : Nat} (hi : i < r) (hk : k < c) : CallOK Tryz.prog 157 [mA r c a, iv i, iv k] [] (.frac (el a c i k)) [] [] := by
  obtain ⟨t1, t2⟩ := idx_w (i := i) (k := k) (c := c) (by have := h.r; omega) h.c (by have := h.c; omega)
  have hlt := idx_lt hi hk
  rw [← h.n] at hlt
  refine callV (Z := []) tabOK mixedOK Tryz.func157 rfl (by kernel_rfl) rfl rfl (by kernel_rfl) rfl ?_
  intro W0 w0 ρ0 hE
  conv => whnf
  (repeat ((first | refine g_o (op_loadA rfl (ev_ok rfl) (tgt rfl) rfl (Nat.succ_ne_zero _) rfl) ?_ | refine g_o (op_indexM (α := Rat) (d := 0) rfl (ev_ok rfl) (ev_ok rfl) (tgt rfl) rfl (tgt rfl) rfl (by omega)) ?_ | rw [t1] | rw [t2] | rw [Int.toNat_natCast]); conv => whnf)); (first | exact Recast.refl _ | exact Frz.recast (Recast.refl _) rfl | (refine Frz.one rfl rfl ?_; skip) | (refine Frz.tup ?_; skip))

/-- A row. -/
abbrev rowL (a : List Rat) (c i : Nat) : List Rat := (a.drop (i * c)).take c
theorem rowL_len {r c i : Nat} {a : List Rat} (hi : i < r) (h : a.length = r * c) : (rowL a c i).length = c := by
  have := Nat.mul_le_mul_right c (show i + 1 ≤ r from hi)
  rw [Nat.succ_mul] at this
  rw [List.length_take, List.length_drop]; omega
theorem rowL_get {a : List Rat} {c i k : Nat} (hk : k < c) : (rowL a c i).getD k 0 = el a c i k := by
  simp [List.getD_eq_getElem?_getD, hk]
theorem row_w {i c : Nat} (hi : i ≤ 2047) (hc : c ≤ 2048) : IntKind.i64.wrap ((i : Int) * (c : Int)) = ((i * c : Nat) : Int) ∧ IntKind.i64.wrap (((i + 1 : Nat) : Int) * (c : Int)) = (((i + 1) * c : Nat) : Int) ∧ IntKind.i64.wrap ((i : Int) + 1) = ((i + 1 : Nat) : Int) :=
  ⟨(idx_w (i := i) (k := 0) (by omega) hc (by omega)).1, (idx_w (i := i + 1) (k := 0) (by omega) hc (by omega)).1, winc (by omega)⟩
theorem m_rowV {r c : Nat} {a : List Rat} (h : OKM r c a) {i : Nat} (hi : i < r) : CallOK Tryz.prog 84 [mA r c a, iv i] [] (fvec (rowL a c i)) [] [] := by
  obtain ⟨t1, t2, t3⟩ := row_w (i := i) (c := c) (by have := h.r; omega) h.c
  have hlt := Nat.mul_le_mul_right c (show i + 1 ≤ r from hi)
  have hle : i * c ≤ (i + 1) * c := Nat.mul_le_mul_right c (by omega)
  rw [← h.n] at hlt
  have e1 : (i + 1) * c - i * c = c := by rw [Nat.succ_mul]; omega
  refine callV (Z := []) tabOK mixedOK Tryz.func84 rfl (by kernel_rfl) rfl rfl (by kernel_rfl) rfl ?_
  intro W0 w0 ρ0 hE
  conv => whnf
  (repeat ((first | refine step_i (by kernel_rfl) ?_ | refine g_o (op_sliceM rfl (ev_ok rfl) (bound_spec rfl) (bound_spec rfl) (.inr ⟨Option.some_ne_none _, _, _, rfl, ev_ok rfl⟩) (tgt rfl) rfl (tgt rfl) rfl (by omega)) ?_ | rw [t1] | rw [t3] | rw [t2] | rw [e1] | rw [Int.toNat_natCast]); conv => whnf))
  (first | exact Recast.refl _ | exact Frz.recast (Recast.refl _) rfl | (refine Frz.one rfl rfl ?_; skip) | (refine Frz.tup ?_; skip))
end Go.Proofs.YtkpfineikahgfaaGreatDoor

namespace Go.Sx
set_option linter.unusedSimpArgs false
set_option linter.unusedVariables false
section
variable {P : Program} {o : Oper} {ft : List (Nat × SV)} {fk : List (Nat × Blk)}
/-- 'x[lo:hi:hi]' of a slice, within its length. -/
theorem op_slice3 {t e : TypeId} {x lo hi mx : Operand} {ti te : TI} {k s i n : Nat} {l h : Int} {kl kh km : IntKind} (ho : o.op = .slice t x (some lo) (some hi) (some mx)) (hx : EvOK ft x (.slc k s i n))
    (hlo : EvOK ft lo (.val (.int kl l))) (hhi : EvOK ft hi (.val (.int kh h))) (hmx : EvOK ft mx (.val (.int km h)))
    (ht : TOK P t ti) (hk : ti.kind = .slc e) (he : TOK P e te) (hs : te.size = s) (hh : 0 ≤ l ∧ l ≤ h ∧ h ≤ n) : OpOK P o ft fk (.slc k s (i + l.toNat) (h - l).toNat) [] [] :=
  ok_pure fun ρ a w hp => by
    obtain ⟨h0, hlh, hh⟩ := hh
    have hu := ht.kind; rw [hk] at hu
    have key : ∀ (ad : Option Addr) (m cap : Nat), n = m → m ≤ cap → a.eval x = .slice ad m cap →
        (execOp a.eval o).run P w = .ok (.value (.slice (if h.toNat = l.toNat then ad else ad.map (·.add (l.toNat * s))) (h.toNat - l.toNat) (h.toNat - l.toNat))) w := by
      intro ad m cap hnm hmc hv
      have hr : ∀ (z : Operand) (kd : IntKind) (bd : Nat), EvOK ft z (.val (.int kd h)) → h.toNat ≤ bd → ∀ q, (Instr.sliceBound (a.eval z) bd q).run P w = .ok h.toNat w := by
        intro z kd bd hz hbd q
        have := of_has_val (hz ρ a hp.hft)
        have hb : 0 ≤ h ∧ h ≤ (bd : Int) := by omega
        simp [Instr.sliceBound, this, asIntOf, hb]
      have hl : ∀ q, (Instr.sliceBound (a.eval lo) h.toNat q).run P w = .ok l.toNat w := by
        intro q
        have := of_has_val (hlo ρ a hp.hft)
        have hb : 0 ≤ l ∧ l ≤ (h.toNat : Int) := by omega
        simp only [Instr.sliceBound, this, asIntOf, Sem.run_bind, Sem.run_pure, Result.andThen_ok, hb, and_self, if_true]
      have hbnds : (Instr.sliceBounds true m cap (some (a.eval lo)) (some (a.eval hi)) (some (a.eval mx))).run P w = .ok (l.toNat, h.toNat, h.toNat) w := by
        unfold Instr.sliceBounds
        simp [hr mx km cap hmx (by omega), hr hi kh h.toNat hhi (Nat.le_refl _), hl]
      simp only [execOp, ho, Option.map_some, Instr.sliceAt, Sem.run_bind, run_underlying hu, Result.andThen_ok, Instr.slice, hv, hbnds, he.sizeOf, hs, Sem.run_pure]
    rcases has_slc (hx ρ a hp.hft) with ⟨b, t', cap, h1, h2, h3, h4⟩ | ⟨rfl, ad, h4⟩
    · refine ⟨_, key _ n cap rfl h2 h4, slc_has ?_⟩
      by_cases hc : h.toNat = l.toNat
      · right
        have : h.toNat - l.toNat = 0 := by omega
        refine ⟨by omega, some ⟨b, i * s, none⟩, ?_⟩
        rw [if_pos hc, this]
      · left
        refine ⟨b, t', h.toNat - l.toNat, h1, by omega, ?_, ?_⟩
        · exact Nat.le_trans (Nat.mul_le_mul_right s (show i + l.toNat + (h.toNat - l.toNat) ≤ i + cap by omega)) h3
        · rw [if_neg hc]
          have hadd : (⟨b, i * s, none⟩ : Addr).add (l.toNat * s) = ⟨b, (i + l.toNat) * s, none⟩ := by
            unfold Addr.add
            rw [Nat.add_mul]
            split
            · rename_i h0; simp [h0]
            · rfl
          rw [Option.map_some, hadd, show (h - l).toNat = h.toNat - l.toNat from by omega]
    · refine ⟨_, key ad 0 0 rfl (Nat.le_refl _) h4, slc_has (.inr ⟨by omega, ad, ?_⟩)⟩
      have h1 : l.toNat = 0 := by omega
      have h2 : h.toNat = 0 := by omega
      simp [h1, h2]
/-- A function that is no nil. -/
theorem op_eqNilF {f : FuncId} {a b : List SV} {t t2 : TypeId} {x y : Operand} {p r : Array TypeId} {v : Bool} (ho : o.op = .binOp .eql t x y t2) (hx : EvOK ft x (.clo f a b)) (hy : EvOK ft y (.val .nilFunc)) (hu : P.underlying t = some (.func p r v)) : OpOK P o ft fk (.val (.bool false)) [] [] :=
  ok_pure fun ρ ac w hp => by
    have h1 := hx ρ ac hp.hft
    simp only [Has, HasC] at h1
    obtain ⟨_, ⟨fz, cz, _, _, rfl⟩, e1⟩ := h1
    have e2 := of_has_val (hy ρ ac hp.hft)
    simp only [mkV, SV.isOne, if_true, List.headD_cons] at e1
    have hq : ∀ d vs ws, (Op.equalIn (d + 1) t (.func (.func f) vs ws) .nilFunc).run P w = .ok false w := fun d vs ws => by simp [Op.equalIn, run_underlying hu]
    have hq' : ∀ vs ws, (Op.equal t (.func (.func f) vs ws) .nilFunc).run P w = .ok false w := fun vs ws => hq 9999 vs ws
    refine ⟨_, ?_, has_val rfl⟩
    simp [execOp, ho, e1, e2, eqGuard, binOp, hq']
end
end Go.Sx
namespace Go.Proofs.YtkpfineikahgfaaGreatDoor
open Go.Sx
set_option linter.unusedSimpArgs false
set_option linter.unusedVariables false
set_option maxRecDepth 100000
set_option maxHeartbeats 4000000

/-- The zero matrix behind a pointer; a matrix whose elements lie in the block K. -/
abbrev zM : Blk := ⟨27, true, .one [iv 0, iv 0, .val (.slice none 0 0)]⟩
abbrev bM (r c K : Nat) : Blk := ⟨27, true, .one [iv r, iv c, .slc K 5 0 (r * c)]⟩
abbrev fblk (l : List Rat) : Blk := ⟨38, true, .fracs l⟩
theorem m_rowM {r c : Nat} {a : List Rat} (h : OKM r c a) {i : Nat} (hi : i < r) (K : Nat) : CallOK Tryz.prog 84 [.agg [iv r, iv c, .slc K 5 0 (r * c)], iv i] [(K, fblk a)] (.slc K 5 (i * c) c) [] [] := by
  obtain ⟨t1, t2, t3⟩ := row_w (i := i) (c := c) (by have := h.r; omega) h.c
  have hlt := Nat.mul_le_mul_right c (show i + 1 ≤ r from hi)
  have hle : i * c ≤ (i + 1) * c := Nat.mul_le_mul_right c (by omega)
  have e1 : (((i + 1) * c : Nat) - (i * c : Nat) : Int).toNat = c := by rw [Nat.succ_mul]; omega
  refine CallOK.anyWr ?_
  refine callK (Z := []) tabOK mixedOK Tryz.func84 rfl (by kernel_rfl) (args := [.agg [iv r, iv c, .slc 1001 5 0 (r * c)], iv i]) (fk := [(1001, ⟨38, false, .fracs a⟩)]) (c := .slc 1001 5 (i * c) c) (new := []) (upd := []) (ShapeOK.of rfl rfl rfl rfl rfl rfl rfl rfl rfl rfl rfl) rfl (fun _ => K) (NamesOK.ro rfl) ?_
  intro W0 w0 ρ0 hE
  conv => whnf
  (repeat ((first | refine step_i (by kernel_rfl) ?_ | refine g_o (op_slice3 rfl (ev_ok rfl) (ev_ok rfl) (ev_ok rfl) (ev_ok rfl) (tgt rfl) rfl (tgt rfl) rfl (by omega)) ?_ | rw [t1] | rw [t3] | rw [t2] | rw [e1] | rw [Int.toNat_natCast] | rw [Nat.zero_add]); conv => whnf))
  exact ⟨Recast.refl _, (fun _ _ h => by cases h), (fun _ _ h => by cases h)⟩

theorem m_Make0 {r c : Nat} (hr : r ≤ 2048) (hc : c ≤ 2048) (F : Nat → Nat → Rat) (g : FuncId) 
    (hf : ∀ i k, i < r → k < c → CallOK Tryz.prog g ([] ++ ([iv (i : Nat), iv (k : Nat)] ++ [])) [] (.frac (F i k)) [] []) :
    CallOK Tryz.prog 14 [iv r, iv c, .clo g [] []] [] (.tup [mA r c (mk r c F), iv 0]) [] [] := by
  have k1 := m_sides r c
  rw [sides_of (by omega)] at k1
  have hz : (mk r c F).length = r * c := mk_len ..
  have hrc : r * c ≤ 2048 * 2048 := Nat.mul_le_mul hr hc
  have t1 : IntKind.i64.wrap ((r : Int) * (c : Int)) = ((r * c : Nat) : Int) := by rw [← Int.natCast_mul, wrap_i64 (by omega) (by omega)]
  refine callF (Z := []) tabOK mixedOK Tryz.func14 rfl (by kernel_rfl) (by first | rfl | (simp [keylessL, keyless, keylessL_map, *]; done)) (by first | rfl | (simp [keylessL, keyless, keylessL_map, *]; done)) (by kernel_rfl) rfl ?_
  intro w0 ρ0 hE
  conv => whnf
  (repeat ((first | refine step_w2 rfl rfl ?_ | refine step_oA (by first | omega | decide | (simp only [tl0, dlen, List.length_replicate, List.length_set, List.length_map, List.length_zipWith, List.length_take, List.length_append, List.length_cons, List.length_nil]; omega)) ?_ | refine g_c (by assumption) ?_ | rw [bne_self_eq_false] | refine ⟨_, op_eqNilF rfl (ev_ok rfl) (ev_ok rfl) Tryz.underlying40, ?_⟩ | rw [t1] | rw [Int.toNat_natCast]); conv => whnf))
  refine SW_loopN hE (fun k => k) [0, 1, 2, 6, 9, 30, 31] [6, 9, 25] (fun m fr hp => ∃ i : Nat, m = r - i ∧ i ≤ r ∧ fr = [(0, iv r), (1, iv c), (2, .clo g [] []), (6, .ptr 6 0 0 0), (9, .ptr 9 0 0 0), (30, iv r), (31, iv (i : Nat))] ∧
    hp = [(6, zM), (9, bM r c 25), (25, fblk ((mk r c F).take (i * c) ++ List.replicate (r * c - i * c) 0))]) r ?_ ?_ ?_
  · kernel_rfl
  · exact ⟨0, rfl, Nat.zero_le _, rfl, by rw [Nat.zero_mul, List.take_zero]; rfl⟩
  rintro m _ _ ⟨i, rfl, hi, rfl, rfl⟩
  conv => whnf
  by_cases hlt : i < r
  · have t2 := dlt hlt
    have t3 := winc (i := i) (by omega)
    have hic : (i + 1) * c ≤ r * c := Nat.mul_le_mul_right c hlt
    rw [Nat.succ_mul] at hic
    have hlen := fill_len (d := (0 : Rat)) (show i * c ≤ r * c by omega) hz
    have o1 := m_rowM (a := (mk r c F).take (i * c) ++ List.replicate (r * c - i * c) 0) ⟨hr, hc, hlen⟩ hlt 25
    (repeat (first | (refine step_w1 rfl rfl ?_; conv => whnf) | (refine g_c1 (by assumption) rfl ?_; conv => whnf) | (rw [t2]; conv => whnf)))
    refine SW_loopN hE (fun k => k) [0, 1, 2, 6, 9, 10, 11, 30, 31, 37, 38] [6, 9, 25] (fun m fr hp => ∃ k : Nat, m = c - k ∧ k ≤ c ∧ fr = [(0, iv r), (1, iv c), (2, .clo g [] []), (6, .ptr 6 0 0 0), (9, .ptr 9 0 0 0), (10, iv (i : Nat)), (11, .slc 25 5 (i * c) c), (30, iv r), (31, iv (i : Nat)), (37, iv c), (38, iv (k : Nat))] ∧
      hp = [(6, zM), (9, bM r c 25), (25, fblk ((mk r c F).take (i * c + k) ++ List.replicate (r * c - (i * c + k)) 0))]) c ?_ ?_ ?_
    · kernel_rfl
    · exact ⟨0, rfl, Nat.zero_le _, rfl, rfl⟩
    rintro m _ _ ⟨k, rfl, hk, rfl, rfl⟩
    conv => whnf
    by_cases hlk : k < c
    · have t4 := dlt hlk
      have t5 := winc (i := k) (by omega)
      have hlen := fill_len (d := (0 : Rat)) (show i * c + k ≤ r * c by omega) hz
      have o2 := hf i k hlt hlk
      rw [← mk_el (f := F) hlt hlk] at o2
      (repeat ((first | refine step_w1 rfl rfl ?_ | refine step_oL (by first | omega | decide | (simp only [tl0, dlen, List.length_replicate, List.length_set, List.length_map, List.length_zipWith, List.length_take, List.length_append, List.length_cons, List.length_nil]; omega)) ?_ | refine step_oA (by first | omega | decide | (simp only [tl0, dlen, List.length_replicate, List.length_set, List.length_map, List.length_zipWith, List.length_take, List.length_append, List.length_cons, List.length_nil]; omega)) ?_ | refine g_c (by assumption) ?_ | rw [t4] | rw [t5] | rw [Int.toNat_natCast]); conv => whnf))
      refine ⟨c - (k + 1), fun k => k, [0, 1, 2, 6, 9, 10, 11, 30, 31, 37, 38], [6, 9, 25], by omega, by kernel_rfl, k + 1, rfl, hlk, rfl, ?_⟩
      rw [show i * c + (k + 1) = i * c + k + 1 from rfl, fblk, ← fill_set (e := 0) (show i * c + k < r * c by omega) hz]
      rfl
    · have t4 := dge hlk
      obtain rfl : k = c := by omega
      (repeat (first | (refine step_w2 rfl rfl ?_; conv => whnf) | (rw [t4]; conv => whnf) | (rw [t3]; conv => whnf)))
      refine ⟨r - (i + 1), fun k => k, [0, 1, 2, 6, 9, 30, 31], [6, 9, 25], by omega, by kernel_rfl, i + 1, rfl, hlt, rfl, ?_⟩
      rw [Nat.succ_mul]
      rfl
  · have t2 := dge hlt
    obtain rfl : i = r := by omega
    rw [fill_all hz]
    (repeat (first | (refine step_w2 rfl rfl ?_; conv => whnf) | (rw [t2]; conv => whnf)))
    (first | exact Recast.refl _ | exact Frz.recast (Recast.refl _) rfl | (refine Frz.one rfl rfl ?_; skip) | (refine Frz.tup ?_; (repeat (first | exact FrzC.keyless rfl | exact FrzL.nil | refine FrzL.cons ?_ ?_ | (refine FrzC.fracs rfl ?_; (first | rfl | omega | (simp <;> fail) | (simp <;> omega))) | refine FrzC.agg ?_))))
theorem m_Make1 {r c : Nat} (hr : r ≤ 2048) (hc : c ≤ 2048) (F : Nat → Nat → Rat) (g : FuncId) (p : Pred)
    (hf : ∀ i k, i < r → k < c → CallOK Tryz.prog g ([] ++ ([iv (i : Nat), iv (k : Nat)] ++ [.atom p])) [] (.frac (F i k)) [] []) :
    CallOK Tryz.prog 14 [iv r, iv c, .clo g [] [.atom p]] [] (.tup [mA r c (mk r c F), iv 0]) [] [] := by
  have k1 := m_sides r c
  rw [sides_of (by omega)] at k1
  have hz : (mk r c F).length = r * c := mk_len ..
  have hrc : r * c ≤ 2048 * 2048 := Nat.mul_le_mul hr hc
  have t1 : IntKind.i64.wrap ((r : Int) * (c : Int)) = ((r * c : Nat) : Int) := by rw [← Int.natCast_mul, wrap_i64 (by omega) (by omega)]
  refine callF (Z := []) tabOK mixedOK Tryz.func14 rfl (by kernel_rfl) (by first | rfl | (simp [keylessL, keyless, keylessL_map, *]; done)) (by first | rfl | (simp [keylessL, keyless, keylessL_map, *]; done)) (by kernel_rfl) rfl ?_
  intro w0 ρ0 hE
  conv => whnf
  (repeat ((first | refine step_w2 rfl rfl ?_ | refine step_oA (by first | omega | decide | (simp only [tl0, dlen, List.length_replicate, List.length_set, List.length_map, List.length_zipWith, List.length_take, List.length_append, List.length_cons, List.length_nil]; omega)) ?_ | refine g_c (by assumption) ?_ | rw [bne_self_eq_false] | refine ⟨_, op_eqNilF rfl (ev_ok rfl) (ev_ok rfl) Tryz.underlying40, ?_⟩ | rw [t1] | rw [Int.toNat_natCast]); conv => whnf))
  refine SW_loopN hE (fun k => k) [0, 1, 2, 6, 9, 30, 31] [6, 9, 25] (fun m fr hp => ∃ i : Nat, m = r - i ∧ i ≤ r ∧ fr = [(0, iv r), (1, iv c), (2, .clo g [] [.atom p]), (6, .ptr 6 0 0 0), (9, .ptr 9 0 0 0), (30, iv r), (31, iv (i : Nat))] ∧
    hp = [(6, zM), (9, bM r c 25), (25, fblk ((mk r c F).take (i * c) ++ List.replicate (r * c - i * c) 0))]) r ?_ ?_ ?_
  · kernel_rfl
  · exact ⟨0, rfl, Nat.zero_le _, rfl, by rw [Nat.zero_mul, List.take_zero]; rfl⟩
  rintro m _ _ ⟨i, rfl, hi, rfl, rfl⟩
  conv => whnf
  by_cases hlt : i < r
  · have t2 := dlt hlt
    have t3 := winc (i := i) (by omega)
    have hic : (i + 1) * c ≤ r * c := Nat.mul_le_mul_right c hlt
    rw [Nat.succ_mul] at hic
    have hlen := fill_len (d := (0 : Rat)) (show i * c ≤ r * c by omega) hz
    have o1 := m_rowM (a := (mk r c F).take (i * c) ++ List.replicate (r * c - i * c) 0) ⟨hr, hc, hlen⟩ hlt 25
    (repeat (first | (refine step_w1 rfl rfl ?_; conv => whnf) | (refine g_c1 (by assumption) rfl ?_; conv => whnf) | (rw [t2]; conv => whnf)))
    refine SW_loopN hE (fun k => k) [0, 1, 2, 6, 9, 10, 11, 30, 31, 37, 38] [6, 9, 25] (fun m fr hp => ∃ k : Nat, m = c - k ∧ k ≤ c ∧ fr = [(0, iv r), (1, iv c), (2, .clo g [] [.atom p]), (6, .ptr 6 0 0 0), (9, .ptr 9 0 0 0), (10, iv (i : Nat)), (11, .slc 25 5 (i * c) c), (30, iv r), (31, iv (i : Nat)), (37, iv c), (38, iv (k : Nat))] ∧
      hp = [(6, zM), (9, bM r c 25), (25, fblk ((mk r c F).take (i * c + k) ++ List.replicate (r * c - (i * c + k)) 0))]) c ?_ ?_ ?_
    · kernel_rfl
    · exact ⟨0, rfl, Nat.zero_le _, rfl, rfl⟩
    rintro m _ _ ⟨k, rfl, hk, rfl, rfl⟩
    conv => whnf
    by_cases hlk : k < c
    · have t4 := dlt hlk
      have t5 := winc (i := k) (by omega)
      have hlen := fill_len (d := (0 : Rat)) (show i * c + k ≤ r * c by omega) hz
      have o2 := hf i k hlt hlk
      rw [← mk_el (f := F) hlt hlk] at o2
      (repeat ((first | refine step_w1 rfl rfl ?_ | refine step_oL (by first | omega | decide | (simp only [tl0, dlen, List.length_replicate, List.length_set, List.length_map, List.length_zipWith, List.length_take, List.length_append, List.length_cons, List.length_nil]; omega)) ?_ | refine step_oA (by first | omega | decide | (simp only [tl0, dlen, List.length_replicate, List.length_set, List.length_map, List.length_zipWith, List.length_take, List.length_append, List.length_cons, List.length_nil]; omega)) ?_ | refine g_c (by assumption) ?_ | rw [t4] | rw [t5] | rw [Int.toNat_natCast]); conv => whnf))
      refine ⟨c - (k + 1), fun k => k, [0, 1, 2, 6, 9, 10, 11, 30, 31, 37, 38], [6, 9, 25], by omega, by kernel_rfl, k + 1, rfl, hlk, rfl, ?_⟩
      rw [show i * c + (k + 1) = i * c + k + 1 from rfl, fblk, ← fill_set (e := 0) (show i * c + k < r * c by omega) hz]
      rfl
    · have t4 := dge hlk
      obtain rfl : k = c := by omega
      (repeat (first | (refine step_w2 rfl rfl ?_; conv => whnf) | (rw [t4]; conv => whnf) | (rw [t3]; conv => whnf)))
      refine ⟨r - (i + 1), fun k => k, [0, 1, 2, 6, 9, 30, 31], [6, 9, 25], by omega, by kernel_rfl, i + 1, rfl, hlt, rfl, ?_⟩
      rw [Nat.succ_mul]
      rfl
  · have t2 := dge hlt
    obtain rfl : i = r := by omega
    rw [fill_all hz]
    (repeat (first | (refine step_w2 rfl rfl ?_; conv => whnf) | (rw [t2]; conv => whnf)))
    (first | exact Recast.refl _ | exact Frz.recast (Recast.refl _) rfl | (refine Frz.one rfl rfl ?_; skip) | (refine Frz.tup ?_; (repeat (first | exact FrzC.keyless rfl | exact FrzL.nil | refine FrzL.cons ?_ ?_ | (refine FrzC.fracs rfl ?_; (first | rfl | omega | (simp <;> fail) | (simp <;> omega))) | refine FrzC.agg ?_))))
theorem m_Make2 {r c : Nat} (hr : r ≤ 2048) (hc : c ≤ 2048) (F : Nat → Nat → Rat) (g : FuncId) (p q : Pred)
    (hf : ∀ i k, i < r → k < c → CallOK Tryz.prog g ([] ++ ([iv (i : Nat), iv (k : Nat)] ++ [.atom p, .atom q])) [] (.frac (F i k)) [] []) :
    CallOK Tryz.prog 14 [iv r, iv c, .clo g [] [.atom p, .atom q]] [] (.tup [mA r c (mk r c F), iv 0]) [] [] := by
  have k1 := m_sides r c
  rw [sides_of (by omega)] at k1
  have hz : (mk r c F).length = r * c := mk_len ..
  have hrc : r * c ≤ 2048 * 2048 := Nat.mul_le_mul hr hc
  have t1 : IntKind.i64.wrap ((r : Int) * (c : Int)) = ((r * c : Nat) : Int) := by rw [← Int.natCast_mul, wrap_i64 (by omega) (by omega)]
  refine callF (Z := []) tabOK mixedOK Tryz.func14 rfl (by kernel_rfl) (by first | rfl | (simp [keylessL, keyless, keylessL_map, *]; done)) (by first | rfl | (simp [keylessL, keyless, keylessL_map, *]; done)) (by kernel_rfl) rfl ?_
  intro w0 ρ0 hE
  conv => whnf
  (repeat ((first | refine step_w2 rfl rfl ?_ | refine step_oA (by first | omega | decide | (simp only [tl0, dlen, List.length_replicate, List.length_set, List.length_map, List.length_zipWith, List.length_take, List.length_append, List.length_cons, List.length_nil]; omega)) ?_ | refine g_c (by assumption) ?_ | rw [bne_self_eq_false] | refine ⟨_, op_eqNilF rfl (ev_ok rfl) (ev_ok rfl) Tryz.underlying40, ?_⟩ | rw [t1] | rw [Int.toNat_natCast]); conv => whnf))
  refine SW_loopN hE (fun k => k) [0, 1, 2, 6, 9, 30, 31] [6, 9, 25] (fun m fr hp => ∃ i : Nat, m = r - i ∧ i ≤ r ∧ fr = [(0, iv r), (1, iv c), (2, .clo g [] [.atom p, .atom q]), (6, .ptr 6 0 0 0), (9, .ptr 9 0 0 0), (30, iv r), (31, iv (i : Nat))] ∧
    hp = [(6, zM), (9, bM r c 25), (25, fblk ((mk r c F).take (i * c) ++ List.replicate (r * c - i * c) 0))]) r ?_ ?_ ?_
  · kernel_rfl
  · exact ⟨0, rfl, Nat.zero_le _, rfl, by rw [Nat.zero_mul, List.take_zero]; rfl⟩
  rintro m _ _ ⟨i, rfl, hi, rfl, rfl⟩
  conv => whnf
  by_cases hlt : i < r
  · have t2 := dlt hlt
    have t3 := winc (i := i) (by omega)
    have hic : (i + 1) * c ≤ r * c := Nat.mul_le_mul_right c hlt
    rw [Nat.succ_mul] at hic
    have hlen := fill_len (d := (0 : Rat)) (show i * c ≤ r * c by omega) hz
    have o1 := m_rowM (a := (mk r c F).take (i * c) ++ List.replicate (r * c - i * c) 0) ⟨hr, hc, hlen⟩ hlt 25
    (repeat (first | (refine step_w1 rfl rfl ?_; conv => whnf) | (refine g_c1 (by assumption) rfl ?_; conv => whnf) | (rw [t2]; conv => whnf)))
    refine SW_loopN hE (fun k => k) [0, 1, 2, 6, 9, 10, 11, 30, 31, 37, 38] [6, 9, 25] (fun m fr hp => ∃ k : Nat, m = c - k ∧ k ≤ c ∧ fr = [(0, iv r), (1, iv c), (2, .clo g [] [.atom p, .atom q]), (6, .ptr 6 0 0 0), (9, .ptr 9 0 0 0), (10, iv (i : Nat)), (11, .slc 25 5 (i * c) c), (30, iv r), (31, iv (i : Nat)), (37, iv c), (38, iv (k : Nat))] ∧
      hp = [(6, zM), (9, bM r c 25), (25, fblk ((mk r c F).take (i * c + k) ++ List.replicate (r * c - (i * c + k)) 0))]) c ?_ ?_ ?_
    · kernel_rfl
    · exact ⟨0, rfl, Nat.zero_le _, rfl, rfl⟩
    rintro m _ _ ⟨k, rfl, hk, rfl, rfl⟩
    conv => whnf
    by_cases hlk : k < c
    · have t4 := dlt hlk
      have t5 := winc (i := k) (by omega)
      have hlen := fill_len (d := (0 : Rat)) (show i * c + k ≤ r * c by omega) hz
      have o2 := hf i k hlt hlk
      rw [← mk_el (f := F) hlt hlk] at o2
      (repeat ((first | refine step_w1 rfl rfl ?_ | refine step_oL (by first | omega | decide | (simp only [tl0, dlen, List.length_replicate, List.length_set, List.length_map, List.length_zipWith, List.length_take, List.length_append, List.length_cons, List.length_nil]; omega)) ?_ | refine step_oA (by first | omega | decide | (simp only [tl0, dlen, List.length_replicate, List.length_set, List.length_map, List.length_zipWith, List.length_take, List.length_append, List.length_cons, List.length_nil]; omega)) ?_ | refine g_c (by assumption) ?_ | rw [t4] | rw [t5] | rw [Int.toNat_natCast]); conv => whnf))
      refine ⟨c - (k + 1), fun k => k, [0, 1, 2, 6, 9, 10, 11, 30, 31, 37, 38], [6, 9, 25], by omega, by kernel_rfl, k + 1, rfl, hlk, rfl, ?_⟩
      rw [show i * c + (k + 1) = i * c + k + 1 from rfl, fblk, ← fill_set (e := 0) (show i * c + k < r * c by omega) hz]
      rfl
    · have t4 := dge hlk
      obtain rfl : k = c := by omega
      (repeat (first | (refine step_w2 rfl rfl ?_; conv => whnf) | (rw [t4]; conv => whnf) | (rw [t3]; conv => whnf)))
      refine ⟨r - (i + 1), fun k => k, [0, 1, 2, 6, 9, 30, 31], [6, 9, 25], by omega, by kernel_rfl, i + 1, rfl, hlt, rfl, ?_⟩
      rw [Nat.succ_mul]
      rfl
  · have t2 := dge hlt
    obtain rfl : i = r := by omega
    rw [fill_all hz]
    (repeat (first | (refine step_w2 rfl rfl ?_; conv => whnf) | (rw [t2]; conv => whnf)))
    (first | exact Recast.refl _ | exact Frz.recast (Recast.refl _) rfl | (refine Frz.one rfl rfl ?_; skip) | (refine Frz.tup ?_; (repeat (first | exact FrzC.keyless rfl | exact FrzL.nil | refine FrzL.cons ?_ ?_ | (refine FrzC.fracs rfl ?_; (first | rfl | omega | (simp <;> fail) | (simp <;> omega))) | refine FrzC.agg ?_))))
theorem m_Make3 {r c : Nat} (hr : r ≤ 2048) (hc : c ≤ 2048) (F : Nat → Nat → Rat) (g : FuncId) (p q s : Pred)
    (hf : ∀ i k, i < r → k < c → CallOK Tryz.prog g ([] ++ ([iv (i : Nat), iv (k : Nat)] ++ [.atom p, .atom q, .atom s])) [] (.frac (F i k)) [] []) :
    CallOK Tryz.prog 14 [iv r, iv c, .clo g [] [.atom p, .atom q, .atom s]] [] (.tup [mA r c (mk r c F), iv 0]) [] [] := by
  have k1 := m_sides r c
  rw [sides_of (by omega)] at k1
  have hz : (mk r c F).length = r * c := mk_len ..
  have hrc : r * c ≤ 2048 * 2048 := Nat.mul_le_mul hr hc
  have t1 : IntKind.i64.wrap ((r : Int) * (c : Int)) = ((r * c : Nat) : Int) := by rw [← Int.natCast_mul, wrap_i64 (by omega) (by omega)]
  refine callF (Z := []) tabOK mixedOK Tryz.func14 rfl (by kernel_rfl) (by first | rfl | (simp [keylessL, keyless, keylessL_map, *]; done)) (by first | rfl | (simp [keylessL, keyless, keylessL_map, *]; done)) (by kernel_rfl) rfl ?_
  intro w0 ρ0 hE
  conv => whnf
  (repeat ((first | refine step_w2 rfl rfl ?_ | refine step_oA (by first | omega | decide | (simp only [tl0, dlen, List.length_replicate, List.length_set, List.length_map, List.length_zipWith, List.length_take, List.length_append, List.length_cons, List.length_nil]; omega)) ?_ | refine g_c (by assumption) ?_ | rw [bne_self_eq_false] | refine ⟨_, op_eqNilF rfl (ev_ok rfl) (ev_ok rfl) Tryz.underlying40, ?_⟩ | rw [t1] | rw [Int.toNat_natCast]); conv => whnf))
  refine SW_loopN hE (fun k => k) [0, 1, 2, 6, 9, 30, 31] [6, 9, 25] (fun m fr hp => ∃ i : Nat, m = r - i ∧ i ≤ r ∧ fr = [(0, iv r), (1, iv c), (2, .clo g [] [.atom p, .atom q, .atom s]), (6, .ptr 6 0 0 0), (9, .ptr 9 0 0 0), (30, iv r), (31, iv (i : Nat))] ∧
    hp = [(6, zM), (9, bM r c 25), (25, fblk ((mk r c F).take (i * c) ++ List.replicate (r * c - i * c) 0))]) r ?_ ?_ ?_
  · kernel_rfl
  · exact ⟨0, rfl, Nat.zero_le _, rfl, by rw [Nat.zero_mul, List.take_zero]; rfl⟩
  rintro m _ _ ⟨i, rfl, hi, rfl, rfl⟩
  conv => whnf
  by_cases hlt : i < r
  · have t2 := dlt hlt
    have t3 := winc (i := i) (by omega)
    have hic : (i + 1) * c ≤ r * c := Nat.mul_le_mul_right c hlt
    rw [Nat.succ_mul] at hic
    have hlen := fill_len (d := (0 : Rat)) (show i * c ≤ r * c by omega) hz
    have o1 := m_rowM (a := (mk r c F).take (i * c) ++ List.replicate (r * c - i * c) 0) ⟨hr, hc, hlen⟩ hlt 25
    (repeat (first | (refine step_w1 rfl rfl ?_; conv => whnf) | (refine g_c1 (by assumption) rfl ?_; conv => whnf) | (rw [t2]; conv => whnf)))
    refine SW_loopN hE (fun k => k) [0, 1, 2, 6, 9, 10, 11, 30, 31, 37, 38] [6, 9, 25] (fun m fr hp => ∃ k : Nat, m = c - k ∧ k ≤ c ∧ fr = [(0, iv r), (1, iv c), (2, .clo g [] [.atom p, .atom q, .atom s]), (6, .ptr 6 0 0 0), (9, .ptr 9 0 0 0), (10, iv (i : Nat)), (11, .slc 25 5 (i * c) c), (30, iv r), (31, iv (i : Nat)), (37, iv c), (38, iv (k : Nat))] ∧
      hp = [(6, zM), (9, bM r c 25), (25, fblk ((mk r c F).take (i * c + k) ++ List.replicate (r * c - (i * c + k)) 0))]) c ?_ ?_ ?_
    · kernel_rfl
    · exact ⟨0, rfl, Nat.zero_le _, rfl, rfl⟩
    rintro m _ _ ⟨k, rfl, hk, rfl, rfl⟩
    conv => whnf
    by_cases hlk : k < c
    · have t4 := dlt hlk
      have t5 := winc (i := k) (by omega)
      have hlen := fill_len (d := (0 : Rat)) (show i * c + k ≤ r * c by omega) hz
      have o2 := hf i k hlt hlk
      rw [← mk_el (f := F) hlt hlk] at o2
      (repeat ((first | refine step_w1 rfl rfl ?_ | refine step_oL (by first | omega | decide | (simp only [tl0, dlen, List.length_replicate, List.length_set, List.length_map, List.length_zipWith, List.length_take, List.length_append, List.length_cons, List.length_nil]; omega)) ?_ | refine step_oA (by first | omega | decide | (simp only [tl0, dlen, List.length_replicate, List.length_set, List.length_map, List.length_zipWith, List.length_take, List.length_append, List.length_cons, List.length_nil]; omega)) ?_ | refine g_c (by assumption) ?_ | rw [t4] | rw [t5] | rw [Int.toNat_natCast]); conv => whnf))
      refine ⟨c - (k + 1), fun k => k, [0, 1, 2, 6, 9, 10, 11, 30, 31, 37, 38], [6, 9, 25], by omega, by kernel_rfl, k + 1, rfl, hlk, rfl, ?_⟩
      rw [show i * c + (k + 1) = i * c + k + 1 from rfl, fblk, ← fill_set (e := 0) (show i * c + k < r * c by omega) hz]
      rfl
    · have t4 := dge hlk
      obtain rfl : k = c := by omega
      (repeat (first | (refine step_w2 rfl rfl ?_; conv => whnf) | (rw [t4]; conv => whnf) | (rw [t3]; conv => whnf)))
      refine ⟨r - (i + 1), fun k => k, [0, 1, 2, 6, 9, 30, 31], [6, 9, 25], by omega, by kernel_rfl, i + 1, rfl, hlt, rfl, ?_⟩
      rw [Nat.succ_mul]
      rfl
  · have t2 := dge hlt
    obtain rfl : i = r := by omega
    rw [fill_all hz]
    (repeat (first | (refine step_w2 rfl rfl ?_; conv => whnf) | (rw [t2]; conv => whnf)))
    (first | exact Recast.refl _ | exact Frz.recast (Recast.refl _) rfl | (refine Frz.one rfl rfl ?_; skip) | (refine Frz.tup ?_; (repeat (first | exact FrzC.keyless rfl | exact FrzL.nil | refine FrzL.cons ?_ ?_ | (refine FrzC.fracs rfl ?_; (first | rfl | omega | (simp <;> fail) | (simp <;> omega))) | refine FrzC.agg ?_))))
end Go.Proofs.YtkpfineikahgfaaGreatDoor
