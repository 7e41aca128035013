/- The texts Eg, Eh, Ei, Fa, Ej, Ek, Em, Ga, Gb, Gc, Gd, Ge, Shelf, Ha, Hb, Pa, Hc, Hd, Ja, Jb, Ta, Tb, Tc, Ka, Kb, Kc, Kd, Ke. -/
import Derived.Shelf.Strings.Builder1
import Derived.Shelf.Strings.Builder2
import Derived.Shelf.Strings.OnBuilder
import Derived.Shelf.Small.Bits
import Derived.Shelf.Strings.BuilderF
import Derived.Shelf.Strings.Builder2Cap
import Derived.Shelf.Strconv.Itoa0
import Derived.Shelf.Strconv.Itoa1
import Derived.Shelf.LaysM
import Derived.Shelf.Strconv.Itoa2
import Derived.Shelf.Strconv.Itoa3
import Derived.Shelf.Strings.Prefix
import Derived.Shelf.Bits.Mul64
import Derived.Shelf.Strings.Repeat
import Derived.Ground.Names2Prog
import Derived.Shelf.Slices.ReverseS
import Derived.Shelf.Slices.Cells
import Derived.Test.YtkpfineikahgfaaGreatDoorProg
import Derived.Lib.Walk
import Derived.Lib.ItoaMem
import Derived.Lib.AppendIntMem
import Derived.WalkKit
import Derived.BigCall
import Derived.BigGuard
import Derived.Test.YtkpfineikahgfaaGreatDoorQLMatsMakes3
namespace Go.Proofs.YtkpfineikahgfaaGreatDoor
open Go.Sx
set_option linter.unusedSimpArgs false
set_option linter.unusedVariables false
set_option maxRecDepth 100000
set_option maxHeartbeats 4000000

theorem c_short (xs : List Int) (n : Nat) (hn : n ≤ xs.length) (hl : xs.length < 1099511627776) (hx : W32 xs) (y : Nat) (hy0 : y ≠ 0) (hy : y < 4294967296) (K Q : Nat) (hKQ : Q ≠ K) (wr : Bool) (X : Nat) (hX : valI xs n = X) :
    CallOK Tryz.prog 224 [.slc K 1 0 n, .val (.int .u32 y)] [(K, ⟨95, wr, .ints .u32 xs⟩)] (.tup [.slc Q 1 0 n, .val (.int .u32 (X % y : Nat))]) [(Q, ⟨95, true, .ints .u32 (digs (X / y) n)⟩)] [] := by
  refine CallOK.anyWr ?_
  refine callK (Z := []) tabOK mixedOK Tryz.func224 rfl (by kernel_rfl) (args := [.slc 0 1 0 n, .val (.int .u32 y)]) (fk := [(0, ⟨95, false, .ints .u32 xs⟩)]) (c := .tup [.slc 9 1 0 n, .val (.int .u32 (X % y : Nat))]) (new := [(9, ⟨95, true, .ints .u32 (digs (X / y) n)⟩)]) (upd := []) (ShapeOK.of rfl rfl rfl rfl rfl rfl rfl rfl rfl rfl rfl) rfl (renBy [(0, K), (9, Q)]) (NamesOK.roNew rfl (fun q hq => by simp [keysOf] at hq; subst hq; exact hKQ)) ?_
  intro W0 w0 ρ0 hE
  conv => whnf
  have e0 : IntKind.i64.wrap ((n : Int) - 1) = (n : Int) - 1 := wrap_i64 (by omega) (by omega)
  (repeat (first | (refine And.intro (by first | decide | omega | (simp only [tiB5, tiB95, tiB3, tiB2, tiB9, tiB38, tiB74, tiB25, tiB41, tiB36, tiB30, tiB4, tiB70, tiB72, tiB164, tiB27, tiB62, tiB32, dlen, List.length_replicate, List.length_set, List.length_map, List.length_zipWith, List.length_take, List.length_append, List.length_cons, List.length_nil]; omega)) ?_; conv => whnf) | (rw [e0]; conv => whnf)))
  refine SW_loopN hE (fun k => k) [0, 1, 4, 5, 6] [0, 9] (fun j fr hp => ∃ (q : List Int) (r : Nat), j ≤ n ∧ q.length = n ∧ W32 q ∧ (∀ i, i < j → q.getD i 0 = 0) ∧ r < y ∧ valI q n * y + r * 4294967296 ^ j = X - valI xs j ∧
    fr = [(0, .slc 0 1 0 n), (1, .val (.int .u32 y)), (4, .slc 9 1 0 n), (5, .val (.int .u32 r)), (6, .val (.int .i64 ((j : Int) - 1)))] ∧ hp = [(0, ⟨95, false, .ints .u32 xs⟩), (9, ⟨95, true, .ints .u32 q⟩)]) n ?_ ?_ ?_
  · kernel_rfl
  · exact ⟨List.replicate n 0, 0, by omega, by simp, (fun i => by rw [getD_replicate]; decide), (fun i _ => getD_replicate), by omega, by rw [valI_zeros (k := 0) (fun i _ _ => getD_replicate) (by omega), hX]; simp [valI], rfl, rfl⟩
  rintro j _ _ ⟨q, r, hj, hql, hq, hq0, hr, hval, rfl, rfl⟩
  by_cases h0 : j = 0
  · subst h0
    have t2 : decide (((0 : Nat) : Int) - 1 ≥ 0) = false := rfl
    obtain ⟨Qv, hQ⟩ := Int.eq_ofNat_of_zero_le (valI_nonneg hq n)
    have hX2 : Qv * y + r = X := by
      rw [hQ, Int.pow_zero, Int.mul_one, valI, Int.sub_zero, ← Int.natCast_mul] at hval
      omega
    have hdiv : X / y = Qv := by rw [← hX2, Nat.add_comm, Nat.add_mul_div_right _ _ (by omega), Nat.div_eq_of_lt hr, Nat.zero_add]
    have hmod : X % y = r := by rw [← hX2, Nat.add_comm, Nat.add_mul_mod_self_right, Nat.mod_eq_of_lt hr]
    rw [hdiv, hmod, ← digs_of' hql hq hQ]
    conv => whnf
    (repeat (first | (refine step_w2 rfl rfl ?_; conv => whnf)))
    exact ⟨Recast.refl _, one_get rfl, (fun _ _ h => by cases h)⟩
  · obtain ⟨i, rfl⟩ : ∃ i, j = i + 1 := ⟨j - 1, by omega⟩
    have ei : (((i + 1 : Nat) : Int) - 1) = (i : Int) := by omega
    rw [ei]
    have t2 : decide ((i : Int) ≥ 0) = true := decide_eq_true (by omega)
    have e1 : 0 + (i : Int).toNat = i := by omega
    have e2 : IntKind.i64.wrap ((i : Int) - 1) = (i : Int) - 1 := wrap_i64 (by omega) (by omega)
    obtain ⟨w, hww⟩ := Int.eq_ofNat_of_zero_le (hx i).1
    have hw2 := (hx i).2
    have kd := c_Div32 r w y hr (by omega) hy
    have hrl : (r * 4294967296 + w) % y < y := Nat.mod_lt _ (by omega)
    have hqd : (r * 4294967296 + w) / y < 4294967296 := Nat.div_lt_of_lt_mul (by
      have := Nat.mul_le_mul_right 4294967296 (show r + 1 ≤ y by omega)
      rw [Nat.mul_comm y]; omega)
    have hstep : valI (q.set i (((r * 4294967296 + w) / y : Nat) : Int)) n * y + (((r * 4294967296 + w) % y : Nat) : Int) * 4294967296 ^ i = X - valI xs i := by
      rw [valI_set (by omega) (by omega), hq0 i (by omega), Int.sub_zero]
      have hdm : ((y : Int) * (((r * 4294967296 + w) / y : Nat) : Int) + (((r * 4294967296 + w) % y : Nat) : Int)) = (r : Int) * 4294967296 + w := by
        have := Nat.div_add_mod (r * 4294967296 + w) y
        rw [← Int.natCast_mul, ← Int.natCast_add, this]; omega
      rw [Int.pow_succ, valI, hww] at hval
      generalize (((r * 4294967296 + w) / y : Nat) : Int) = d at *
      generalize (((r * 4294967296 + w) % y : Nat) : Int) = e at *
      generalize (4294967296 : Int) ^ i = P at *
      grind
    conv => whnf
    (repeat ((first | refine step_w1 rfl rfl ?_ | refine And.intro (by first | decide | omega | (simp only [tiB5, tiB95, tiB3, tiB2, tiB9, tiB38, tiB74, tiB25, tiB41, tiB36, tiB30, tiB4, tiB70, tiB72, tiB164, tiB27, tiB62, tiB32, dlen, List.length_replicate, List.length_set, List.length_map, List.length_zipWith, List.length_take, List.length_append, List.length_cons, List.length_nil]; omega)) ?_ | refine g_c (by assumption) ?_ | rw [t2] | rw [e1] | rw [hww] | rw [e2]); conv => whnf))
    exact ⟨i, fun k => k, [0, 1, 4, 5, 6], [0, 9], by omega, by kernel_rfl, _, _, by omega, by simpa using hql, hq.set (Int.natCast_nonneg _) (Int.ofNat_lt.2 hqd), (fun j hj => by rw [getD_set, if_neg (by omega)]; exact hq0 j (by omega)), hrl, hstep, rfl, rfl⟩

theorem shl_or {w s c : Nat} (hs : s < 32) (hc : c < 2 ^ s) (hw : w < 4294967296) :
    ior .u32 (ishl .u32 (w : Int) (s : Int)) (c : Int) = ((w * 2 ^ s % 4294967296 + c : Nat) : Int) ∧ w * 2 ^ s % 4294967296 + c < 4294967296 := by
  have hmin : min (s : Int).toNat IntKind.u32.bits = s := by simp [IntKind.bits]; omega
  have e : ishl .u32 (w : Int) (s : Int) = ((w * 2 ^ s % 4294967296 : Nat) : Int) := by
    rw [ishl, hmin, show (w : Int) * 2 ^ s = ((w * 2 ^ s : Nat) : Int) from by rw [Int.natCast_mul, Int.natCast_pow]; rfl]
    exact wu32m _
  have hW : 4294967296 = 2 ^ (32 - s) * 2 ^ s := by rw [← Nat.pow_add, show 32 - s + s = 32 from by omega]
  have e2 : w * 2 ^ s % 4294967296 = 2 ^ s * (w % 2 ^ (32 - s)) := by
    rw [hW, Nat.mul_mod_mul_right, Nat.mul_comm]
  have hm : w * 2 ^ s % 4294967296 < 4294967296 := Nat.mod_lt _ (by decide)
  have hlt : w % 2 ^ (32 - s) < 2 ^ (32 - s) := Nat.mod_lt _ (Nat.two_pow_pos _)
  have hsum : w * 2 ^ s % 4294967296 + c < 4294967296 := by
    rw [e2]
    have := Nat.mul_le_mul_left (2 ^ s) (show w % 2 ^ (32 - s) + 1 ≤ 2 ^ (32 - s) from hlt)
    rw [Nat.mul_comm (2 ^ s) (2 ^ (32 - s)), ← hW, Nat.mul_add, Nat.mul_one] at this
    omega
  refine ⟨?_, hsum⟩
  rw [e, ior_u32 hm (by omega)]
  congr 1
  rw [e2, ← Nat.two_pow_add_eq_or_of_lt hc]

theorem c_shifted (xs : List Int) (n : Nat) (hn : n ≤ xs.length) (hl : xs.length < 1099511627776) (hx : W32 xs) (s : Nat) (hs : s < 32) (K Q : Nat) (hKQ : Q ≠ K) (wr : Bool) (X : Nat) (hX : valI xs n = X) :
    CallOK Tryz.prog 254 [.slc K 1 0 n, .val (.int .i64 s)] [(K, ⟨95, wr, .ints .u32 xs⟩)] (.slc Q 1 0 (n + 1)) [(Q, ⟨95, true, .ints .u32 (digs (X * 2 ^ s) (n + 1))⟩)] [] := by
  refine CallOK.anyWr ?_
  refine callK (Z := []) tabOK mixedOK Tryz.func254 rfl (by kernel_rfl) (args := [.slc 0 1 0 n, .val (.int .i64 s)]) (fk := [(0, ⟨95, false, .ints .u32 xs⟩)]) (c := .slc 12 1 0 (n + 1)) (new := [(12, ⟨95, true, .ints .u32 (digs (X * 2 ^ s) (n + 1))⟩)]) (upd := []) (ShapeOK.of rfl rfl rfl rfl rfl rfl rfl rfl rfl rfl rfl) rfl (renBy [(0, K), (12, Q)]) (NamesOK.roNew rfl (fun q hq => by simp [keysOf] at hq; subst hq; exact hKQ)) ?_
  intro W0 w0 ρ0 hE
  conv => whnf
  have ew : IntKind.i64.wrap ((n : Int) + 1) = ((n + 1 : Nat) : Int) := by rw [wrap_i64 (by omega) (by omega)]; omega
  (repeat (first | (refine And.intro (by first | decide | omega | (simp only [tiB5, tiB95, tiB3, tiB2, tiB9, tiB38, tiB74, tiB25, tiB41, tiB36, tiB30, tiB4, tiB70, tiB72, tiB164, tiB27, tiB62, tiB32, dlen, List.length_replicate, List.length_set, List.length_map, List.length_zipWith, List.length_take, List.length_append, List.length_cons, List.length_nil]; omega)) ?_; conv => whnf) | (rw [ew]; conv => whnf)))
  refine SW_loopN hE (fun k => k) [0, 1, 5, 6, 13, 14, 15] [0, 12] (fun m fr hp => ∃ (i : Nat) (out : List Int) (c : Nat), m = n - i ∧ i ≤ n ∧ out.length = n + 1 ∧ W32 out ∧ c < 2 ^ s ∧ valI out i + c * 4294967296 ^ i = valI xs i * 2 ^ s ∧
    fr = [(0, .slc 0 1 0 n), (1, .val (.int .i64 s)), (5, .slc 12 1 0 (n + 1)), (6, .val (.int .u32 c)), (13, .slc 0 1 0 n), (14, .val (.int .i64 n)), (15, .val (.int .i64 i))] ∧ hp = [(0, ⟨95, false, .ints .u32 xs⟩), (12, ⟨95, true, .ints .u32 out⟩)]) n ?_ ?_ ?_
  · kernel_rfl
  · exact ⟨0, List.replicate (n + 1) 0, 0, by omega, by omega, by simp, (fun i => by rw [getD_replicate]; decide), Nat.two_pow_pos s, by simp [valI], rfl, rfl⟩
  rintro m _ _ ⟨i, out, c, rfl, hi, hlen, hw, hc, hval, rfl, rfl⟩
  have hs64 : 2 ^ s ≤ 2147483648 := Nat.le_trans (Nat.pow_le_pow_right (by decide) (show s ≤ 31 by omega)) (by decide)
  by_cases hlt : i < n
  · have t1 : decide ((i : Int) < (n : Int)) = true := decide_eq_true (by omega)
    have e1 : 0 + (i : Int).toNat = i := by omega
    have e2 : IntKind.i64.wrap ((i : Int) + 1) = ((i + 1 : Nat) : Int) := by rw [wrap_i64 (by omega) (by omega)]; omega
    obtain ⟨w, hww⟩ := Int.eq_ofNat_of_zero_le (hx i).1
    have hw2 := (hx i).2
    obtain ⟨f1, f2⟩ := shl_or (w := w) hs hc (by omega)
    have hws : w * 2 ^ s ≤ 4294967295 * 2147483648 := Nat.mul_le_mul (by omega) hs64
    have f3 : IntKind.u32.wrap (ishr .u64 (ishl .u64 (IntKind.u64.wrap (w : Int)) (s : Int)) 32) = ((w * 2 ^ s / 4294967296 : Nat) : Int) := by
      have hmin : min (s : Int).toNat IntKind.u64.bits = s := by simp [IntKind.bits]; omega
      rw [wu64 (n := w) (by omega), ishl, hmin, show (w : Int) * 2 ^ s = ((w * 2 ^ s : Nat) : Int) from by rw [Int.natCast_mul, Int.natCast_pow]; rfl, wu64 (by omega), ishr_hi, wu32 (by omega)]
    have hc' : w * 2 ^ s / 4294967296 < 2 ^ s := Nat.div_lt_of_lt_mul (by
      exact Nat.mul_lt_mul_of_pos_right (by omega) (Nat.two_pow_pos s))
    have hstep : valI (out.set i ((w * 2 ^ s % 4294967296 + c : Nat) : Int)) (i + 1) + ((w * 2 ^ s / 4294967296 : Nat) : Int) * 4294967296 ^ (i + 1) = valI xs (i + 1) * 2 ^ s := by
      rw [valI, valI, valI_set_ge (Nat.le_refl _), getD_set, if_pos ⟨rfl, by omega⟩, hww, Int.pow_succ]
      have hd : ((w * 2 ^ s % 4294967296 + c : Nat) : Int) = (w : Int) * 2 ^ s + c - ((w * 2 ^ s / 4294967296 : Nat) : Int) * 4294967296 := by
        have := Nat.div_add_mod (w * 2 ^ s) 4294967296
        have h2 : ((w * 2 ^ s : Nat) : Int) = (w : Int) * 2 ^ s := by rw [Int.natCast_mul, Int.natCast_pow]; rfl
        omega
      rw [hd]
      generalize ((w * 2 ^ s / 4294967296 : Nat) : Int) = q
      generalize (4294967296 : Int) ^ i = P at *
      generalize (2 : Int) ^ s = S at *
      grind
    conv => whnf
    (repeat ((first | refine step_w1 rfl rfl ?_ | refine And.intro (by first | decide | omega | (simp only [tiB5, tiB95, tiB3, tiB2, tiB9, tiB38, tiB74, tiB25, tiB41, tiB36, tiB30, tiB4, tiB70, tiB72, tiB164, tiB27, tiB62, tiB32, dlen, List.length_replicate, List.length_set, List.length_map, List.length_zipWith, List.length_take, List.length_append, List.length_cons, List.length_nil]; omega)) ?_ | rw [t1] | rw [e1] | rw [hww] | rw [f1] | rw [f3] | rw [e2]); conv => whnf))
    exact ⟨n - (i + 1), fun k => k, [0, 1, 5, 6, 13, 14, 15], [0, 12], by omega, by kernel_rfl, i + 1, _, _, rfl, by omega, by simpa using hlen, hw.set (by omega) (by omega), hc', hstep, rfl, rfl⟩
  · have hi' : i = n := by omega
    subst hi'
    have t1 : decide ((i : Int) < (i : Int)) = false := decide_eq_false (by omega)
    have e1 : 0 + (i : Int).toNat = i := by omega
    have hcl : c < 4294967296 := by omega
    have hfin : valI (out.set i (c : Int)) (i + 1) = ((X * 2 ^ s : Nat) : Int) := by
      rw [valI, valI_set_ge (Nat.le_refl _), getD_set, if_pos ⟨rfl, by omega⟩, hval, hX, Int.natCast_mul, Int.natCast_pow]; rfl
    rw [← digs_of' (xs := out.set i (c : Int)) (by simpa using hlen) (hw.set (by omega) (by omega)) hfin]
    conv => whnf
    (repeat ((first | refine step_w2 rfl rfl ?_ | refine And.intro (by first | decide | omega | (simp only [tiB5, tiB95, tiB3, tiB2, tiB9, tiB38, tiB74, tiB25, tiB41, tiB36, tiB30, tiB4, tiB70, tiB72, tiB164, tiB27, tiB62, tiB32, dlen, List.length_replicate, List.length_set, List.length_map, List.length_zipWith, List.length_take, List.length_append, List.length_cons, List.length_nil]; omega)) ?_ | rw [t1] | rw [e1]); conv => whnf))
    exact ⟨Recast.refl _, one_get rfl, (fun _ _ h => by cases h)⟩

theorem c_half (us : List Int) (hl : us.length < 1099511627776) (hu : W32 us) (K : Nat) (U : Nat) (hU : valI us us.length = U) :
    CallOK Tryz.prog 256 [.slc K 1 0 us.length] [(K, ⟨95, true, .ints .u32 us⟩)] (.tup []) [] [(K, ⟨95, true, .ints .u32 (digs (U / 2) us.length)⟩)] := by
  refine callK (Z := []) tabOK mixedOK Tryz.func256 rfl (by kernel_rfl) (args := [.slc 0 1 0 us.length]) (fk := [(0, ⟨95, true, .ints .u32 us⟩)]) (c := .tup []) (new := []) (upd := [(0, ⟨95, true, .ints .u32 (digs (U / 2) us.length)⟩)]) (ShapeOK.of rfl rfl rfl rfl rfl rfl rfl rfl rfl rfl rfl) rfl (fun _ => K) NamesOK.upd ?_
  intro W0 w0 ρ0 hE
  conv => whnf
  skip
  refine SW_loopN hE (fun k => k) [0, 4, 5] [0] (fun m fr hp => ∃ (i : Nat) (o : List Int), m = us.length - i ∧ i ≤ us.length ∧ o.length = us.length ∧ W32 o ∧ (∀ j, i ≤ j → o.getD j 0 = us.getD j 0) ∧ 2 * valI o i + us.getD 0 0 % 2 = valI us i + us.getD i 0 % 2 * 4294967296 ^ i ∧
    fr = [(0, .slc 0 1 0 us.length), (4, .val (.int .i64 us.length)), (5, .val (.int .i64 i))] ∧ hp = [(0, ⟨95, true, .ints .u32 o⟩)]) us.length ?_ ?_ ?_
  · kernel_rfl
  · exact ⟨0, us, by omega, by omega, rfl, hu, (fun _ _ => rfl), by simp [valI], rfl, rfl⟩
  rintro m _ _ ⟨i, o, rfl, hi, hlen, hw, hrest, hval, rfl, rfl⟩
  by_cases hlt : i < us.length
  · have t1 : decide ((i : Int) < (us.length : Int)) = true := decide_eq_true (by omega)
    have e1 : 0 + (i : Int).toNat = i := by omega
    have e2 : IntKind.i64.wrap ((i : Int) + 1) = ((i + 1 : Nat) : Int) := by rw [wrap_i64 (by omega) (by omega)]; omega
    obtain ⟨w, hww⟩ := Int.eq_ofNat_of_zero_le (hu i).1
    have hw2 := (hu i).2
    have how : o.getD i 0 = (w : Int) := by rw [hrest i (Nat.le_refl _)]; exact hww
    have f1 : ishr .u32 (w : Int) 1 = ((w / 2 : Nat) : Int) := ishr_nat .u32 (s := 1) (by decide)
    obtain ⟨z, hz⟩ := Int.eq_ofNat_of_zero_le (hu (i + 1)).1
    have hz2 := (hu (i + 1)).2
    have f2 : ∀ q : Nat, q < 2147483648 → ior .u32 (q : Int) (ishl .u32 (z : Int) 31) = ((q + z % 2 * 2147483648 : Nat) : Int) := fun q hq => by
      have e : ishl .u32 (z : Int) 31 = ((2147483648 * (z % 2) : Nat) : Int) := by
        show IntKind.u32.wrap ((z : Int) * 2147483648) = _
        rw [show (z : Int) * 2147483648 = ((z * 2147483648 : Nat) : Int) from by omega, wu32m]
        congr 1; omega
      rw [e, ior_u32 (by omega) (by omega), Nat.or_comm, show 2147483648 * (z % 2) = 2 ^ 31 * (z % 2) from rfl, ← Nat.two_pow_add_eq_or_of_lt (i := 31) hq]
      congr 1; omega
    have hstep : ∀ t : Int, t = us.getD (i + 1) 0 % 2 → 2 * valI (o.set i (((w / 2 : Nat) : Int) + t * 2147483648)) (i + 1) + us.getD 0 0 % 2 = valI us (i + 1) + us.getD (i + 1) 0 % 2 * 4294967296 ^ (i + 1) := fun t ht => by
      rw [← ht, valI, valI, valI_set_ge (Nat.le_refl _), getD_set, if_pos ⟨rfl, by omega⟩, hww, Int.pow_succ]
      rw [hww] at hval
      have hd : 2 * ((w / 2 : Nat) : Int) = (w : Int) - (w : Int) % 2 := by omega
      generalize ((w / 2 : Nat) : Int) = q at *
      generalize (w : Int) % 2 = p at *
      generalize (4294967296 : Int) ^ i = P at *
      generalize us.getD 0 0 % 2 = b at *
      grind
    have hrest' : ∀ (v : Int) j, i + 1 ≤ j → (o.set i v).getD j 0 = us.getD j 0 := fun v j hj => by
      rw [getD_set, if_neg (by omega)]; exact hrest j (by omega)
    by_cases hn : i + 1 < us.length
    · have t2 : decide (((i + 1 : Nat) : Int) < (us.length : Int)) = true := decide_eq_true (by omega)
      have e3 : 0 + ((i + 1 : Nat) : Int).toNat = i + 1 := by omega
      have g1 : ∀ v : Int, (o.set i v).getD i 0 = v := fun v => by rw [getD_set, if_pos ⟨rfl, by omega⟩]
      have g2 : ∀ v : Int, (o.set i v).getD (i + 1) 0 = (z : Int) := fun v => by rw [hrest' v _ (Nat.le_refl _)]; exact hz
      have g3 : ∀ u v : Int, (o.set i u).set i v = o.set i v := fun u v => by rw [List.set_set]
      have g4 : ((w / 2 + z % 2 * 2147483648 : Nat) : Int) = ((w / 2 : Nat) : Int) + us.getD (i + 1) 0 % 2 * 2147483648 := by rw [hz]; omega
      conv => whnf
      have g5 : ∀ v : Int, (o.set i v).length = us.length := fun v => by simpa using hlen
      (repeat ((first | refine step_w1 rfl rfl ?_ | refine step_i (by kernel_rfl) ?_ | refine And.intro (by first | decide | omega | (simp only [tiB5, tiB95, tiB3, tiB2, tiB9, tiB38, tiB74, tiB25, tiB41, tiB36, tiB30, tiB4, tiB70, tiB72, tiB164, tiB27, tiB62, tiB32, dlen, List.length_replicate, List.length_set, List.length_map, List.length_zipWith, List.length_take, List.length_append, List.length_cons, List.length_nil]; omega)) ?_ | rw [t1] | rw [e1] | rw [how] | rw [f1] | rw [e2] | rw [t2] | rw [e3] | rw [g1] | rw [g2] | rw [f2 (w / 2) (by omega)] | rw [g3] | rw [g4]); conv => whnf))
      exact ⟨us.length - (i + 1), fun k => k, [0, 4, 5], [0], by omega, by kernel_rfl, i + 1, _, rfl, by omega, by simpa using hlen, hw.set (by omega) (by omega), hrest' _, hstep _ rfl, rfl, rfl⟩
    · have t2 : decide (((i + 1 : Nat) : Int) < (us.length : Int)) = false := decide_eq_false (by omega)
      have hz0 : us.getD (i + 1) 0 = 0 := getD_ge (by omega)
      have := hstep 0 (by rw [hz0]; rfl)
      rw [Int.zero_mul, Int.add_zero] at this
      conv => whnf
      (repeat ((first | refine step_w1 rfl rfl ?_ | refine step_w2 rfl rfl ?_ | refine And.intro (by first | decide | omega | (simp only [tiB5, tiB95, tiB3, tiB2, tiB9, tiB38, tiB74, tiB25, tiB41, tiB36, tiB30, tiB4, tiB70, tiB72, tiB164, tiB27, tiB62, tiB32, dlen, List.length_replicate, List.length_set, List.length_map, List.length_zipWith, List.length_take, List.length_append, List.length_cons, List.length_nil]; omega)) ?_ | rw [t1] | rw [e1] | rw [how] | rw [f1] | rw [e2] | rw [t2]); conv => whnf))
      exact ⟨us.length - (i + 1), fun k => k, [0, 4, 5], [0], by omega, by kernel_rfl, i + 1, _, rfl, by omega, by simpa using hlen, hw.set (by omega) (by omega), hrest' _, this, rfl, rfl⟩
  · have hi' : i = us.length := by omega
    subst hi'
    have t1 : decide ((us.length : Int) < (us.length : Int)) = false := decide_eq_false (by omega)
    rw [getD_ge (xs := us) (i := us.length) (Nat.le_refl _), hU] at hval
    have hfin : valI o us.length = ((U / 2 : Nat) : Int) := by
      rw [show (0 : Int) % 2 = 0 from rfl, Int.zero_mul, Int.add_zero] at hval
      omega
    rw [← digs_of' hlen hw hfin]
    conv => whnf
    (repeat (first | (refine step_w2 rfl rfl ?_; conv => whnf) | (rw [t1]; conv => whnf)))
    exact ⟨Recast.refl _, (fun _ _ h => by cases h), one_get rfl⟩
end Go.Proofs.YtkpfineikahgfaaGreatDoor

namespace Go.Proofs.YtkpfineikahgfaaGreatDoor
open Go.Sx
set_option linter.unusedSimpArgs false
set_option linter.unusedVariables false
set_option maxRecDepth 100000
set_option maxHeartbeats 4000000

theorem digs_hi {v m L i : Nat} (hv : v < 4294967296 ^ m) (hi : m ≤ i) : (digs v L).getD i 0 = 0 := by
  by_cases h2 : i < L
  · rw [digs_get h2, Nat.div_eq_of_lt (Nat.lt_of_lt_of_le hv (Nat.pow_le_pow_right (by decide) hi))]; rfl
  · exact getD_ge (by rw [digs_len]; omega)

/-- A list that is zero above is given by its number. -/
theorem digs_low {o : List Int} {L m v : Nat} (hl : o.length = L) (hw : W32 o) (hz : ∀ j, m ≤ j → o.getD j 0 = 0) (hm : m ≤ L) (hv : valI o m = v) : o = digs v L :=
  digs_of' hl hw (by rw [valI_zeros (k := m) (fun i h1 _ => hz i h1) hm, hv])

theorem less_step {o us vs : List Int} {s i d w c l x : Nat} (hi : s + i < o.length) (hx : us.getD (s + i) 0 = x) (hv : vs.getD i 0 = w) (hl : l ≤ 1) (hxl : x < 4294967296)
    (hval : valI o (s + i) = valI us (s + i) - d * valI vs i * 4294967296 ^ s + ((c : Int) + l) * 4294967296 ^ (s + i)) :
    valI (o.set (s + i) (((x + 4294967296 - (c + d * w) % 4294967296 - l) % 4294967296 : Nat) : Int)) (s + (i + 1)) = valI us (s + (i + 1)) - d * valI vs (i + 1) * 4294967296 ^ s + ((((c + d * w) / 4294967296 : Nat) : Int) + ((if x < (c + d * w) % 4294967296 + l then 1 else 0 : Nat) : Int)) * 4294967296 ^ (s + (i + 1)) := by
  rw [show s + (i + 1) = (s + i) + 1 from by omega, valI, valI, valI, valI_set_ge (Nat.le_refl _), getD_set, if_pos ⟨rfl, hi⟩, hx, hv, Int.pow_succ]
  have hlo : (c + d * w) % 4294967296 < 4294967296 := Nat.mod_lt _ (by decide)
  have hd : (((x + 4294967296 - (c + d * w) % 4294967296 - l) % 4294967296 : Nat) : Int) = (x : Int) - (((c + d * w) % 4294967296 : Nat) : Int) - l + ((if x < (c + d * w) % 4294967296 + l then 1 else 0 : Nat) : Int) * 4294967296 := by
    split <;> omega
  have hc : (((c + d * w) % 4294967296 : Nat) : Int) = (c : Int) + d * w - (((c + d * w) / 4294967296 : Nat) : Int) * 4294967296 := by
    have := Nat.div_add_mod (c + d * w) 4294967296
    have h2 : ((d * w : Nat) : Int) = (d : Int) * w := Int.natCast_mul _ _
    omega
  rw [hd, hc, hval, Int.pow_add]
  generalize ((if x < (c + d * w) % 4294967296 + l then 1 else 0 : Nat) : Int) = l'
  generalize (((c + d * w) / 4294967296 : Nat) : Int) = q
  generalize (4294967296 : Int) ^ s = S
  generalize (4294967296 : Int) ^ i = P
  grind

theorem less_fin {o us vs : List Int} {s n d c l x : Nat} (hi : s + n < o.length) (hx : us.getD (s + n) 0 = x) (hl : l ≤ 1) (hc : c < 4294967296) (hxl : x < 4294967296)
    (hval : valI o (s + n) = valI us (s + n) - d * valI vs n * 4294967296 ^ s + ((c : Int) + l) * 4294967296 ^ (s + n)) :
    valI (o.set (s + n) (((x + 4294967296 - c - l) % 4294967296 : Nat) : Int)) (s + n + 1) = valI us (s + n + 1) - d * valI vs n * 4294967296 ^ s + ((if x < c + l then 1 else 0 : Nat) : Int) * 4294967296 ^ (s + n + 1) := by
  rw [valI, valI, valI_set_ge (Nat.le_refl _), getD_set, if_pos ⟨rfl, hi⟩, hx, Int.pow_succ]
  have hd : (((x + 4294967296 - c - l) % 4294967296 : Nat) : Int) = (x : Int) - c - l + ((if x < c + l then 1 else 0 : Nat) : Int) * 4294967296 := by
    split <;> omega
  rw [hd, hval]
  generalize ((if x < c + l then 1 else 0 : Nat) : Int) = l'
  generalize (4294967296 : Int) ^ (s + n) = S
  generalize (4294967296 : Int) ^ s = P
  grind

/-- The end of less: the borrow tells the sign, and the number is reduced. -/
theorem less_end {R D B l : Nat} {v : Int} (hl : l ≤ 1) (h0 : 0 ≤ v) (h1 : v < B) (hR : R < B) (hv : v = (R : Int) - D + l * B) :
    decide ((l : Int) > 0) = decide (R < D) ∧ v = (((R + B - D) % B : Nat) : Int) := by
  have hcc : l = 0 ∨ l = 1 := by omega
  rcases hcc with rfl | rfl
  · have h2 : D ≤ R := by omega
    refine ⟨by rw [decide_eq_false (show ¬ R < D by omega)]; rfl, ?_⟩
    rw [show R + B - D = (R - D) + B from by omega, Nat.add_mod_right, Nat.mod_eq_of_lt (by omega)]
    omega
  · have h2 : R < D := by omega
    refine ⟨by rw [decide_eq_true h2]; rfl, ?_⟩
    rw [Nat.mod_eq_of_lt (by omega)]
    omega

theorem c_less (L s n R d V : Nat) (vs : List Int) (hL : L < 1099511627776) (hsn : s + n + 1 ≤ L) (hR : R < 4294967296 ^ (s + n + 1)) (hvl : vs.length < 1099511627776) (hn : n ≤ vs.length) (hvw : W32 vs) (hV : valI vs n = V) (hd : d < 4294967296)
    (K Q : Nat) (hKQ : K ≠ Q) :
    CallOK Tryz.prog 255 [.slc K 1 s (n + 1), .slc Q 1 0 n, .val (.int .u64 d)] [(K, ⟨95, true, .ints .u32 (digs R L)⟩), (Q, ⟨95, true, .ints .u32 vs⟩)]
      (.val (.bool (decide (R < d * V * 4294967296 ^ s)))) [] [(K, ⟨95, true, .ints .u32 (digs ((R + 4294967296 ^ (s + n + 1) - d * V * 4294967296 ^ s) % 4294967296 ^ (s + n + 1)) L)⟩), (Q, ⟨95, true, .ints .u32 vs⟩)] := by
  refine callK (Z := []) tabOK mixedOK Tryz.func255 rfl (by kernel_rfl) (args := [.slc 0 1 s (n + 1), .slc 1 1 0 n, .val (.int .u64 d)]) (fk := [(0, ⟨95, true, .ints .u32 (digs R L)⟩), (1, ⟨95, true, .ints .u32 vs⟩)])
    (c := .val (.bool (decide (R < d * V * 4294967296 ^ s)))) (new := []) (upd := [(0, ⟨95, true, .ints .u32 (digs ((R + 4294967296 ^ (s + n + 1) - d * V * 4294967296 ^ s) % 4294967296 ^ (s + n + 1)) L)⟩), (1, ⟨95, true, .ints .u32 vs⟩)]) (ShapeOK.of rfl rfl rfl rfl rfl rfl rfl rfl rfl rfl rfl) rfl (renBy [(0, K), (1, Q)]) (NamesOK.two hKQ) ?_
  intro W0 w0 ρ0 hE
  conv => whnf
  skip
  have husl : (digs R L).length = L := digs_len R L
  have husw : W32 (digs R L) := digs_w32 R L
  have husv : valI (digs R L) (s + n + 1) = R := by
    have h1 := valI_zeros (xs := digs R L) (k := s + n + 1) (n := L) (fun i h1 _ => digs_hi hR h1) hsn
    rw [← h1, valI_digs, Nat.mod_eq_of_lt (Nat.lt_of_lt_of_le hR (Nat.pow_le_pow_right (by decide) hsn))]
  have hlow : ∀ (o : List Int) (v : Nat), o.length = L → W32 o → (∀ j, s + n + 1 ≤ j → o.getD j 0 = 0) → valI o (s + n + 1) = v → o = digs v L := fun o v h1 h2 h3 h4 => digs_low h1 h2 h3 hsn h4
  have hz : ∀ j, s + n + 1 ≤ j → (digs R L).getD j 0 = 0 := fun j hj => digs_hi hR hj
  generalize digs R L = us at *
  refine SW_loopN hE (fun k => k) [0, 1, 2, 7, 8, 12, 13, 14] [0, 1] (fun m fr hp => ∃ (i : Nat) (o : List Int) (c l : Nat), m = n - i ∧ i ≤ n ∧ o.length = L ∧ W32 o ∧ c < 4294967296 ∧ l ≤ 1 ∧ (∀ j, s + i ≤ j → o.getD j 0 = us.getD j 0) ∧ valI o (s + i) = valI us (s + i) - d * valI vs i * 4294967296 ^ s + ((c : Int) + l) * 4294967296 ^ (s + i) ∧
    fr = [(0, .slc 0 1 s (n + 1)), (1, .slc 1 1 0 n), (2, .val (.int .u64 d)), (7, .val (.int .u64 c)), (8, .val (.int .u32 l)), (12, .slc 1 1 0 n), (13, .val (.int .i64 n)), (14, .val (.int .i64 i))] ∧ hp = [(0, ⟨95, true, .ints .u32 o⟩), (1, ⟨95, true, .ints .u32 vs⟩)]) n ?_ ?_ ?_
  · kernel_rfl
  · exact ⟨0, us, 0, 0, by omega, by omega, husl, husw, by omega, by omega, (fun _ _ => rfl), by simp [valI], rfl, rfl⟩
  rintro m _ _ ⟨i, o, c, l, rfl, hi, hlen, hw, hc, hl, hrest, hval, rfl, rfl⟩
  obtain ⟨x, hx⟩ := Int.eq_ofNat_of_zero_le (husw (s + i)).1
  have hx2 := (husw (s + i)).2
  have hox : o.getD (s + i) 0 = (x : Int) := by rw [hrest _ (Nat.le_refl _)]; exact hx
  by_cases hlt : i < n
  · have t1 : decide ((i : Int) < (n : Int)) = true := decide_eq_true (by omega)
    have e1 : 0 + (i : Int).toNat = i := by omega
    have e1s : s + (i : Int).toNat = s + i := by omega
    have e2 : IntKind.i64.wrap ((i : Int) + 1) = ((i + 1 : Nat) : Int) := by rw [wrap_i64 (by omega) (by omega)]; omega
    obtain ⟨w, hww⟩ := Int.eq_ofNat_of_zero_le (hvw i).1
    have hw2 := (hvw i).2
    have hp : d * w ≤ 4294967295 * 4294967295 := Nat.mul_le_mul (by omega) (by omega)
    have e9 : IntKind.u64.wrap ((c : Int) + IntKind.u64.wrap ((d : Int) * IntKind.u64.wrap (w : Int))) = ((c + d * w : Nat) : Int) := by
      rw [wu64 (n := w) (by omega), ← Int.natCast_mul, wu64 (n := d * w) (by omega), ← Int.natCast_add, wu64 (by omega)]
    have e10 : IntKind.u32.wrap ((c + d * w : Nat) : Int) = (((c + d * w) % 4294967296 : Nat) : Int) := wu32m _
    have e11 : ishr .u64 ((c + d * w : Nat) : Int) 32 = (((c + d * w) / 4294967296 : Nat) : Int) := ishr_hi _
    have k32 := c_Sub32 x ((c + d * w) % 4294967296) l (by omega) (by omega) hl
    have hstep := less_step (o := o) (us := us) (vs := vs) (by omega) hx hww hl (by omega) hval
    have hc' : (c + d * w) / 4294967296 < 4294967296 := by omega
    have hl' : (if x < (c + d * w) % 4294967296 + l then 1 else 0 : Nat) ≤ 1 := by split <;> omega
    conv => whnf
    (repeat ((first | refine step_w1 rfl rfl ?_ | refine And.intro (by first | decide | omega | (simp only [tiB5, tiB95, tiB3, tiB2, tiB9, tiB38, tiB74, tiB25, tiB41, tiB36, tiB30, tiB4, tiB70, tiB72, tiB164, tiB27, tiB62, tiB32, dlen, List.length_replicate, List.length_set, List.length_map, List.length_zipWith, List.length_take, List.length_append, List.length_cons, List.length_nil]; omega)) ?_ | refine g_c (by assumption) ?_ | rw [t1] | rw [e1] | rw [e1s] | rw [hww] | rw [hox] | rw [e9] | rw [e10] | rw [e11] | rw [e2]); conv => whnf))
    exact ⟨n - (i + 1), fun k => k, [0, 1, 2, 7, 8, 12, 13, 14], [0, 1], by omega, by kernel_rfl, i + 1, _, _, _, rfl, by omega, by simpa using hlen, hw.set (by omega) (by omega), hc', hl', (fun j hj => by rw [getD_set, if_neg (by omega)]; exact hrest j (by omega)), hstep, rfl, rfl⟩
  · have hi' : i = n := by omega
    subst hi'
    have t1 : decide ((i : Int) < (i : Int)) = false := decide_eq_false (by omega)
    have e1s : s + (i : Int).toNat = s + i := by omega
    have e8 : IntKind.u32.wrap (c : Int) = (c : Int) := wu32 hc
    have k32 := c_Sub32 x c l (by omega) hc hl
    have hfin := less_fin (by omega) hx hl hc (by omega) hval
    have hl' : (if x < c + l then 1 else 0 : Nat) ≤ 1 := by split <;> omega
    have hw' : W32 (o.set (s + i) (((x + 4294967296 - c - l) % 4294967296 : Nat) : Int)) := hw.set (by omega) (by omega)
    have hol : (o.set (s + i) (((x + 4294967296 - c - l) % 4294967296 : Nat) : Int)).length = L := by simpa using hlen
    obtain ⟨hd1, hd2⟩ := less_end (R := R) (D := d * V * 4294967296 ^ s) (B := 4294967296 ^ (s + i + 1)) hl' (valI_nonneg hw' _) (by rw [natPowW]; exact valI_lt hw' _) hR (by rw [hfin, husv, hV, Int.natCast_mul, Int.natCast_mul, natPowW, natPowW])
    have ho' := hlow _ _ hol hw' (fun j hj => by rw [getD_set, if_neg (by omega), hrest j (by omega)]; exact hz j hj) hd2
    conv => whnf
    (repeat ((first | refine step_w2 rfl rfl ?_ | refine And.intro (by first | decide | omega | (simp only [tiB5, tiB95, tiB3, tiB2, tiB9, tiB38, tiB74, tiB25, tiB41, tiB36, tiB30, tiB4, tiB70, tiB72, tiB164, tiB27, tiB62, tiB32, dlen, List.length_replicate, List.length_set, List.length_map, List.length_zipWith, List.length_take, List.length_append, List.length_cons, List.length_nil]; omega)) ?_ | refine g_c (by assumption) ?_ | rw [t1] | rw [e1s] | rw [e8] | rw [hox]); conv => whnf))
    rw [← ho', ← hd1]
    exact ⟨Recast.refl _, (fun _ _ h => by cases h), two_fk rfl rfl⟩
end Go.Proofs.YtkpfineikahgfaaGreatDoor

namespace Go.Proofs.YtkpfineikahgfaaGreatDoor
open Go.Sx
set_option linter.unusedSimpArgs false
set_option linter.unusedVariables false
set_option maxRecDepth 100000
set_option maxHeartbeats 1000000

/-- A fact that the arithmetic tactics shall not see. -/
def Hid (p : Prop) : Prop := p
theorem Hid.out {p : Prop} (h : Hid p) : p := h

theorem step_oL {α : Type} [LT α] {a b : α} {q : Prop} (h : a < b) (hq : q) : a < b ∧ q := ⟨h, hq⟩
theorem step_oM {α : Type} [LE α] {a b : α} {q : Prop} (h : a ≤ b) (hq : q) : a ≤ b ∧ q := ⟨h, hq⟩
theorem step_oA {a b q : Prop} (h : a ∧ b) (hq : q) : (a ∧ b) ∧ q := ⟨h, hq⟩
theorem step_oN {α : Type} {a b : α} {q : Prop} (h : a ≠ b) (hq : q) : a ≠ b ∧ q := ⟨h, hq⟩
/-- The guess is too great when its product with two words is. -/
theorem long_low {V R P S W d r : Nat} (hP : 0 < P) (hS : 0 < S) (hW : 0 < W) (h1 : d * (V / P / W) + r = R / (P * S) / W) (h2 : r * W + R / (P * S) % W < d * (V / P % W)) : R < d * V * S := by
  have e1 := Nat.div_add_mod (V / P) W
  have e2 := Nat.div_add_mod (R / (P * S)) W
  have hV := Nat.div_mul_le_self V P
  have hPS : 0 < P * S := Nat.mul_pos hP hS
  have hR := Nat.lt_div_mul_add (a := R) hPS
  generalize V / P = V2 at *
  generalize R / (P * S) = R2 at *
  generalize V2 / W = v1 at *
  generalize V2 % W = v2 at *
  generalize R2 / W = t at *
  generalize R2 % W = u0 at *
  have h3 : R2 + 1 ≤ d * V2 := by
    rw [← e1, ← e2, ← h1, Nat.mul_add, Nat.mul_add]
    have : d * (W * v1) = W * (d * v1) := by rw [Nat.mul_left_comm]
    have : W * r = r * W := Nat.mul_comm _ _
    omega
  have h4 : (R2 + 1) * (P * S) ≤ d * V * S := by
    refine Nat.le_trans (Nat.mul_le_mul_right _ h3) ?_
    rw [show d * V2 * (P * S) = d * (V2 * P) * S from by simp only [Nat.mul_assoc]]
    exact Nat.mul_le_mul_right _ (Nat.mul_le_mul_left _ hV)
  rw [Nat.add_mul, Nat.one_mul] at h4
  omega

/-- The guess is too great by one at most: the test passed. -/
theorem long_high {V R P S W d r : Nat} (hP : 0 < P) (hS : 0 < S) (hW : 0 < W) (hd : d < W) (h1 : d * (V / P / W) + r = R / (P * S) / W) (h2 : d * (V / P % W) ≤ r * W + R / (P * S) % W) (hV : W * P ≤ V) : d * V * S ≤ R + V * S := by
  have e1 := Nat.div_add_mod (V / P) W
  have e2 := Nat.div_add_mod (R / (P * S)) W
  have hV2 := Nat.lt_div_mul_add (a := V) hP
  have hR := Nat.div_mul_le_self R (P * S)
  generalize V / P = V2 at *
  generalize R / (P * S) = R2 at *
  generalize V2 / W = v1 at *
  generalize V2 % W = v2 at *
  generalize R2 / W = t at *
  generalize R2 % W = u0 at *
  have h3 : d * V2 ≤ R2 := by
    rw [← e1, ← e2, ← h1, Nat.mul_add, Nat.mul_add]
    have : d * (W * v1) = W * (d * v1) := by rw [Nat.mul_left_comm]
    have : W * r = r * W := Nat.mul_comm _ _
    omega
  have h4 : d * V ≤ d * V2 * P + d * P := by
    rw [Nat.mul_assoc, ← Nat.mul_add]; exact Nat.mul_le_mul_left _ (by omega)
  have h5 : d * P ≤ V := Nat.le_trans (Nat.mul_le_mul_right _ (Nat.le_of_lt hd)) hV
  have h6 : d * V * S ≤ (R2 * P + V) * S := Nat.mul_le_mul_right _ (Nat.le_trans h4 (Nat.add_le_add (Nat.mul_le_mul_right _ h3) h5))
  rw [show (R2 * P + V) * S = R2 * (P * S) + V * S from by rw [Nat.add_mul, Nat.mul_assoc]] at h6
  omega

/-- The rest has become too great: the guess is not too great. -/
theorem long_rest {V R P S W d r : Nat} (hP : 0 < P) (hS : 0 < S) (hW : 0 < W) (hd : d < W) (h1 : d * (V / P / W) + r = R / (P * S) / W) (hr : W ≤ r) : d * V * S ≤ R := by
  have hPW : 0 < P * W := Nat.mul_pos hP hW
  have hV2 := Nat.lt_div_mul_add (a := V) hPW
  have hR := Nat.div_mul_le_self R (P * S * W)
  rw [Nat.div_div_eq_div_mul] at h1
  rw [Nat.div_div_eq_div_mul] at h1
  generalize V / (P * W) = v1 at *
  generalize R / (P * S * W) = t at *
  have h3 : d * V ≤ (d * v1 + W) * (P * W) := by
    have h4 : d * V ≤ d * (v1 * (P * W) + P * W) := Nat.mul_le_mul_left _ (by omega)
    rw [Nat.mul_add, ← Nat.mul_assoc] at h4
    rw [Nat.add_mul]
    exact Nat.le_trans h4 (Nat.add_le_add_left (Nat.mul_le_mul_right _ (Nat.le_of_lt hd)) _)
  have h5 : d * V * S ≤ (d * v1 + r) * (P * W) * S := Nat.mul_le_mul_right _ (Nat.le_trans h3 (Nat.mul_le_mul_right _ (by omega)))
  rw [h1, show t * (P * W) * S = t * (P * S * W) from by simp only [Nat.mul_assoc, Nat.mul_comm S W]] at h5
  omega

/-- The guess is below the word's bound when the rest is above it. -/
theorem long_small {V R P S W d r : Nat} (hP : 0 < P) (hS : 0 < S) (hW : 0 < W) (h1 : d * (V / P / W) + r = R / (P * S) / W) (hr : W ≤ r) (hR : R < V * (S * W)) : d < W := by
  have hPW : 0 < P * W := Nat.mul_pos hP hW
  have hV2 := Nat.lt_div_mul_add (a := V) hPW
  have hR2 := Nat.div_mul_le_self R (P * S * W)
  rw [Nat.div_div_eq_div_mul] at h1
  rw [Nat.div_div_eq_div_mul] at h1
  generalize V / (P * W) = v1 at *
  generalize R / (P * S * W) = t at *
  refine Classical.byContradiction fun hc => ?_
  have h2 : W * v1 ≤ d * v1 := Nat.mul_le_mul_right _ (by omega)
  have h3 : W * v1 + W ≤ t := by omega
  have h4 : (W * v1 + W) * (P * S * W) ≤ R := Nat.le_trans (Nat.mul_le_mul_right _ h3) hR2
  have h5 : V * (S * W) ≤ (v1 * (P * W) + P * W) * (S * W) := Nat.mul_le_mul_right _ (by omega)
  rw [show (v1 * (P * W) + P * W) * (S * W) = (W * v1 + W) * (P * S * W) from by grind] at h5
  omega

/-- The quotient's first guess is not too small. -/
theorem long_guess {V R P S W d : Nat} (hP : 0 < P) (hS : 0 < S) (hW : 0 < W) (hv : 0 < V / P / W) (hd : R / (P * S) / W / (V / P / W) = d) : R < (d + 1) * V * S := by
  have hPW : 0 < P * W := Nat.mul_pos hP hW
  have hPSW : 0 < P * S * W := Nat.mul_pos (Nat.mul_pos hP hS) hW
  have hV2 := Nat.div_mul_le_self V (P * W)
  have hR2 := Nat.lt_div_mul_add (a := R) hPSW
  rw [Nat.div_div_eq_div_mul R, Nat.div_div_eq_div_mul V] at hd
  rw [Nat.div_div_eq_div_mul] at hv
  have hlt := Nat.lt_div_mul_add (a := R / (P * S * W)) hv
  rw [hd] at hlt
  generalize V / (P * W) = v1 at *
  generalize R / (P * S * W) = t at *
  have h1 : t + 1 ≤ (d + 1) * v1 := by rw [Nat.add_mul]; omega
  have h2 : (t + 1) * (P * S * W) ≤ (d + 1) * V * S := by
    refine Nat.le_trans (Nat.mul_le_mul_right _ h1) ?_
    rw [show (d + 1) * v1 * (P * S * W) = (d + 1) * (v1 * (P * W)) * S from by grind]
    exact Nat.mul_le_mul_right _ (Nat.mul_le_mul_left _ hV2)
  rw [Nat.add_mul, Nat.one_mul] at h2
  omega

theorem back_step {o us vs : List Int} {s i x w c : Nat} (hi : s + i < o.length) (hx : us.getD (s + i) 0 = x) (hw : vs.getD i 0 = w)
    (hv : valI o (s + i) + c * 4294967296 ^ (s + i) = valI us (s + i) + valI vs i * 4294967296 ^ s) :
    valI (o.set (s + i) (((x + w + c) % 4294967296 : Nat) : Int)) (s + (i + 1)) + (((x + w + c) / 4294967296 : Nat) : Int) * 4294967296 ^ (s + (i + 1)) = valI us (s + (i + 1)) + valI vs (i + 1) * 4294967296 ^ s := by
  rw [show s + (i + 1) = (s + i) + 1 from by omega, valI, valI, valI, valI_set_ge (Nat.le_refl _), getD_set, if_pos ⟨rfl, hi⟩, hx, hw, Int.pow_succ]
  have hd : (((x + w + c) % 4294967296 : Nat) : Int) = (x : Int) + w + c - (((x + w + c) / 4294967296 : Nat) : Int) * 4294967296 := by omega
  rw [hd]
  rw [Int.pow_add] at hv ⊢
  generalize (((x + w + c) / 4294967296 : Nat) : Int) = q
  generalize (4294967296 : Int) ^ i = P at *
  generalize (4294967296 : Int) ^ s = Q at *
  grind

theorem back_fin {o us vs : List Int} {s n x c R' V : Nat} (hi : s + n < o.length) (hx : us.getD (s + n) 0 = x) (hc : c ≤ 1) (hxl : x < 4294967296) (hu : valI us (s + n + 1) = R') (hV : valI vs n = V)
    (hv : valI o (s + n) + c * 4294967296 ^ (s + n) = valI us (s + n) + valI vs n * 4294967296 ^ s) (h0 : W32 (o.set (s + n) (((x + c) % 4294967296 : Nat) : Int))) :
    valI (o.set (s + n) (((x + c) % 4294967296 : Nat) : Int)) (s + n + 1) = (((R' + V * 4294967296 ^ s) % 4294967296 ^ (s + n + 1) : Nat) : Int) := by
  have h1 := valI_nonneg h0 (s + n + 1)
  have h2 := valI_lt h0 (s + n + 1)
  rw [valI] at hu
  have h3 : valI (o.set (s + n) (((x + c) % 4294967296 : Nat) : Int)) (s + n + 1) = ((R' + V * 4294967296 ^ s : Nat) : Int) - (((x + c) / 4294967296 : Nat) : Int) * 4294967296 ^ (s + n + 1) := by
    rw [valI, valI_set_ge (Nat.le_refl _), getD_set, if_pos ⟨rfl, hi⟩, Int.natCast_add, ← hu, hx, Int.natCast_mul, ← hV, natPowW, Int.pow_succ]
    have hd : (((x + c) % 4294967296 : Nat) : Int) = (x : Int) + c - (((x + c) / 4294967296 : Nat) : Int) * 4294967296 := by omega
    rw [hd]
    generalize (((x + c) / 4294967296 : Nat) : Int) = q
    generalize (4294967296 : Int) ^ (s + n) = P at *
    generalize (4294967296 : Int) ^ s = Q at *
    grind
  rw [← natPowW] at h2
  rw [h3] at h1 h2 ⊢
  rw [← natPowW] at *
  have e1 : (((x + c) / 4294967296 : Nat) : Int) * ((4294967296 ^ (s + n + 1) : Nat) : Int) = ((((x + c) / 4294967296) * 4294967296 ^ (s + n + 1) : Nat) : Int) := (Int.natCast_mul _ _).symm
  rw [e1] at h1 h2 ⊢
  generalize (x + c) / 4294967296 = t at *
  generalize 4294967296 ^ (s + n + 1) = B at *
  generalize V * 4294967296 ^ s = D at *
  have h5 : R' + D = (R' + D - t * B) + t * B := by omega
  rw [h5, Nat.add_mul_mod_self_right, Nat.mod_eq_of_lt (by omega)]
  omega

/-- What a round of the division leaves. -/
theorem long_pos {R d D B : Nat} (h : d * D ≤ R) (hB : R < B) : (R + B - d * D) % B = R - d * D := by
  rw [show R + B - d * D = (R - d * D) + B from by omega, Nat.add_mod_right, Nat.mod_eq_of_lt (by omega)]
theorem long_neg {R d D B : Nat} (h : R < d * D) (h2 : d * D ≤ R + D) (hB : R < B) (hD : D ≤ B) : ((R + B - d * D) % B + D) % B = R - (d - 1) * D ∧ (d - 1) * D ≤ R ∧ R < (d - 1 + 1) * D ∧ 0 < d := by
  have hd : 0 < d := by
    rcases Nat.eq_zero_or_pos d with rfl | h'
    · simp at h
    · exact h'
  have e : d * D = (d - 1) * D + D := by rw [← Nat.succ_mul]; congr 1; omega
  have e2 : (d - 1 + 1) * D = d * D := by congr 1; omega
  rw [e2]
  refine ⟨?_, by omega, h, hd⟩
  rw [Nat.mod_eq_of_lt (show R + B - d * D < B by omega)]
  rw [show R + B - d * D + D = (R - (d - 1) * D) + B from by omega, Nat.add_mod_right, Nat.mod_eq_of_lt (by omega)]
/-- The divisor's top word has its highest bit set after the shift. -/
theorem long_norm {ys : List Int} (hy : W32 ys) {n y Y s V : Nat} (h2 : 2 ≤ n) (hyt : ys.getD (n - 1) 0 = y) (hY : valI ys n = Y) (hs : 32 - sz y = s) (hV : Y * 2 ^ s = V) (h1 : 1 ≤ sz y) (h32 : sz y ≤ 32) :
    V < 4294967296 ^ n ∧ 2147483648 * 4294967296 ^ (n - 1) ≤ V := by
  have hn : n = (n - 1) + 1 := by omega
  have ha := valI_nonneg hy (n - 1)
  have hb := valI_lt hy (n - 1)
  rw [hn, valI, hyt] at hY
  rw [← natPowW] at hb hY
  have e1 : (y : Int) * ((4294967296 ^ (n - 1) : Nat) : Int) = ((y * 4294967296 ^ (n - 1) : Nat) : Int) := (Int.natCast_mul _ _).symm
  rw [e1] at hY
  have hY1 : y * 4294967296 ^ (n - 1) ≤ Y := by omega
  have hY2 : Y < (y + 1) * 4294967296 ^ (n - 1) := by rw [Nat.add_mul, Nat.one_mul]; omega
  have hy1 : y < 2 ^ sz y := sz_le.1 (Nat.le_refl _)
  have hy2 : 2 ^ (sz y - 1) ≤ y := by
    refine Classical.byContradiction fun h => ?_
    have := sz_le.2 (show y < 2 ^ (sz y - 1) by omega)
    omega
  have p1 : 2 ^ sz y * 2 ^ s = 4294967296 := by rw [← Nat.pow_add, show sz y + s = 32 from by omega]
  have p2 : 2 ^ (sz y - 1) * 2 ^ s = 2147483648 := by rw [← Nat.pow_add, show sz y - 1 + s = 31 from by omega]
  have hs0 : 0 < 2 ^ s := Nat.two_pow_pos s
  have hQ : 4294967296 ^ n = 4294967296 ^ (n - 1) * 4294967296 := by rw [← Nat.pow_succ]; congr 1
  rw [hQ, ← hV]
  generalize 4294967296 ^ (n - 1) = Q at *
  generalize 2 ^ s = T at *
  constructor
  · have h3 : Y * T < (y + 1) * Q * T := Nat.mul_lt_mul_of_pos_right hY2 hs0
    have h4 : (y + 1) * Q * T ≤ 2 ^ sz y * Q * T := Nat.mul_le_mul_right _ (Nat.mul_le_mul_right _ hy1)
    rw [show 2 ^ sz y * Q * T = Q * (2 ^ sz y * T) from by rw [Nat.mul_comm (2 ^ sz y) Q, Nat.mul_assoc], p1] at h4
    omega
  · have h3 : 2 ^ (sz y - 1) * Q * T ≤ Y * T := Nat.mul_le_mul_right _ (Nat.le_trans (Nat.mul_le_mul_right _ hy2) hY1)
    rw [show 2 ^ (sz y - 1) * Q * T = (2 ^ (sz y - 1) * T) * Q from by rw [Nat.mul_assoc, Nat.mul_comm Q T, Nat.mul_assoc], p2] at h3
    exact h3

theorem powW_split {k n : Nat} (h2 : 2 ≤ n) : 4294967296 ^ (k + (n - 2)) = 4294967296 ^ (n - 2) * 4294967296 ^ k ∧ 4294967296 ^ (k + (n - 1)) = 4294967296 ^ (n - 2) * 4294967296 ^ k * 4294967296 ∧ 4294967296 ^ (k + n) = 4294967296 ^ (n - 2) * 4294967296 ^ k * 4294967296 * 4294967296 ∧
    4294967296 ^ (n - 1) = 4294967296 ^ (n - 2) * 4294967296 ∧ 4294967296 ^ n = 4294967296 ^ (n - 2) * 4294967296 * 4294967296 ∧ 4294967296 ^ (k + n + 1) = 4294967296 ^ (n - 2) * 4294967296 ^ k * 4294967296 * 4294967296 * 4294967296 := by
  have e0 : 4294967296 ^ (k + (n - 2)) = 4294967296 ^ (n - 2) * 4294967296 ^ k := by rw [Nat.pow_add, Nat.mul_comm]
  refine ⟨e0, ?_, ?_, ?_, ?_, ?_⟩
  · rw [← e0, ← Nat.pow_succ]; congr 1; omega
  · rw [← e0, ← Nat.pow_succ, ← Nat.pow_succ]; congr 1; omega
  · rw [← Nat.pow_succ]; congr 1; omega
  · rw [← Nat.pow_succ, ← Nat.pow_succ]; congr 1; omega
  · rw [← e0, ← Nat.pow_succ, ← Nat.pow_succ, ← Nat.pow_succ]; congr 1; omega

/-- The first remainder fits. -/
theorem long_first {X V s l n : Nat} (hX : X < 4294967296 ^ l) (hs : s < 32) (hV : 2147483648 * 4294967296 ^ (n - 1) ≤ V) (h2 : 2 ≤ n) (hnl : n ≤ l) : X * 2 ^ s < V * 4294967296 ^ (l + 1 - n) := by
  have h3 : 2 ^ s ≤ 2147483648 := Nat.le_trans (Nat.pow_le_pow_right (by decide) (show s ≤ 31 by omega)) (by decide)
  have e : 4294967296 ^ l = 4294967296 ^ (n - 1) * 4294967296 ^ (l + 1 - n) := by rw [← Nat.pow_add]; congr 1; omega
  have h4 : 2147483648 * 4294967296 ^ (n - 1) * 4294967296 ^ (l + 1 - n) ≤ V * 4294967296 ^ (l + 1 - n) := Nat.mul_le_mul_right _ hV
  rw [Nat.mul_assoc, ← e, Nat.mul_comm] at h4
  have h5 : X * 2 ^ s < 4294967296 ^ l * 2147483648 := Nat.lt_of_lt_of_le (Nat.mul_lt_mul_of_pos_right hX (Nat.two_pow_pos s)) (Nat.mul_le_mul_left _ h3)
  omega

/-- The words that the round looks at. -/
theorem long_words {R V P S k n l : Nat} (h2 : 2 ≤ n) (hk : k + n < l + 1) (hP : 4294967296 ^ (n - 2) = P) (hS : 4294967296 ^ k = S) (hVn : V < 4294967296 ^ n) (hVg : 2147483648 * 4294967296 ^ (n - 1) ≤ V) (hR : R < V * (S * 4294967296)) :
    R < 4294967296 ^ (k + n + 1) ∧ V * 4294967296 ^ k ≤ 4294967296 ^ (k + n + 1) ∧ 4294967296 * P ≤ V ∧ (2147483648 ≤ V / P / 4294967296 ∧ V / P / 4294967296 < 4294967296) ∧ R / (P * S) / 4294967296 < 18446744073709551616 ∧
    (digs R (l + 1)).getD (k + n) 0 = ((R / (P * S) / 4294967296 / 4294967296 : Nat) : Int) ∧ (digs R (l + 1)).getD (k + (n - 1)) 0 = ((R / (P * S) / 4294967296 % 4294967296 : Nat) : Int) ∧ (digs R (l + 1)).getD (k + (n - 2)) 0 = ((R / (P * S) % 4294967296 : Nat) : Int) ∧
    (digs V (n + 1)).getD (n - 1) 0 = ((V / P / 4294967296 : Nat) : Int) ∧ (digs V (n + 1)).getD (n - 2) 0 = ((V / P % 4294967296 : Nat) : Int) := by
  obtain ⟨q1, q2, q3, q4, q5, q6⟩ := powW_split (k := k) h2
  rw [hP] at q1 q2 q3 q4 q5 q6
  rw [hS] at q1 q2 q3 q6
  have hP0 : 0 < P := by rw [← hP]; exact Nat.pow_pos (by decide)
  have hS0 : 0 < S := by rw [← hS]; exact Nat.pow_pos (by decide)
  have hPS : 0 < P * S := Nat.mul_pos hP0 hS0
  rw [q5] at hVn
  rw [q4] at hVg
  have c1 : V * (S * 4294967296) ≤ P * S * 4294967296 * 4294967296 * 4294967296 := by
    refine Nat.le_trans (Nat.mul_le_mul_right _ (Nat.le_of_lt hVn)) (Nat.le_of_eq ?_)
    grind
  have hRB : R < P * S * 4294967296 * 4294967296 * 4294967296 := Nat.lt_of_lt_of_le hR c1
  have c2 : V * S ≤ P * S * 4294967296 * 4294967296 * 4294967296 := Nat.le_trans (Nat.mul_le_mul_left _ (by omega)) c1
  have d1 : V / P / 4294967296 = V / (P * 4294967296) := Nat.div_div_eq_div_mul _ _ _
  have v1lt : V / P / 4294967296 < 4294967296 := by
    rw [d1]; exact Nat.div_lt_of_lt_mul hVn
  have v1ge : 2147483648 ≤ V / P / 4294967296 := by
    rw [d1]; exact (Nat.le_div_iff_mul_le (by omega)).2 hVg
  have d2 : R / (P * S) / 4294967296 / 4294967296 = R / (P * S * 4294967296 * 4294967296) := by rw [Nat.div_div_eq_div_mul, Nat.div_div_eq_div_mul, Nat.mul_assoc (P * S)]
  have d3 : R / (P * S) / 4294967296 = R / (P * S * 4294967296) := Nat.div_div_eq_div_mul _ _ _
  have tlt : R / (P * S) / 4294967296 / 4294967296 < 4294967296 := by
    rw [d2]; exact Nat.div_lt_of_lt_mul hRB
  refine ⟨by rw [q6]; exact hRB, by rw [q6, hS]; exact c2, by omega, ⟨v1ge, v1lt⟩, by omega, ?_, ?_, ?_, ?_, ?_⟩
  · rw [digs_get (by omega), q3, ← d2, Nat.mod_eq_of_lt tlt]
  · rw [digs_get (by omega), q2, ← d3]
  · rw [digs_get (by omega), q1]
  · rw [digs_get (by omega), q4, ← d1, Nat.mod_eq_of_lt v1lt]
  · rw [digs_get (by omega), hP]

end Go.Proofs.YtkpfineikahgfaaGreatDoor

namespace Go.Proofs.YtkpfineikahgfaaGreatDoor
open Go.Sx
set_option linter.unusedSimpArgs false
set_option linter.unusedVariables false
set_option maxRecDepth 100000
set_option maxHeartbeats 4000000
variable {M : Nat}

theorem more_eq (a b : Rat) : decide (a.den - 1 = b.den - 1) = decide (a.den = b.den) := decide_eq_decide.2 (by have := a.den_pos; have := b.den_pos; omega)

theorem sz_iadd {x y : Int} {k M : Nat} (hx : sz x.natAbs ≤ k) (hy : sz y.natAbs ≤ k) (h : k + 1 ≤ M) : sz (x + y).natAbs ≤ M :=
  Nat.le_trans (Nat.le_trans (sz_mono (Int.natAbs_add_le x y)) (sz_add hx hy)) h
theorem mkRat_same {a b : Rat} (h : a.den = b.den) : mkRat (a.num + b.num) a.den = a + b := by
  rw [Rat.add_def', ← h, ← Int.add_mul, Rat.mkRat_mul_right a.den_nz]

theorem c_fAdd (ok : NatOK M) (a b : Rat) (h : fsz a + fsz b + 1 ≤ M) : CallOK Tryz.prog 143 [.frac a, .frac b] [] (.frac (a + b)) [] [] := by
  have ha := fsz_num a; have ha' := fsz_den a; have hb := fsz_num b; have hb' := fsz_den b
  have hbp := sz_one_le b.den b.den_nz
  have hap := sz_one_le a.den a.den_nz
  have wa := c_Whole a
  have wb := c_Whole b
  have k1 := c_iAdd ok a.num b.num (by omega) (by omega)
  have k2 := c_den ok a (by omega)
  have k3 := c_den ok b (by omega)
  refine callV (Z := []) tabOK mixedOK Tryz.func143 rfl (by kernel_rfl) rfl rfl (by kernel_rfl) rfl ?_
  intro W0 w0 ρ0 hE
  conv => whnf
  by_cases hw : a.den = 1 ∧ b.den = 1
  · have k5 := c_whole (a.num + b.num)
    have e : ((a.num + b.num : Int) : Rat) = a + b := by
      rw [int_of_den hw.1, int_of_den hw.2, Rat.intCast_add]; rfl
    rw [e] at k5
    rw [decide_eq_true hw.1] at wa
    rw [decide_eq_true hw.2] at wb
    (repeat (first | (refine step_w1 rfl rfl ?_; conv => whnf) | (refine g_c (by assumption) ?_; conv => whnf) | (refine g_o (op_pickT rfl (ev_ok rfl) (ev_ok rfl)) ?_; conv => whnf))); exact Recast.refl _
  · by_cases h1 : a.den = 1
    · rw [decide_eq_true h1] at wa
      rw [decide_eq_false (show ¬ b.den = 1 from fun h2 => hw ⟨h1, h2⟩)] at wb
      (repeat ((first | refine step_w1 rfl rfl ?_ | refine step_w2 rfl rfl ?_ | refine g_c (by assumption) ?_ | refine g_o (op_pickT rfl (ev_ok rfl) (ev_ok rfl)) ?_); conv => whnf))
      refine ⟨_, op_eqAgg tabOK goodOK rfl (ev_ok rfl) (ev_ok rfl) rfl rfl rfl rfl (eqTy_nat (a.den - 1) (b.den - 1)) guard_nat, ?_⟩
      rw [more_eq]
      by_cases hd : a.den = b.den
      · rw [decide_eq_true hd]
        have k4 := c_lowest ok (a.num + b.num) a.den (sz_iadd (k := M - 1) (by omega) (by omega) (by omega)) (by omega) a.den_nz
        rw [mkRat_same hd] at k4
        conv => whnf
        (repeat (first | (refine step_w1 rfl rfl ?_; conv => whnf) | (refine step_i (by kernel_rfl) ?_; conv => whnf) | (refine g_c (by assumption) ?_; conv => whnf))); exact Recast.refl _
      · rw [decide_eq_false hd]
        have p1 := sz_mul a.num.natAbs b.den
        have p2 := sz_mul b.num.natAbs a.den
        have p3 := sz_mul a.den b.den
        have q1 : sz (a.num * b.den).natAbs ≤ M - 1 := by rw [Int.natAbs_mul, Int.natAbs_natCast]; omega
        have q2 : sz (b.num * a.den).natAbs ≤ M - 1 := by rw [Int.natAbs_mul, Int.natAbs_natCast]; omega
        have r1 := c_signed ok a (by omega)
        have r2 := c_signed ok b (by omega)
        have r3 := c_iMul ok a.num b.den (by rw [Int.natAbs_natCast]; omega)
        have r4 := c_iMul ok b.num a.den (by rw [Int.natAbs_natCast]; omega)
        have r5 := c_iAdd ok (a.num * b.den) (b.num * a.den) (by omega) (by omega)
        have r6 := ok.mul a.den b.den (by omega)
        have r7 := c_lowest ok (a.num * b.den + b.num * a.den) (a.den * b.den) (sz_iadd (k := M - 1) q1 q2 (by omega)) (by omega) (Nat.mul_ne_zero a.den_nz b.den_nz)
        rw [← Rat.add_def'] at r7
        conv => whnf
        (repeat (first | (refine step_w2 rfl rfl ?_; conv => whnf) | (refine step_i (by kernel_rfl) ?_; conv => whnf) | (refine g_c (by assumption) ?_; conv => whnf))); exact Recast.refl _
    · rw [decide_eq_false h1] at wa
      (repeat (first | (refine step_w2 rfl rfl ?_; conv => whnf) | (refine g_c (by assumption) ?_; conv => whnf) | (refine g_o (op_pickF rfl (ev_ok rfl) (ev_ok rfl)) ?_; conv => whnf)))
      refine ⟨_, op_eqAgg tabOK goodOK rfl (ev_ok rfl) (ev_ok rfl) rfl rfl rfl rfl (eqTy_nat (a.den - 1) (b.den - 1)) guard_nat, ?_⟩
      rw [more_eq]
      by_cases hd : a.den = b.den
      · rw [decide_eq_true hd]
        have k4 := c_lowest ok (a.num + b.num) a.den (sz_iadd (k := M - 1) (by omega) (by omega) (by omega)) (by omega) a.den_nz
        rw [mkRat_same hd] at k4
        conv => whnf
        (repeat (first | (refine step_w1 rfl rfl ?_; conv => whnf) | (refine step_i (by kernel_rfl) ?_; conv => whnf) | (refine g_c (by assumption) ?_; conv => whnf))); exact Recast.refl _
      · rw [decide_eq_false hd]
        have p1 := sz_mul a.num.natAbs b.den
        have p2 := sz_mul b.num.natAbs a.den
        have p3 := sz_mul a.den b.den
        have q1 : sz (a.num * b.den).natAbs ≤ M - 1 := by rw [Int.natAbs_mul, Int.natAbs_natCast]; omega
        have q2 : sz (b.num * a.den).natAbs ≤ M - 1 := by rw [Int.natAbs_mul, Int.natAbs_natCast]; omega
        have r1 := c_signed ok a (by omega)
        have r2 := c_signed ok b (by omega)
        have r3 := c_iMul ok a.num b.den (by rw [Int.natAbs_natCast]; omega)
        have r4 := c_iMul ok b.num a.den (by rw [Int.natAbs_natCast]; omega)
        have r5 := c_iAdd ok (a.num * b.den) (b.num * a.den) (by omega) (by omega)
        have r6 := ok.mul a.den b.den (by omega)
        have r7 := c_lowest ok (a.num * b.den + b.num * a.den) (a.den * b.den) (sz_iadd (k := M - 1) q1 q2 (by omega)) (by omega) (Nat.mul_ne_zero a.den_nz b.den_nz)
        rw [← Rat.add_def'] at r7
        conv => whnf
        (repeat (first | (refine step_w2 rfl rfl ?_; conv => whnf) | (refine step_i (by kernel_rfl) ?_; conv => whnf) | (refine g_c (by assumption) ?_; conv => whnf))); exact Recast.refl _
end Go.Proofs.YtkpfineikahgfaaGreatDoor

namespace Go.Proofs.YtkpfineikahgfaaGreatDoor
open Go.Sx
set_option linter.unusedSimpArgs false
set_option linter.unusedVariables false
set_option maxRecDepth 100000
set_option maxHeartbeats 80000000

theorem NamesOK.roNew2 {fk : List (Nat × Blk)} {m p : Nat} {b c : Blk} {σ : Nat → Nat} (h : allRo fk = true) (hn : ∀ q ∈ keysOf fk, σ m ≠ σ q ∧ σ p ≠ σ q) (hmp : σ m ≠ σ p) : NamesOK fk [(m, b), (p, c)] σ :=
  ⟨(fun q q' b b' hq _ _ hw => by rw [allRo_spec h q b hq] at hw; cases hw), (fun x y h1 h2 hne => by
    have h1 : x = m ∨ x = p := by simpa [keysOf] using h1
    have h2 : y = m ∨ y = p := by simpa [keysOf] using h2
    rcases h1 with rfl | rfl <;> rcases h2 with rfl | rfl
    · exact absurd rfl hne
    · exact hmp
    · exact hmp.symm
    · exact absurd rfl hne), (fun x q h1 h2 => by
    have h1 : x = m ∨ x = p := by simpa [keysOf] using h1
    rcases h1 with rfl | rfl
    · exact (hn q h2).1
    · exact (hn q h2).2)⟩

theorem two_new {hp : List (Nat × Blk)} {k l : Nat} {b c : Blk} (h : find hp k = none) (h' : find hp l = none) : ∀ j d, (j, d) ∈ [(k, b), (l, c)] → find hp j = none := fun j d hm => by
  simp only [List.mem_cons, List.not_mem_nil, or_false, Prod.mk.injEq] at hm
  rcases hm with ⟨rfl, rfl⟩ | ⟨rfl, rfl⟩ <;> assumption

theorem long_end {R Qv V S d U : Nat} (h1 : d * (V * S) ≤ R) (h2 : R < (d + 1) * (V * S)) (hU : U = Qv * V + R) : R - d * (V * S) < V * S ∧ U = (Qv + d * S) * V + (R - d * (V * S)) := by
  rw [Nat.add_mul, Nat.one_mul] at h2
  refine ⟨by omega, ?_⟩
  rw [Nat.add_mul, show d * S * V = d * (V * S) from by rw [Nat.mul_assoc, Nat.mul_comm S V]]
  omega
theorem valI_digs_lo {v m L : Nat} (hv : v < 4294967296 ^ m) (hm : m ≤ L) : valI (digs v L) m = v := by
  rw [← valI_zeros (xs := digs v L) (k := m) (n := L) (fun i h1 _ => digs_hi hv h1) hm, valI_digs, Nat.mod_eq_of_lt (Nat.lt_of_lt_of_le hv (Nat.pow_le_pow_right (by decide) hm))]

theorem long_out {X Y V Qv R s : Nat} (hV : Y * 2 ^ s = V) (h : X * 2 ^ s = Qv * V + R) (hR : R < V) : X / Y = Qv ∧ R / 2 ^ s = X % Y := by
  have hs : 0 < 2 ^ s := Nat.two_pow_pos s
  have hY : 0 < Y := by
    rcases Nat.eq_zero_or_pos Y with rfl | h'
    · rw [Nat.zero_mul] at hV; omega
    · exact h'
  have h1 : X * 2 ^ s / (Y * 2 ^ s) = Qv := by
    rw [h, hV, Nat.add_comm, Nat.add_mul_div_right _ _ (by omega), Nat.div_eq_of_lt hR, Nat.zero_add]
  have h2 : X * 2 ^ s % (Y * 2 ^ s) = R := by
    rw [h, hV, Nat.add_comm, Nat.add_mul_mod_self_right, Nat.mod_eq_of_lt hR]
  rw [Nat.mul_div_mul_right _ _ hs] at h1
  rw [Nat.mul_mod_mul_right] at h2
  exact ⟨h1, by rw [← h2, Nat.mul_div_cancel _ hs]⟩

theorem shl_ior {a b : Nat} (ha : a < 4294967296) (hb : b < 4294967296) : ior .u64 (ishl .u64 (a : Int) 32) (b : Int) = ((a * 4294967296 + b : Nat) : Int) := by
  have e1 : ishl .u64 (a : Int) 32 = ((a * 4294967296 : Nat) : Int) := by
    show IntKind.u64.wrap ((a : Int) * 4294967296) = _
    rw [show (a : Int) * 4294967296 = ((a * 4294967296 : Nat) : Int) from by omega, wu64 (by omega)]
  rw [e1, ior_u64 (by omega) (by omega), Nat.mul_comm, ← Nat.two_pow_add_eq_or_of_lt (i := 32) (b := b) (by omega) a]

theorem c_long (xs ys : List Int) (l n X Y : Nat) (hl : l ≤ xs.length) (hn : n ≤ ys.length) (hxl : xs.length < 549755813888) (hyl : ys.length < 549755813888) (hx : W32 xs) (hy : W32 ys) (hX : valI xs l = X) (hY : valI ys n = Y)
    (h2 : 2 ≤ n) (htop : ys.getD (n - 1) 0 ≠ 0) (hnl : n ≤ l) (K1 K2 Q1 Q2 : Nat) (hk1 : Q1 ≠ K1 ∧ Q2 ≠ K1) (hk2 : Q1 ≠ K2 ∧ Q2 ≠ K2) (hq : Q1 ≠ Q2) :
    CallOK Tryz.prog 225 [.slc K1 1 0 l, .slc K2 1 0 n] [(K1, ⟨95, false, .ints .u32 xs⟩), (K2, ⟨95, false, .ints .u32 ys⟩)] (.tup [.slc Q1 1 0 (l + 1 - n), .slc Q2 1 0 (l + 1)])
      [(Q1, ⟨95, true, .ints .u32 (digs (X / Y) (l + 1 - n))⟩), (Q2, ⟨95, true, .ints .u32 (digs (X % Y) (l + 1))⟩)] [] := by
  obtain ⟨y, hyt⟩ := Int.eq_ofNat_of_zero_le (hy (n - 1)).1
  have hy2 := (hy (n - 1)).2
  have kz := c_LZ32 y (by omega)
  have hsz : 1 ≤ sz y ∧ sz y ≤ 32 := by
    refine ⟨?_, sz_le.2 (show y < 2 ^ 32 by have : (2 : Nat) ^ 32 = 4294967296 := rfl; omega)⟩
    refine Classical.byContradiction fun h => ?_
    have h3 := sz_le.1 (show sz y ≤ 0 by omega)
    rw [Nat.pow_zero] at h3
    exact htop (by rw [hyt]; omega)
  obtain ⟨s, hs⟩ : ∃ s, 32 - sz y = s := ⟨_, rfl⟩
  rw [hs] at kz
  have hs32 : s < 32 := by omega
  have ku := c_shifted xs l hl (by omega) hx s hs32 0 2001 (by decide) false X hX
  have kv := c_shifted ys n hn (by omega) hy s hs32 1 2002 (by decide) false Y hY
  obtain ⟨V, hVd⟩ : ∃ V, Y * 2 ^ s = V := ⟨_, rfl⟩
  rw [hVd] at kv
  have hXl : X < 4294967296 ^ l := by have := valI_lt hx l; rw [hX, ← natPowW] at this; omega
  have e0 : Hid (IntKind.i64.wrap ((n : Int) - 1) = ((n - 1 : Nat) : Int)) := show IntKind.i64.wrap ((n : Int) - 1) = ((n - 1 : Nat) : Int) from by rw [wrap_i64 (by omega) (by omega)]; omega
  have e1 : Hid (0 + ((n - 1 : Nat) : Int).toNat = n - 1) := show 0 + ((n - 1 : Nat) : Int).toNat = n - 1 from by omega
  have hnames : ∀ q ∈ keysOf [(0, (⟨95, false, .ints .u32 xs⟩ : Blk)), (1, ⟨95, false, .ints .u32 ys⟩)], renBy [(0, K1), (1, K2), (39, Q1), (2001, Q2)] 39 ≠ renBy [(0, K1), (1, K2), (39, Q1), (2001, Q2)] q ∧ renBy [(0, K1), (1, K2), (39, Q1), (2001, Q2)] 2001 ≠ renBy [(0, K1), (1, K2), (39, Q1), (2001, Q2)] q := fun q hq => by
    have hq : q = 0 ∨ q = 1 := by simpa [keysOf] using hq
    rcases hq with rfl | rfl
    · exact hk1
    · exact hk2
  refine callK (Z := []) tabOK mixedOK Tryz.func225 rfl (by kernel_rfl) (args := [.slc 0 1 0 l, .slc 1 1 0 n]) (fk := [(0, ⟨95, false, .ints .u32 xs⟩), (1, ⟨95, false, .ints .u32 ys⟩)])
    (c := .tup [.slc 39 1 0 (l + 1 - n), .slc 2001 1 0 (l + 1)]) (new := [(39, ⟨95, true, .ints .u32 (digs (X / Y) (l + 1 - n))⟩), (2001, ⟨95, true, .ints .u32 (digs (X % Y) (l + 1))⟩)]) (upd := []) (ShapeOK.of rfl rfl rfl rfl rfl rfl rfl rfl rfl rfl rfl) rfl (renBy [(0, K1), (1, K2), (39, Q1), (2001, Q2)]) (NamesOK.roNew2 rfl hnames hq) ?_
  intro W0 w0 ρ0 hE
  conv => whnf
  have e3 : Hid (((n : Int) - 0).toNat = n) := show ((n : Int) - 0).toNat = n from by omega
  have e4 : Hid (IntKind.i64.wrap (((l + 1 : Nat) : Int) - (n : Int)) = ((l + 1 - n : Nat) : Int)) := show IntKind.i64.wrap (((l + 1 : Nat) : Int) - (n : Int)) = ((l + 1 - n : Nat) : Int) from by rw [wrap_i64 (by omega) (by omega)]; omega
  have e5 : Hid (0 + Int.toNat 0 = 0) := show 0 + Int.toNat 0 = 0 from rfl
  have e6 : Hid (IntKind.i64.wrap (((l + 1 - n : Nat) : Int) - 1) = ((l + 1 - n : Nat) : Int) - 1) := show IntKind.i64.wrap (((l + 1 - n : Nat) : Int) - 1) = ((l + 1 - n : Nat) : Int) - 1 from wrap_i64 (by omega) (by omega)
  (repeat ((first | refine step_i (by kernel_rfl) ?_ | refine step_oL (by first | omega | decide | (simp only [tiB5, tiB95, tiB3, tiB2, tiB9, tiB38, tiB74, tiB25, tiB41, tiB36, tiB30, tiB4, tiB70, tiB72, tiB164, tiB27, tiB62, tiB32, dlen, List.length_replicate, List.length_set, List.length_map, List.length_zipWith, List.length_take, List.length_append, List.length_cons, List.length_nil]; omega)) ?_ | refine step_oA (by first | omega | decide | (simp only [tiB5, tiB95, tiB3, tiB2, tiB9, tiB38, tiB74, tiB25, tiB41, tiB36, tiB30, tiB4, tiB70, tiB72, tiB164, tiB27, tiB62, tiB32, dlen, List.length_replicate, List.length_set, List.length_map, List.length_zipWith, List.length_take, List.length_append, List.length_cons, List.length_nil]; omega)) ?_ | refine g_c (by assumption) ?_ | refine g_c1n (by assumption) rfl rfl ?_ | rw [e0.out] | rw [e1.out] | rw [hyt] | rw [e3.out] | rw [e5.out] | rw [e4.out]); conv => whnf))
  have e7 : Hid (IntKind.i64.wrap ((((l + 1 - n : Nat) : Int).toNat : Int) - 1) = ((l + 1 - n : Nat) : Int) - 1) := show IntKind.i64.wrap ((((l + 1 - n : Nat) : Int).toNat : Int) - 1) = ((l + 1 - n : Nat) : Int) - 1 from wrap_i64 (by omega) (by omega)
  rw [e7.out]
  obtain ⟨hVn, hVg⟩ := long_norm hy h2 hyt hY hs hVd hsz.1 hsz.2
  have hvs : valI (digs V (n + 1)) n = V := valI_digs_lo hVn (by omega)
  have hvw : W32 (digs V (n + 1)) := digs_w32 _ _
  have hvlen : (digs V (n + 1)).length = n + 1 := digs_len _ _
  refine SW_loopN hE (fun k => k) [4, 6, 7, 8, 9, 10] [0, 1, 39, 2001, 2002] (fun j fr hp => ∃ (R Qv : Nat) (q : List Int), j ≤ l + 1 - n ∧ R < V * 4294967296 ^ j ∧ X * 2 ^ s = Qv * V + R ∧ q.length = l + 1 - n ∧ W32 q ∧ (∀ i, i < j → q.getD i 0 = 0) ∧ valI q (l + 1 - n) = Qv ∧
    fr = [(4, .slc 39 1 0 (l + 1 - n)), (6, .val (.int .i64 s)), (7, .slc 2001 1 0 (l + 1)), (8, .slc 2002 1 0 n), (9, .val (.int .i64 n)), (10, .val (.int .i64 ((j : Int) - 1)))] ∧ hp = [(0, ⟨95, false, .ints .u32 xs⟩), (1, ⟨95, false, .ints .u32 ys⟩), (39, ⟨95, true, .ints .u32 q⟩), (2001, ⟨95, true, .ints .u32 (digs R (l + 1))⟩), (2002, ⟨95, true, .ints .u32 (digs V (n + 1))⟩)]) (l + 1 - n) ?_ ?_ ?_
  · kernel_rfl
  · exact ⟨X * 2 ^ s, 0, List.replicate (l + 1 - n) 0, Nat.le_refl _, long_first hXl hs32 hVg h2 hnl, by omega, by simp, (fun i => by rw [getD_replicate]; decide), (fun i _ => getD_replicate), by rw [valI_zeros (k := 0) (fun i _ _ => getD_replicate) (by omega)]; simp [valI], rfl, rfl⟩
  rintro j _ _ ⟨R, Qv, q, hj, hR, hXR, hql, hqw, hq0, hqv, rfl, rfl⟩
  by_cases h0 : j = 0
  · subst h0
    have t1 : Hid (decide (((0 : Nat) : Int) - 1 ≥ 0) = false) := show decide (((0 : Nat) : Int) - 1 ≥ 0) = false from rfl
    conv => whnf
    (repeat (first | (refine step_w2 rfl rfl ?_; conv => whnf) | (rw [t1.out]; conv => whnf)))
    have hRV : R < V := by simpa using hR
    obtain ⟨hdq, hdr⟩ := long_out hVd hXR hRV
    have hRl : R < 4294967296 ^ (l + 1) := Nat.lt_of_lt_of_le (Nat.lt_trans hRV hVn) (Nat.pow_le_pow_right (by decide) (by omega))
    have hqd : q = digs (X / Y) (l + 1 - n) := digs_of' hql hqw (by rw [hqv, hdq])
    refine SW_loopN hE (fun k => k) [4, 7, 167, 168] [0, 1, 39, 2001] (fun m fr hp => ∃ (i : Nat), m = s - i ∧ i ≤ s ∧
      fr = [(4, .slc 39 1 0 (l + 1 - n)), (7, .slc 2001 1 0 (l + 1)), (167, .val (.int .i64 s)), (168, .val (.int .i64 i))] ∧ hp = [(0, ⟨95, false, .ints .u32 xs⟩), (1, ⟨95, false, .ints .u32 ys⟩), (39, ⟨95, true, .ints .u32 q⟩), (2001, ⟨95, true, .ints .u32 (digs (R / 2 ^ i) (l + 1))⟩)]) s ?_ ?_ ?_
    · kernel_rfl
    · exact ⟨0, by omega, by omega, rfl, by rw [Nat.pow_zero, Nat.div_one]; rfl⟩
    rintro m _ _ ⟨i, rfl, hi, rfl, rfl⟩
    by_cases hlt : i < s
    · have t2 : Hid (decide ((i : Int) < (s : Int)) = true) := show decide ((i : Int) < (s : Int)) = true from decide_eq_true (by omega)
      have f4 : Hid (IntKind.i64.wrap ((i : Int) + 1) = ((i + 1 : Nat) : Int)) := show IntKind.i64.wrap ((i : Int) + 1) = ((i + 1 : Nat) : Int) from by rw [wrap_i64 (by omega) (by omega)]; omega
      have kh := c_half (digs (R / 2 ^ i) (l + 1)) (by rw [digs_len]; omega) (digs_w32 _ _) 2001 (R / 2 ^ i) (by rw [digs_len, valI_digs, Nat.mod_eq_of_lt (Nat.lt_of_le_of_lt (Nat.div_le_self _ _) hRl)])
      rw [digs_len, Nat.div_div_eq_div_mul, ← Nat.pow_succ] at kh
      conv => whnf
      (repeat (first | (refine step_w1 rfl rfl ?_; conv => whnf) | (refine g_c1u (by assumption) rfl rfl ?_; conv => whnf) | (rw [t2.out]; conv => whnf)))
      rw [f4.out]
      exact ⟨s - (i + 1), fun k => k, [4, 7, 167, 168], [0, 1, 39, 2001], by omega, by kernel_rfl, i + 1, rfl, by omega, rfl, rfl⟩
    · have hi' : i = s := by omega
      subst hi'
      have t2 : Hid (decide ((i : Int) < (i : Int)) = false) := show decide ((i : Int) < (i : Int)) = false from decide_eq_false (by omega)
      rw [hqd, hdr]
      conv => whnf
      (repeat (first | (refine step_w2 rfl rfl ?_; conv => whnf) | (rw [t2.out]; conv => whnf)))
      exact ⟨Recast.refl _, two_fk rfl rfl, (fun _ _ h => by cases h)⟩
  obtain ⟨k, rfl⟩ : ∃ k, j = k + 1 := ⟨j - 1, by omega⟩
  have t1 : Hid (decide (((k + 1 : Nat) : Int) - 1 ≥ 0) = true) := show decide (((k + 1 : Nat) : Int) - 1 ≥ 0) = true from decide_eq_true (by omega)
  have hP : 0 < 4294967296 ^ (n - 2) := Nat.pow_pos (by decide)
  have hS : 0 < 4294967296 ^ k := Nat.pow_pos (by decide)
  have hul : (digs R (l + 1)).length = l + 1 := digs_len _ _
  obtain ⟨P, hPd⟩ : ∃ P, 4294967296 ^ (n - 2) = P := ⟨_, rfl⟩
  obtain ⟨S, hSd⟩ : ∃ S, 4294967296 ^ k = S := ⟨_, rfl⟩
  rw [hPd] at hP
  rw [hSd] at hS
  have hR' : R < V * (S * 4294967296) := by rw [← hSd, ← Nat.pow_succ]; exact hR
  obtain ⟨t, ht⟩ : ∃ t, R / (P * S) / 4294967296 = t := ⟨_, rfl⟩
  obtain ⟨u0, hu0⟩ : ∃ u0, R / (P * S) % 4294967296 = u0 := ⟨_, rfl⟩
  obtain ⟨v1, hv1⟩ : ∃ v1, V / P / 4294967296 = v1 := ⟨_, rfl⟩
  obtain ⟨v2, hv2⟩ : ∃ v2, V / P % 4294967296 = v2 := ⟨_, rfl⟩
  obtain ⟨hRB, hVSB, hVW, hv1a, hta, g1', g2', g3', g4', g5'⟩ := long_words (l := l) h2 (by omega) hPd hSd hVn hVg hR'
  have hv2a : V / P % 4294967296 < 4294967296 := Nat.mod_lt _ (by decide)
  have hu0a : R / (P * S) % 4294967296 < 4294967296 := Nat.mod_lt _ (by decide)
  rw [hv1] at hv1a g4'
  rw [ht] at hta g1' g2'
  rw [hu0] at g3' hu0a
  rw [hv2] at g5' hv2a
  have g1 : Hid ((digs R (l + 1)).getD (k + n) 0 = ((t / 4294967296 : Nat) : Int)) := show (digs R (l + 1)).getD (k + n) 0 = ((t / 4294967296 : Nat) : Int) from g1'
  have g2 : Hid ((digs R (l + 1)).getD (k + (n - 1)) 0 = ((t % 4294967296 : Nat) : Int)) := show (digs R (l + 1)).getD (k + (n - 1)) 0 = ((t % 4294967296 : Nat) : Int) from g2'
  have g3 : Hid ((digs R (l + 1)).getD (k + (n - 2)) 0 = (u0 : Int)) := show (digs R (l + 1)).getD (k + (n - 2)) 0 = (u0 : Int) from g3'
  have g4 : Hid ((digs V (n + 1)).getD (n - 1) 0 = (v1 : Int)) := show (digs V (n + 1)).getD (n - 1) 0 = (v1 : Int) from g4'
  have g5 : Hid ((digs V (n + 1)).getD (n - 2) 0 = (v2 : Int)) := show (digs V (n + 1)).getD (n - 2) 0 = (v2 : Int) from g5'
  clear g1' g2' g3' g4' g5'
  have i1 : Hid (((k + 1 : Nat) : Int) - 1 = (k : Int)) := show ((k + 1 : Nat) : Int) - 1 = (k : Int) from by omega
  have i2 : Hid (IntKind.i64.wrap ((k : Int) + (n : Int)) = ((k + n : Nat) : Int)) := show IntKind.i64.wrap ((k : Int) + (n : Int)) = ((k + n : Nat) : Int) from by rw [wrap_i64 (by omega) (by omega)]; omega
  have i3 : Hid (0 + ((k + n : Nat) : Int).toNat = k + n) := show 0 + ((k + n : Nat) : Int).toNat = k + n from by omega
  have i4 : Hid (IntKind.i64.wrap (((k + n : Nat) : Int) - 1) = ((k + (n - 1) : Nat) : Int)) := show IntKind.i64.wrap (((k + n : Nat) : Int) - 1) = ((k + (n - 1) : Nat) : Int) from by rw [wrap_i64 (by omega) (by omega)]; omega
  have i5 : Hid (0 + ((k + (n - 1) : Nat) : Int).toNat = k + (n - 1)) := show 0 + ((k + (n - 1) : Nat) : Int).toNat = k + (n - 1) from by omega
  have i6 : Hid (IntKind.u64.wrap ((t / 4294967296 : Nat) : Int) = ((t / 4294967296 : Nat) : Int)) := show IntKind.u64.wrap ((t / 4294967296 : Nat) : Int) = ((t / 4294967296 : Nat) : Int) from wu64 (by omega)
  have i7 : Hid (IntKind.u64.wrap ((t % 4294967296 : Nat) : Int) = ((t % 4294967296 : Nat) : Int)) := show IntKind.u64.wrap ((t % 4294967296 : Nat) : Int) = ((t % 4294967296 : Nat) : Int) from wu64 (by omega)
  have i8 : Hid (ior .u64 (ishl .u64 ((t / 4294967296 : Nat) : Int) 32) ((t % 4294967296 : Nat) : Int) = (t : Int)) := show ior .u64 (ishl .u64 ((t / 4294967296 : Nat) : Int) 32) ((t % 4294967296 : Nat) : Int) = (t : Int) from by rw [shl_ior (by omega) (by omega)]; congr 1; omega
  have i9 : Hid (IntKind.u64.wrap (v1 : Int) = (v1 : Int)) := show IntKind.u64.wrap (v1 : Int) = (v1 : Int) from wu64 (by omega)
  have i10 : Hid (((v1 : Int) != 0) = true) := show ((v1 : Int) != 0) = true from by simp; omega
  have i11 : Hid ((t : Int).tdiv (v1 : Int) = ((t / v1 : Nat) : Int)) := show (t : Int).tdiv (v1 : Int) = ((t / v1 : Nat) : Int) from rfl
  have i12 : Hid ((t : Int).tmod (v1 : Int) = ((t % v1 : Nat) : Int)) := show (t : Int).tmod (v1 : Int) = ((t % v1 : Nat) : Int) from rfl
  have hq1 : t / v1 ≤ t := Nat.div_le_self _ _
  have hq2 : t % v1 < v1 := Nat.mod_lt _ (by omega)
  have i13 : Hid (IntKind.u64.wrap ((t / v1 : Nat) : Int) = ((t / v1 : Nat) : Int)) := show IntKind.u64.wrap ((t / v1 : Nat) : Int) = ((t / v1 : Nat) : Int) from wu64 (by omega)
  have i14 : Hid (IntKind.u64.wrap ((t % v1 : Nat) : Int) = ((t % v1 : Nat) : Int)) := show IntKind.u64.wrap ((t % v1 : Nat) : Int) = ((t % v1 : Nat) : Int) from wu64 (by omega)
  conv => whnf
  (repeat ((first | refine step_w1 rfl rfl ?_ | refine step_i (by kernel_rfl) ?_ | refine step_oL (by first | omega | decide | (simp only [tiB5, tiB95, tiB3, tiB2, tiB9, tiB38, tiB74, tiB25, tiB41, tiB36, tiB30, tiB4, tiB70, tiB72, tiB164, tiB27, tiB62, tiB32, dlen, List.length_replicate, List.length_set, List.length_map, List.length_zipWith, List.length_take, List.length_append, List.length_cons, List.length_nil]; omega)) ?_ | refine step_oM (by first | omega | decide | (simp only [tiB5, tiB95, tiB3, tiB2, tiB9, tiB38, tiB74, tiB25, tiB41, tiB36, tiB30, tiB4, tiB70, tiB72, tiB164, tiB27, tiB62, tiB32, dlen, List.length_replicate, List.length_set, List.length_map, List.length_zipWith, List.length_take, List.length_append, List.length_cons, List.length_nil]; omega)) ?_ | refine step_oA (by first | omega | decide | (simp only [tiB5, tiB95, tiB3, tiB2, tiB9, tiB38, tiB74, tiB25, tiB41, tiB36, tiB30, tiB4, tiB70, tiB72, tiB164, tiB27, tiB62, tiB32, dlen, List.length_replicate, List.length_set, List.length_map, List.length_zipWith, List.length_take, List.length_append, List.length_cons, List.length_nil]; omega)) ?_ | refine step_oN (by first | omega | decide | (simp only [tiB5, tiB95, tiB3, tiB2, tiB9, tiB38, tiB74, tiB25, tiB41, tiB36, tiB30, tiB4, tiB70, tiB72, tiB164, tiB27, tiB62, tiB32, dlen, List.length_replicate, List.length_set, List.length_map, List.length_zipWith, List.length_take, List.length_append, List.length_cons, List.length_nil]; omega)) ?_ | rw [t1.out] | rw [i1.out] | rw [i2.out] | rw [i3.out] | rw [i4.out] | rw [i5.out] | rw [g1.out] | rw [g2.out] | rw [i6.out] | rw [i7.out] | rw [i8.out] | rw [e0.out] | rw [e1.out] | rw [g4.out] | rw [i9.out] | rw [i11.out] | rw [i12.out] | rw [i13.out]); conv => whnf))
  have hlo0 : R < (t / v1 + 1) * V * S := long_guess (W := 4294967296) hP hS (by decide) (by rw [hv1]; exact Nat.lt_of_lt_of_le (by decide) hv1a.1) (by rw [ht, hv1])
  have hdm : t / v1 * v1 + t % v1 = t := by rw [Nat.mul_comm]; exact Nat.div_add_mod t v1
  refine SW_loopN hE (fun k => k) [4, 6, 7, 8, 9, 10, 12, 13] [0, 1, 39, 2001, 2002] (fun d fr hp => ∃ (r : Nat), d < 18446744073709551616 ∧ d * v1 + r = t ∧ r < 8589934592 ∧ R < (d + 1) * V * S ∧
    fr = [(4, .slc 39 1 0 (l + 1 - n)), (6, .val (.int .i64 s)), (7, .slc 2001 1 0 (l + 1)), (8, .slc 2002 1 0 n), (9, .val (.int .i64 n)), (10, .val (.int .i64 k)), (12, .val (.int .u64 d)), (13, .val (.int .u64 r))] ∧ hp = [(0, ⟨95, false, .ints .u32 xs⟩), (1, ⟨95, false, .ints .u32 ys⟩), (39, ⟨95, true, .ints .u32 q⟩), (2001, ⟨95, true, .ints .u32 (digs R (l + 1))⟩), (2002, ⟨95, true, .ints .u32 (digs V (n + 1))⟩)]) (t / v1) ?_ ?_ ?_
  · kernel_rfl
  · exact ⟨t % v1, by omega, hdm, by omega, hlo0, rfl, rfl⟩
  rintro d _ _ ⟨r, hd64, hdr, hr33, hlo, rfl, rfl⟩
  by_cases hrW : r < 4294967296
  · have t2 : Hid (decide ((r : Int) ≤ 4294967295) = true) := show decide ((r : Int) ≤ 4294967295) = true from decide_eq_true (by omega)
    have j1 : Hid (IntKind.u64.wrap ((v2 : Nat) : Int) = (v2 : Int)) := show IntKind.u64.wrap ((v2 : Nat) : Int) = (v2 : Int) from wu64 (by omega)
    have j2 : Hid (IntKind.i64.wrap ((n : Int) - 2) = ((n - 2 : Nat) : Int)) := show IntKind.i64.wrap ((n : Int) - 2) = ((n - 2 : Nat) : Int) from by rw [wrap_i64 (by omega) (by omega)]; omega
    have j3 : Hid (0 + ((n - 2 : Nat) : Int).toNat = n - 2) := show 0 + ((n - 2 : Nat) : Int).toNat = n - 2 from by omega
    have j4 : Hid (IntKind.i64.wrap (((k + n : Nat) : Int) - 2) = ((k + (n - 2) : Nat) : Int)) := show IntKind.i64.wrap (((k + n : Nat) : Int) - 2) = ((k + (n - 2) : Nat) : Int) from by rw [wrap_i64 (by omega) (by omega)]; omega
    have j5 : Hid (0 + ((k + (n - 2) : Nat) : Int).toNat = k + (n - 2)) := show 0 + ((k + (n - 2) : Nat) : Int).toNat = k + (n - 2) from by omega
    have j6 : Hid (IntKind.u64.wrap ((u0 : Nat) : Int) = (u0 : Int)) := show IntKind.u64.wrap ((u0 : Nat) : Int) = (u0 : Int) from wu64 (by omega)
    have j9 : Hid (IntKind.u64.wrap ((r : Int) + (v1 : Int)) = ((r + v1 : Nat) : Int)) := show IntKind.u64.wrap ((r : Int) + (v1 : Int)) = ((r + v1 : Nat) : Int) from by rw [← Int.natCast_add, wu64 (by omega)]
    -- the guess is too great: one less
    have hdec : R < d * V * S → 0 < d ∧ d - 1 < 18446744073709551616 ∧ (d - 1) * v1 + (r + v1) = t ∧ r + v1 < 8589934592 ∧ R < (d - 1 + 1) * V * S ∧ IntKind.u64.wrap ((d : Int) - 1) = ((d - 1 : Nat) : Int) := fun h => by
      have hd0 : 0 < d := by
        rcases Nat.eq_zero_or_pos d with rfl | h'
        · rw [Nat.zero_mul, Nat.zero_mul] at h; exact absurd h (Nat.not_lt_zero _)
        · exact h'
      have hd1 : d - 1 + 1 = d := Nat.succ_pred_eq_of_pos hd0
      have hm : d * v1 = (d - 1) * v1 + v1 := by
        have := Nat.succ_mul (d - 1) v1
        rw [Nat.succ_eq_add_one, hd1] at this; exact this
      refine ⟨hd0, by omega, by omega, by omega, by rw [hd1]; exact h, ?_⟩
      rw [show (d : Int) - 1 = ((d - 1 : Nat) : Int) from by omega, wu64 (by omega)]
    by_cases hdW : d < 4294967296
    · have t3 : Hid (decide ((d : Int) ≤ 4294967295) = true) := show decide ((d : Int) ≤ 4294967295) = true from decide_eq_true (by omega)
      have hdv : d * v2 ≤ 4294967295 * 4294967295 := Nat.mul_le_mul (by omega) (by omega)
      have j7 : Hid (IntKind.u64.wrap ((d : Int) * (v2 : Int)) = ((d * v2 : Nat) : Int)) := show IntKind.u64.wrap ((d : Int) * (v2 : Int)) = ((d * v2 : Nat) : Int) from by rw [← Int.natCast_mul, wu64 (by omega)]
      have j8 : Hid (ior .u64 (ishl .u64 (r : Int) 32) (u0 : Int) = ((r * 4294967296 + u0 : Nat) : Int)) := show ior .u64 (ishl .u64 (r : Int) 32) (u0 : Int) = ((r * 4294967296 + u0 : Nat) : Int) from shl_ior hrW hu0a
      by_cases hg : d * v2 ≤ r * 4294967296 + u0
      · have t4 : Hid (decide (((d * v2 : Nat) : Int) ≤ ((r * 4294967296 + u0 : Nat) : Int)) = true) := show decide (((d * v2 : Nat) : Int) ≤ ((r * 4294967296 + u0 : Nat) : Int)) = true from decide_eq_true (by omega)
        have hhi : d * V * S ≤ R + V * S := long_high (W := 4294967296) hP hS (by decide) hdW (by rw [ht, hv1]; exact hdr) (by rw [hu0, hv2]; exact hg) hVW
        conv => whnf
        (repeat ((first | refine step_w1 rfl rfl ?_ | refine step_i (by kernel_rfl) ?_ | refine step_oL (by first | omega | decide | (simp only [tiB5, tiB95, tiB3, tiB2, tiB9, tiB38, tiB74, tiB25, tiB41, tiB36, tiB30, tiB4, tiB70, tiB72, tiB164, tiB27, tiB62, tiB32, dlen, List.length_replicate, List.length_set, List.length_map, List.length_zipWith, List.length_take, List.length_append, List.length_cons, List.length_nil]; omega)) ?_ | refine step_oM (by first | omega | decide | (simp only [tiB5, tiB95, tiB3, tiB2, tiB9, tiB38, tiB74, tiB25, tiB41, tiB36, tiB30, tiB4, tiB70, tiB72, tiB164, tiB27, tiB62, tiB32, dlen, List.length_replicate, List.length_set, List.length_map, List.length_zipWith, List.length_take, List.length_append, List.length_cons, List.length_nil]; omega)) ?_ | refine step_oA (by first | omega | decide | (simp only [tiB5, tiB95, tiB3, tiB2, tiB9, tiB38, tiB74, tiB25, tiB41, tiB36, tiB30, tiB4, tiB70, tiB72, tiB164, tiB27, tiB62, tiB32, dlen, List.length_replicate, List.length_set, List.length_map, List.length_zipWith, List.length_take, List.length_append, List.length_cons, List.length_nil]; omega)) ?_ | refine g_o (op_pickT rfl (ev_ok rfl) (ev_ok rfl)) ?_ | rw [t2.out] | rw [t3.out] | rw [j2.out] | rw [j3.out] | rw [g5.out] | rw [j1.out] | rw [i2.out] | rw [j4.out] | rw [j5.out] | rw [g3.out] | rw [j6.out] | rw [j7.out] | rw [j8.out] | rw [t4.out]); conv => whnf))
        have l1 : Hid (IntKind.i64.wrap (((k + n : Nat) : Int) + 1) = ((k + n + 1 : Nat) : Int)) := show IntKind.i64.wrap (((k + n : Nat) : Int) + 1) = ((k + n + 1 : Nat) : Int) from by rw [wrap_i64 (by omega) (by omega)]; omega
        have l2 : Hid (0 + (k : Int).toNat = k) := show 0 + (k : Int).toNat = k from by omega
        have l3 : Hid ((((k + n + 1 : Nat) : Int) - (k : Int)).toNat = n + 1) := show (((k + n + 1 : Nat) : Int) - (k : Int)).toNat = n + 1 from by omega
        have l4 : Hid (IntKind.u32.wrap (d : Int) = (d : Int)) := show IntKind.u32.wrap (d : Int) = (d : Int) from wu32 hdW
        have l5 : Hid (IntKind.i64.wrap ((k : Int) - 1) = (k : Int) - 1) := show IntKind.i64.wrap ((k : Int) - 1) = (k : Int) - 1 from wrap_i64 (by omega) (by omega)
        have kl := c_less (l + 1) k n R d V (digs V (n + 1)) (by omega) (by omega) hRB (by omega) (by omega) hvw hvs hdW 2001 2002 (by decide)
        rw [hSd] at kl
        obtain ⟨B, hB⟩ : ∃ B, 4294967296 ^ (k + n + 1) = B := ⟨_, rfl⟩
        have hDB : V * S ≤ B := by rw [← hB, ← hSd]; exact hVSB
        have hRB' : R < B := by rw [← hB]; exact hRB
        rw [hB] at kl
        have hq00 := hq0 k (Nat.lt_succ_self k)
        by_cases hneg : R < d * V * S
        · have t5 : Hid (decide (R < d * V * S) = true) := show decide (R < d * V * S) = true from decide_eq_true hneg
          rw [Nat.mul_assoc] at hneg hhi
          obtain ⟨m1, m2, m3, hd0⟩ := long_neg hneg hhi hRB' hDB
          rw [← Nat.mul_assoc] at m1
          have hR1 : (R + B - d * V * S) % B < 4294967296 ^ (k + n + 1) := by rw [hB]; exact Nat.mod_lt _ (Nat.lt_of_le_of_lt (Nat.zero_le _) hRB')
          obtain ⟨R1, hR1d⟩ : ∃ R1, (R + B - d * V * S) % B = R1 := ⟨_, rfl⟩
          rw [hR1d] at kl m1 hR1
          have hus1 : (digs R1 (l + 1)).length = l + 1 := digs_len _ _
          have husw := digs_w32 R1 (l + 1)
          have husv := valI_digs_lo (L := l + 1) hR1 (by omega)
          have husz : ∀ j, k + n + 1 ≤ j → (digs R1 (l + 1)).getD j 0 = 0 := fun j hj => digs_hi hR1 hj
          have l6 : Hid (IntKind.u64.wrap ((d : Int) - 1) = ((d - 1 : Nat) : Int)) := show IntKind.u64.wrap ((d : Int) - 1) = ((d - 1 : Nat) : Int) from by rw [show (d : Int) - 1 = ((d - 1 : Nat) : Int) from by omega, wu64 (by omega)]
          (repeat ((first | refine step_w1 rfl rfl ?_ | refine step_oA (by first | omega | decide | (simp only [tiB5, tiB95, tiB3, tiB2, tiB9, tiB38, tiB74, tiB25, tiB41, tiB36, tiB30, tiB4, tiB70, tiB72, tiB164, tiB27, tiB62, tiB32, dlen, List.length_replicate, List.length_set, List.length_map, List.length_zipWith, List.length_take, List.length_append, List.length_cons, List.length_nil]; omega)) ?_ | refine ⟨[_, _], _, [], [_, _], (by assumption), two_fk rfl rfl, nil_new, two_upd (List.mem_cons_self ..) rfl rfl rfl (List.mem_cons_of_mem _ (List.mem_cons_self ..)) rfl rfl rfl, ?_⟩ | rw [l1.out] | rw [l2.out] | rw [l3.out] | rw [t5.out]); conv => whnf))
          rw [l6.out]
          generalize hus : digs R1 (l + 1) = us at *
          refine SW_loopN hE (fun k => k) [4, 6, 7, 8, 9, 10, 12, 14, 128, 129, 130] [0, 1, 39, 2001, 2002] (fun m fr hp => ∃ (i : Nat) (o : List Int) (c : Nat), m = n - i ∧ i ≤ n ∧ o.length = l + 1 ∧ W32 o ∧ c ≤ 1 ∧ (∀ j, k + i ≤ j → o.getD j 0 = us.getD j 0) ∧ valI o (k + i) + c * 4294967296 ^ (k + i) = valI us (k + i) + valI (digs V (n + 1)) i * 4294967296 ^ k ∧
            fr = [(4, .slc 39 1 0 (l + 1 - n)), (6, .val (.int .i64 s)), (7, .slc 2001 1 0 (l + 1)), (8, .slc 2002 1 0 n), (9, .val (.int .i64 n)), (10, .val (.int .i64 k)), (12, .val (.int .u64 (d - 1 : Nat))), (14, .val (.int .u32 c)), (128, .slc 2002 1 0 n), (129, .val (.int .i64 n)), (130, .val (.int .i64 i))] ∧ hp = [(0, ⟨95, false, .ints .u32 xs⟩), (1, ⟨95, false, .ints .u32 ys⟩), (39, ⟨95, true, .ints .u32 q⟩), (2001, ⟨95, true, .ints .u32 o⟩), (2002, ⟨95, true, .ints .u32 (digs V (n + 1))⟩)]) n ?_ ?_ ?_
          · kernel_rfl
          · exact ⟨0, us, 0, by omega, by omega, hus1, husw, by omega, (fun _ _ => rfl), by simp [valI], rfl, rfl⟩
          rintro m _ _ ⟨i, o, c, rfl, hi, hlen, hw, hc, hrest, hval, rfl, rfl⟩
          obtain ⟨x, hx⟩ := Int.eq_ofNat_of_zero_le (husw (k + i)).1
          have hx2 := (husw (k + i)).2
          have hox : Hid (o.getD (k + i) 0 = (x : Int)) := show o.getD (k + i) 0 = (x : Int) from by rw [hrest _ (Nat.le_refl _)]; exact hx
          by_cases hlt : i < n
          · have t1 : Hid (decide ((i : Int) < (n : Int)) = true) := show decide ((i : Int) < (n : Int)) = true from decide_eq_true (by omega)
            have f1 : Hid (0 + (i : Int).toNat = i) := show 0 + (i : Int).toNat = i from by omega
            have f2 : Hid (IntKind.i64.wrap ((k : Int) + (i : Int)) = ((k + i : Nat) : Int)) := show IntKind.i64.wrap ((k : Int) + (i : Int)) = ((k + i : Nat) : Int) from by rw [wrap_i64 (by omega) (by omega)]; omega
            have f3 : Hid (0 + ((k + i : Nat) : Int).toNat = k + i) := show 0 + ((k + i : Nat) : Int).toNat = k + i from by omega
            have f4 : Hid (IntKind.i64.wrap ((i : Int) + 1) = ((i + 1 : Nat) : Int)) := show IntKind.i64.wrap ((i : Int) + 1) = ((i + 1 : Nat) : Int) from by rw [wrap_i64 (by omega) (by omega)]; omega
            obtain ⟨w, hww⟩ := Int.eq_ofNat_of_zero_le (hvw i).1
            have hw2 := (hvw i).2
            have f5 : Hid ((digs V (n + 1)).getD i 0 = (w : Int)) := show (digs V (n + 1)).getD i 0 = (w : Int) from hww
            have k32 := c_Add32 x w c (by omega) (by omega) hc
            have hstep := back_step (by omega) hx hww hval
            have hc' : (x + w + c) / 4294967296 ≤ 1 := by omega
            conv => whnf
            (repeat ((first | refine step_w1 rfl rfl ?_ | refine step_oL (by first | omega | decide | (simp only [tiB5, tiB95, tiB3, tiB2, tiB9, tiB38, tiB74, tiB25, tiB41, tiB36, tiB30, tiB4, tiB70, tiB72, tiB164, tiB27, tiB62, tiB32, dlen, List.length_replicate, List.length_set, List.length_map, List.length_zipWith, List.length_take, List.length_append, List.length_cons, List.length_nil]; omega)) ?_ | refine step_oA (by first | omega | decide | (simp only [tiB5, tiB95, tiB3, tiB2, tiB9, tiB38, tiB74, tiB25, tiB41, tiB36, tiB30, tiB4, tiB70, tiB72, tiB164, tiB27, tiB62, tiB32, dlen, List.length_replicate, List.length_set, List.length_map, List.length_zipWith, List.length_take, List.length_append, List.length_cons, List.length_nil]; omega)) ?_ | refine g_c (by assumption) ?_ | rw [t1.out] | rw [f1.out] | rw [f5.out] | rw [f2.out] | rw [f3.out] | rw [hox.out]); conv => whnf))
            rw [f4.out]
            exact ⟨n - (i + 1), fun k => k, [4, 6, 7, 8, 9, 10, 12, 14, 128, 129, 130], [0, 1, 39, 2001, 2002], by omega, by kernel_rfl, i + 1, _, _, rfl, by omega, by simpa using hlen, hw.set (by omega) (by omega), hc', (fun j hj => by rw [getD_set, if_neg (by omega)]; exact hrest j (by omega)), hstep, rfl, rfl⟩
          · have hi' : i = n := by omega
            subst hi'
            have t1 : Hid (decide ((i : Int) < (i : Int)) = false) := show decide ((i : Int) < (i : Int)) = false from decide_eq_false (by omega)
            have f6 : Hid (IntKind.u32.wrap ((x : Int) + (c : Int)) = (((x + c) % 4294967296 : Nat) : Int)) := show IntKind.u32.wrap ((x : Int) + (c : Int)) = (((x + c) % 4294967296 : Nat) : Int) from by rw [← Int.natCast_add, wu32m]
            have f7 : Hid (IntKind.u32.wrap ((d - 1 : Nat) : Int) = ((d - 1 : Nat) : Int)) := show IntKind.u32.wrap ((d - 1 : Nat) : Int) = ((d - 1 : Nat) : Int) from wu32 (by omega)
            have hw' : W32 (o.set (k + i) (((x + c) % 4294967296 : Nat) : Int)) := hw.set (by omega) (by omega)
            have hfin := back_fin (by omega) hx hc (by omega) husv hvs hval hw'
            rw [hSd, hB, m1] at hfin
            have ho' := digs_low (L := l + 1) (by simpa using hlen) hw' (fun j hj => by rw [getD_set, if_neg (by omega), hrest j (by omega)]; exact husz j hj) (by omega) hfin
            obtain ⟨p1, p2⟩ := long_end (U := X * 2 ^ s) m2 m3 hXR
            conv => whnf
            (repeat ((first | refine step_w2 rfl rfl ?_ | refine step_oL (by first | omega | decide | (simp only [tiB5, tiB95, tiB3, tiB2, tiB9, tiB38, tiB74, tiB25, tiB41, tiB36, tiB30, tiB4, tiB70, tiB72, tiB164, tiB27, tiB62, tiB32, dlen, List.length_replicate, List.length_set, List.length_map, List.length_zipWith, List.length_take, List.length_append, List.length_cons, List.length_nil]; omega)) ?_ | refine step_oA (by first | omega | decide | (simp only [tiB5, tiB95, tiB3, tiB2, tiB9, tiB38, tiB74, tiB25, tiB41, tiB36, tiB30, tiB4, tiB70, tiB72, tiB164, tiB27, tiB62, tiB32, dlen, List.length_replicate, List.length_set, List.length_map, List.length_zipWith, List.length_take, List.length_append, List.length_cons, List.length_nil]; omega)) ?_ | rw [t1.out] | rw [i2.out] | rw [i3.out] | rw [hox.out] | rw [f6.out] | rw [f7.out] | rw [l2.out]); conv => whnf))
            rw [l5.out, ho']
            exact ⟨k, fun k => k, [4, 6, 7, 8, 9, 10], [0, 1, 39, 2001, 2002], by omega, by kernel_rfl, R - (d - 1) * (V * S), Qv + (d - 1) * S, q.set k ((d - 1 : Nat) : Int), by omega, by rw [hSd]; exact p1, p2, by simpa using hql, hqw.set (by omega) (by omega), (fun j hj => by rw [getD_set, if_neg (by omega)]; exact hq0 j (by omega)), by rw [valI_set (by omega) (by omega), hqv, hq00, ← natPowW, hSd, Int.sub_zero, ← Int.natCast_mul, ← Int.natCast_add], rfl, rfl⟩
        · have t5 : Hid (decide (R < d * V * S) = false) := show decide (R < d * V * S) = false from decide_eq_false hneg
          rw [Nat.mul_assoc] at hneg hlo
          have hneg' := Nat.le_of_not_lt hneg
          have hpos := long_pos (d := d) (D := V * S) hneg' hRB'
          rw [← Nat.mul_assoc] at hpos
          rw [hpos] at kl
          obtain ⟨p1, p2⟩ := long_end (U := X * 2 ^ s) hneg' hlo hXR
          rw [← Nat.mul_assoc] at p1 p2
          (repeat ((first | refine step_w2 rfl rfl ?_ | refine step_oL (by first | omega | decide | (simp only [tiB5, tiB95, tiB3, tiB2, tiB9, tiB38, tiB74, tiB25, tiB41, tiB36, tiB30, tiB4, tiB70, tiB72, tiB164, tiB27, tiB62, tiB32, dlen, List.length_replicate, List.length_set, List.length_map, List.length_zipWith, List.length_take, List.length_append, List.length_cons, List.length_nil]; omega)) ?_ | refine step_oA (by first | omega | decide | (simp only [tiB5, tiB95, tiB3, tiB2, tiB9, tiB38, tiB74, tiB25, tiB41, tiB36, tiB30, tiB4, tiB70, tiB72, tiB164, tiB27, tiB62, tiB32, dlen, List.length_replicate, List.length_set, List.length_map, List.length_zipWith, List.length_take, List.length_append, List.length_cons, List.length_nil]; omega)) ?_ | refine ⟨[_, _], _, [], [_, _], (by assumption), two_fk rfl rfl, nil_new, two_upd (List.mem_cons_self ..) rfl rfl rfl (List.mem_cons_of_mem _ (List.mem_cons_self ..)) rfl rfl rfl, ?_⟩ | rw [l1.out] | rw [l2.out] | rw [l3.out] | rw [t5.out] | rw [l4.out]); conv => whnf))
          rw [l5.out]
          exact ⟨k, fun k => k, [4, 6, 7, 8, 9, 10], [0, 1, 39, 2001, 2002], by omega, by kernel_rfl, R - d * V * S, Qv + d * S, q.set k (d : Int), by omega, by rw [hSd]; exact p1, p2, by simpa using hql, hqw.set (by omega) (by omega), (fun j hj => by rw [getD_set, if_neg (by omega)]; exact hq0 j (by omega)), by rw [valI_set (by omega) (by omega), hqv, hq00, ← natPowW, hSd, Int.sub_zero, ← Int.natCast_mul, ← Int.natCast_add], rfl, rfl⟩
      · have t4 : Hid (decide (((d * v2 : Nat) : Int) ≤ ((r * 4294967296 + u0 : Nat) : Int)) = false) := show decide (((d * v2 : Nat) : Int) ≤ ((r * 4294967296 + u0 : Nat) : Int)) = false from decide_eq_false (by omega)
        have hlow : R < d * V * S := long_low (W := 4294967296) hP hS (by decide) (by rw [ht, hv1]; exact hdr) (by rw [hu0, hv2]; omega)
        obtain ⟨n1, n2, n3, n4, n5, n6⟩ := hdec hlow
        conv => whnf
        (repeat ((first | refine step_w1 rfl rfl ?_ | refine step_w2 rfl rfl ?_ | refine step_i (by kernel_rfl) ?_ | refine step_oL (by first | omega | decide | (simp only [tiB5, tiB95, tiB3, tiB2, tiB9, tiB38, tiB74, tiB25, tiB41, tiB36, tiB30, tiB4, tiB70, tiB72, tiB164, tiB27, tiB62, tiB32, dlen, List.length_replicate, List.length_set, List.length_map, List.length_zipWith, List.length_take, List.length_append, List.length_cons, List.length_nil]; omega)) ?_ | refine step_oM (by first | omega | decide | (simp only [tiB5, tiB95, tiB3, tiB2, tiB9, tiB38, tiB74, tiB25, tiB41, tiB36, tiB30, tiB4, tiB70, tiB72, tiB164, tiB27, tiB62, tiB32, dlen, List.length_replicate, List.length_set, List.length_map, List.length_zipWith, List.length_take, List.length_append, List.length_cons, List.length_nil]; omega)) ?_ | refine step_oA (by first | omega | decide | (simp only [tiB5, tiB95, tiB3, tiB2, tiB9, tiB38, tiB74, tiB25, tiB41, tiB36, tiB30, tiB4, tiB70, tiB72, tiB164, tiB27, tiB62, tiB32, dlen, List.length_replicate, List.length_set, List.length_map, List.length_zipWith, List.length_take, List.length_append, List.length_cons, List.length_nil]; omega)) ?_ | refine g_o (op_pickT rfl (ev_ok rfl) (ev_ok rfl)) ?_ | rw [t2.out] | rw [t3.out] | rw [j2.out] | rw [j3.out] | rw [g5.out] | rw [j1.out] | rw [i2.out] | rw [j4.out] | rw [j5.out] | rw [g3.out] | rw [j6.out] | rw [j7.out] | rw [j8.out] | rw [t4.out] | rw [e0.out] | rw [e1.out] | rw [g4.out] | rw [i9.out]); conv => whnf))
        rw [j9.out, n6]
        exact ⟨d - 1, fun k => k, [4, 6, 7, 8, 9, 10, 12, 13], [0, 1, 39, 2001, 2002], by omega, by kernel_rfl, r + v1, n2, n3, n4, n5, rfl, rfl⟩
    · have t3 : Hid (decide ((d : Int) ≤ 4294967295) = false) := show decide ((d : Int) ≤ 4294967295) = false from decide_eq_false (by omega)
      have hlow : R < d * V * S := by
        have h1 : 4294967296 * (V * S) ≤ d * (V * S) := Nat.mul_le_mul_right _ (by omega)
        rw [Nat.mul_assoc]
        refine Nat.lt_of_lt_of_le hR' (Nat.le_trans (Nat.le_of_eq ?_) h1)
        rw [Nat.mul_comm 4294967296, Nat.mul_assoc]
      obtain ⟨n1, n2, n3, n4, n5, n6⟩ := hdec hlow
      conv => whnf
      (repeat ((first | refine step_w1 rfl rfl ?_ | refine step_w2 rfl rfl ?_ | refine step_i (by kernel_rfl) ?_ | refine step_oL (by first | omega | decide | (simp only [tiB5, tiB95, tiB3, tiB2, tiB9, tiB38, tiB74, tiB25, tiB41, tiB36, tiB30, tiB4, tiB70, tiB72, tiB164, tiB27, tiB62, tiB32, dlen, List.length_replicate, List.length_set, List.length_map, List.length_zipWith, List.length_take, List.length_append, List.length_cons, List.length_nil]; omega)) ?_ | refine step_oA (by first | omega | decide | (simp only [tiB5, tiB95, tiB3, tiB2, tiB9, tiB38, tiB74, tiB25, tiB41, tiB36, tiB30, tiB4, tiB70, tiB72, tiB164, tiB27, tiB62, tiB32, dlen, List.length_replicate, List.length_set, List.length_map, List.length_zipWith, List.length_take, List.length_append, List.length_cons, List.length_nil]; omega)) ?_ | refine g_o (op_pickF rfl (ev_ok rfl) (ev_ok rfl)) ?_ | rw [t2.out] | rw [t3.out] | rw [e0.out] | rw [e1.out] | rw [g4.out] | rw [i9.out]); conv => whnf))
      rw [j9.out, n6]
      exact ⟨d - 1, fun k => k, [4, 6, 7, 8, 9, 10, 12, 13], [0, 1, 39, 2001, 2002], by omega, by kernel_rfl, r + v1, n2, n3, n4, n5, rfl, rfl⟩
  · have t2 : Hid (decide ((r : Int) ≤ 4294967295) = false) := show decide ((r : Int) ≤ 4294967295) = false from decide_eq_false (by omega)
    have hdW : d < 4294967296 := long_small (W := 4294967296) hP hS (by decide) (by rw [ht, hv1]; exact hdr) (by omega) hR'
    have hhi : d * V * S ≤ R + V * S := Nat.le_trans (long_rest (W := 4294967296) hP hS (by decide) hdW (by rw [ht, hv1]; exact hdr) (by omega)) (Nat.le_add_right _ _)
    conv => whnf
    (repeat (first | (refine step_w2 rfl rfl ?_; conv => whnf) | (rw [t2.out]; conv => whnf)))
    have l1 : Hid (IntKind.i64.wrap (((k + n : Nat) : Int) + 1) = ((k + n + 1 : Nat) : Int)) := show IntKind.i64.wrap (((k + n : Nat) : Int) + 1) = ((k + n + 1 : Nat) : Int) from by rw [wrap_i64 (by omega) (by omega)]; omega
    have l2 : Hid (0 + (k : Int).toNat = k) := show 0 + (k : Int).toNat = k from by omega
    have l3 : Hid ((((k + n + 1 : Nat) : Int) - (k : Int)).toNat = n + 1) := show (((k + n + 1 : Nat) : Int) - (k : Int)).toNat = n + 1 from by omega
    have l4 : Hid (IntKind.u32.wrap (d : Int) = (d : Int)) := show IntKind.u32.wrap (d : Int) = (d : Int) from wu32 hdW
    have l5 : Hid (IntKind.i64.wrap ((k : Int) - 1) = (k : Int) - 1) := show IntKind.i64.wrap ((k : Int) - 1) = (k : Int) - 1 from wrap_i64 (by omega) (by omega)
    have kl := c_less (l + 1) k n R d V (digs V (n + 1)) (by omega) (by omega) hRB (by omega) (by omega) hvw hvs hdW 2001 2002 (by decide)
    rw [hSd] at kl
    obtain ⟨B, hB⟩ : ∃ B, 4294967296 ^ (k + n + 1) = B := ⟨_, rfl⟩
    have hDB : V * S ≤ B := by rw [← hB, ← hSd]; exact hVSB
    have hRB' : R < B := by rw [← hB]; exact hRB
    rw [hB] at kl
    have hq00 := hq0 k (Nat.lt_succ_self k)
    by_cases hneg : R < d * V * S
    · have t5 : Hid (decide (R < d * V * S) = true) := show decide (R < d * V * S) = true from decide_eq_true hneg
      rw [Nat.mul_assoc] at hneg hhi
      obtain ⟨m1, m2, m3, hd0⟩ := long_neg hneg hhi hRB' hDB
      rw [← Nat.mul_assoc] at m1
      have hR1 : (R + B - d * V * S) % B < 4294967296 ^ (k + n + 1) := by rw [hB]; exact Nat.mod_lt _ (Nat.lt_of_le_of_lt (Nat.zero_le _) hRB')
      obtain ⟨R1, hR1d⟩ : ∃ R1, (R + B - d * V * S) % B = R1 := ⟨_, rfl⟩
      rw [hR1d] at kl m1 hR1
      have hus1 : (digs R1 (l + 1)).length = l + 1 := digs_len _ _
      have husw := digs_w32 R1 (l + 1)
      have husv := valI_digs_lo (L := l + 1) hR1 (by omega)
      have husz : ∀ j, k + n + 1 ≤ j → (digs R1 (l + 1)).getD j 0 = 0 := fun j hj => digs_hi hR1 hj
      have l6 : Hid (IntKind.u64.wrap ((d : Int) - 1) = ((d - 1 : Nat) : Int)) := show IntKind.u64.wrap ((d : Int) - 1) = ((d - 1 : Nat) : Int) from by rw [show (d : Int) - 1 = ((d - 1 : Nat) : Int) from by omega, wu64 (by omega)]
      (repeat ((first | refine step_w1 rfl rfl ?_ | refine step_oA (by first | omega | decide | (simp only [tiB5, tiB95, tiB3, tiB2, tiB9, tiB38, tiB74, tiB25, tiB41, tiB36, tiB30, tiB4, tiB70, tiB72, tiB164, tiB27, tiB62, tiB32, dlen, List.length_replicate, List.length_set, List.length_map, List.length_zipWith, List.length_take, List.length_append, List.length_cons, List.length_nil]; omega)) ?_ | refine ⟨[_, _], _, [], [_, _], (by assumption), two_fk rfl rfl, nil_new, two_upd (List.mem_cons_self ..) rfl rfl rfl (List.mem_cons_of_mem _ (List.mem_cons_self ..)) rfl rfl rfl, ?_⟩ | rw [i2.out] | rw [l1.out] | rw [l2.out] | rw [l3.out] | rw [t5.out]); conv => whnf))
      rw [l6.out]
      generalize hus : digs R1 (l + 1) = us at *
      refine SW_loopN hE (fun k => k) [4, 6, 7, 8, 9, 10, 12, 14, 128, 129, 130] [0, 1, 39, 2001, 2002] (fun m fr hp => ∃ (i : Nat) (o : List Int) (c : Nat), m = n - i ∧ i ≤ n ∧ o.length = l + 1 ∧ W32 o ∧ c ≤ 1 ∧ (∀ j, k + i ≤ j → o.getD j 0 = us.getD j 0) ∧ valI o (k + i) + c * 4294967296 ^ (k + i) = valI us (k + i) + valI (digs V (n + 1)) i * 4294967296 ^ k ∧
        fr = [(4, .slc 39 1 0 (l + 1 - n)), (6, .val (.int .i64 s)), (7, .slc 2001 1 0 (l + 1)), (8, .slc 2002 1 0 n), (9, .val (.int .i64 n)), (10, .val (.int .i64 k)), (12, .val (.int .u64 (d - 1 : Nat))), (14, .val (.int .u32 c)), (128, .slc 2002 1 0 n), (129, .val (.int .i64 n)), (130, .val (.int .i64 i))] ∧ hp = [(0, ⟨95, false, .ints .u32 xs⟩), (1, ⟨95, false, .ints .u32 ys⟩), (39, ⟨95, true, .ints .u32 q⟩), (2001, ⟨95, true, .ints .u32 o⟩), (2002, ⟨95, true, .ints .u32 (digs V (n + 1))⟩)]) n ?_ ?_ ?_
      · kernel_rfl
      · exact ⟨0, us, 0, by omega, by omega, hus1, husw, by omega, (fun _ _ => rfl), by simp [valI], rfl, rfl⟩
      rintro m _ _ ⟨i, o, c, rfl, hi, hlen, hw, hc, hrest, hval, rfl, rfl⟩
      obtain ⟨x, hx⟩ := Int.eq_ofNat_of_zero_le (husw (k + i)).1
      have hx2 := (husw (k + i)).2
      have hox : Hid (o.getD (k + i) 0 = (x : Int)) := show o.getD (k + i) 0 = (x : Int) from by rw [hrest _ (Nat.le_refl _)]; exact hx
      by_cases hlt : i < n
      · have t1 : Hid (decide ((i : Int) < (n : Int)) = true) := show decide ((i : Int) < (n : Int)) = true from decide_eq_true (by omega)
        have f1 : Hid (0 + (i : Int).toNat = i) := show 0 + (i : Int).toNat = i from by omega
        have f2 : Hid (IntKind.i64.wrap ((k : Int) + (i : Int)) = ((k + i : Nat) : Int)) := show IntKind.i64.wrap ((k : Int) + (i : Int)) = ((k + i : Nat) : Int) from by rw [wrap_i64 (by omega) (by omega)]; omega
        have f3 : Hid (0 + ((k + i : Nat) : Int).toNat = k + i) := show 0 + ((k + i : Nat) : Int).toNat = k + i from by omega
        have f4 : Hid (IntKind.i64.wrap ((i : Int) + 1) = ((i + 1 : Nat) : Int)) := show IntKind.i64.wrap ((i : Int) + 1) = ((i + 1 : Nat) : Int) from by rw [wrap_i64 (by omega) (by omega)]; omega
        obtain ⟨w, hww⟩ := Int.eq_ofNat_of_zero_le (hvw i).1
        have hw2 := (hvw i).2
        have f5 : Hid ((digs V (n + 1)).getD i 0 = (w : Int)) := show (digs V (n + 1)).getD i 0 = (w : Int) from hww
        have k32 := c_Add32 x w c (by omega) (by omega) hc
        have hstep := back_step (by omega) hx hww hval
        have hc' : (x + w + c) / 4294967296 ≤ 1 := by omega
        conv => whnf
        (repeat ((first | refine step_w1 rfl rfl ?_ | refine step_oL (by first | omega | decide | (simp only [tiB5, tiB95, tiB3, tiB2, tiB9, tiB38, tiB74, tiB25, tiB41, tiB36, tiB30, tiB4, tiB70, tiB72, tiB164, tiB27, tiB62, tiB32, dlen, List.length_replicate, List.length_set, List.length_map, List.length_zipWith, List.length_take, List.length_append, List.length_cons, List.length_nil]; omega)) ?_ | refine step_oA (by first | omega | decide | (simp only [tiB5, tiB95, tiB3, tiB2, tiB9, tiB38, tiB74, tiB25, tiB41, tiB36, tiB30, tiB4, tiB70, tiB72, tiB164, tiB27, tiB62, tiB32, dlen, List.length_replicate, List.length_set, List.length_map, List.length_zipWith, List.length_take, List.length_append, List.length_cons, List.length_nil]; omega)) ?_ | refine g_c (by assumption) ?_ | rw [t1.out] | rw [f1.out] | rw [f5.out] | rw [f2.out] | rw [f3.out] | rw [hox.out]); conv => whnf))
        rw [f4.out]
        exact ⟨n - (i + 1), fun k => k, [4, 6, 7, 8, 9, 10, 12, 14, 128, 129, 130], [0, 1, 39, 2001, 2002], by omega, by kernel_rfl, i + 1, _, _, rfl, by omega, by simpa using hlen, hw.set (by omega) (by omega), hc', (fun j hj => by rw [getD_set, if_neg (by omega)]; exact hrest j (by omega)), hstep, rfl, rfl⟩
      · have hi' : i = n := by omega
        subst hi'
        have t1 : Hid (decide ((i : Int) < (i : Int)) = false) := show decide ((i : Int) < (i : Int)) = false from decide_eq_false (by omega)
        have f6 : Hid (IntKind.u32.wrap ((x : Int) + (c : Int)) = (((x + c) % 4294967296 : Nat) : Int)) := show IntKind.u32.wrap ((x : Int) + (c : Int)) = (((x + c) % 4294967296 : Nat) : Int) from by rw [← Int.natCast_add, wu32m]
        have f7 : Hid (IntKind.u32.wrap ((d - 1 : Nat) : Int) = ((d - 1 : Nat) : Int)) := show IntKind.u32.wrap ((d - 1 : Nat) : Int) = ((d - 1 : Nat) : Int) from wu32 (by omega)
        have hw' : W32 (o.set (k + i) (((x + c) % 4294967296 : Nat) : Int)) := hw.set (by omega) (by omega)
        have hfin := back_fin (by omega) hx hc (by omega) husv hvs hval hw'
        rw [hSd, hB, m1] at hfin
        have ho' := digs_low (L := l + 1) (by simpa using hlen) hw' (fun j hj => by rw [getD_set, if_neg (by omega), hrest j (by omega)]; exact husz j hj) (by omega) hfin
        obtain ⟨p1, p2⟩ := long_end (U := X * 2 ^ s) m2 m3 hXR
        conv => whnf
        (repeat ((first | refine step_w2 rfl rfl ?_ | refine step_oL (by first | omega | decide | (simp only [tiB5, tiB95, tiB3, tiB2, tiB9, tiB38, tiB74, tiB25, tiB41, tiB36, tiB30, tiB4, tiB70, tiB72, tiB164, tiB27, tiB62, tiB32, dlen, List.length_replicate, List.length_set, List.length_map, List.length_zipWith, List.length_take, List.length_append, List.length_cons, List.length_nil]; omega)) ?_ | refine step_oA (by first | omega | decide | (simp only [tiB5, tiB95, tiB3, tiB2, tiB9, tiB38, tiB74, tiB25, tiB41, tiB36, tiB30, tiB4, tiB70, tiB72, tiB164, tiB27, tiB62, tiB32, dlen, List.length_replicate, List.length_set, List.length_map, List.length_zipWith, List.length_take, List.length_append, List.length_cons, List.length_nil]; omega)) ?_ | rw [t1.out] | rw [i2.out] | rw [i3.out] | rw [hox.out] | rw [f6.out] | rw [f7.out] | rw [l2.out]); conv => whnf))
        rw [l5.out, ho']
        exact ⟨k, fun k => k, [4, 6, 7, 8, 9, 10], [0, 1, 39, 2001, 2002], by omega, by kernel_rfl, R - (d - 1) * (V * S), Qv + (d - 1) * S, q.set k ((d - 1 : Nat) : Int), by omega, by rw [hSd]; exact p1, p2, by simpa using hql, hqw.set (by omega) (by omega), (fun j hj => by rw [getD_set, if_neg (by omega)]; exact hq0 j (by omega)), by rw [valI_set (by omega) (by omega), hqv, hq00, ← natPowW, hSd, Int.sub_zero, ← Int.natCast_mul, ← Int.natCast_add], rfl, rfl⟩
    · have t5 : Hid (decide (R < d * V * S) = false) := show decide (R < d * V * S) = false from decide_eq_false hneg
      rw [Nat.mul_assoc] at hneg hlo
      have hneg' := Nat.le_of_not_lt hneg
      have hpos := long_pos (d := d) (D := V * S) hneg' hRB'
      rw [← Nat.mul_assoc] at hpos
      rw [hpos] at kl
      obtain ⟨p1, p2⟩ := long_end (U := X * 2 ^ s) hneg' hlo hXR
      rw [← Nat.mul_assoc] at p1 p2
      (repeat ((first | refine step_w2 rfl rfl ?_ | refine step_oL (by first | omega | decide | (simp only [tiB5, tiB95, tiB3, tiB2, tiB9, tiB38, tiB74, tiB25, tiB41, tiB36, tiB30, tiB4, tiB70, tiB72, tiB164, tiB27, tiB62, tiB32, dlen, List.length_replicate, List.length_set, List.length_map, List.length_zipWith, List.length_take, List.length_append, List.length_cons, List.length_nil]; omega)) ?_ | refine step_oA (by first | omega | decide | (simp only [tiB5, tiB95, tiB3, tiB2, tiB9, tiB38, tiB74, tiB25, tiB41, tiB36, tiB30, tiB4, tiB70, tiB72, tiB164, tiB27, tiB62, tiB32, dlen, List.length_replicate, List.length_set, List.length_map, List.length_zipWith, List.length_take, List.length_append, List.length_cons, List.length_nil]; omega)) ?_ | refine ⟨[_, _], _, [], [_, _], (by assumption), two_fk rfl rfl, nil_new, two_upd (List.mem_cons_self ..) rfl rfl rfl (List.mem_cons_of_mem _ (List.mem_cons_self ..)) rfl rfl rfl, ?_⟩ | rw [i2.out] | rw [l1.out] | rw [l2.out] | rw [l3.out] | rw [t5.out] | rw [l4.out]); conv => whnf))
      rw [l5.out]
      exact ⟨k, fun k => k, [4, 6, 7, 8, 9, 10], [0, 1, 39, 2001, 2002], by omega, by kernel_rfl, R - d * V * S, Qv + d * S, q.set k (d : Int), by omega, by rw [hSd]; exact p1, p2, by simpa using hql, hqw.set (by omega) (by omega), (fun j hj => by rw [getD_set, if_neg (by omega)]; exact hq0 j (by omega)), by rw [valI_set (by omega) (by omega), hqv, hq00, ← natPowW, hSd, Int.sub_zero, ← Int.natCast_mul, ← Int.natCast_add], rfl, rfl⟩
end Go.Proofs.YtkpfineikahgfaaGreatDoor

namespace Go.Proofs.YtkpfineikahgfaaGreatDoor
open Go.Sx
set_option linter.unusedSimpArgs false
set_option linter.unusedVariables false
set_option maxRecDepth 100000
set_option maxHeartbeats 8000000

theorem c_Div (a b : Nat) (ha : (wInts a).length < 274877906944) (hb : (wInts b).length < 274877906944) (h0 : b ≠ 0) :
    CallOK Tryz.prog 166 [.nat a, .nat b] [] (.tup [.nat (a / b), .nat (a % b), .val (.bool true)]) [] [] := by
  by_cases hs : a < 18446744073709551616 ∧ b < 18446744073709551616
  · exact s_Div a b hs.1 hs.2 h0
  have kz := c_nZero b
  rw [decide_eq_false h0] at kz
  have kc := c_Cmp a b (by omega) (by omega)
  have kb := c_words b 1002 (by omega)
  have ka := c_words a 1001 (by omega)
  by_cases hlt : a < b
  · have t1 : Hid (decide (((a : Int) - b).sign < 0) = true) := show decide (((a : Int) - b).sign < 0) = true from decide_eq_true (Int.sign_neg_iff.2 (by omega))
    rw [Nat.div_eq_of_lt hlt, Nat.mod_eq_of_lt hlt]
    refine callV (Z := []) tabOK mixedOK Tryz.func166 rfl (by kernel_rfl) rfl rfl (by kernel_rfl) rfl ?_
    intro W0 w0 ρ0 hE
    conv => whnf
    (repeat ((first | refine step_w1 rfl rfl ?_ | refine step_w2 rfl rfl ?_ | refine step_i (by kernel_rfl) ?_ | refine g_c (by assumption) ?_ | rw [t1.out]); conv => whnf)); exact Recast.refl _
  have t1 : Hid (decide (((a : Int) - b).sign < 0) = false) := show decide (((a : Int) - b).sign < 0) = false from decide_eq_false (by have := Int.sign_nonneg_iff.2 (show 0 ≤ (a : Int) - b by omega); omega)
  have hbig : ¬ a < 18446744073709551616 := by omega
  have hlen : (wInts b).length ≤ (wInts a).length := len_le_of (Nat.lt_of_le_of_lt (Nat.le_of_not_lt hlt) (lt_of_len a))
  have hA : wArr a = wInts a := if_neg hbig
  rw [hA] at ka
  have htop := wt_top b
  have hb0 : (wInts b).length ≠ 0 := (wInts_top h0).1
  have hval := wInts_val a
  have hvb := wArr_val b
  have hbl := wArr_len b
  have hbl2 : (wArr b).length < 549755813888 := by
    have := wArr_len2 b (M := 274877906944) (by omega) (by omega)
    omega
  by_cases hone : (wInts b).length = 1
  · rw [hone] at kb hvb htop
    obtain ⟨y, hy⟩ := Int.eq_ofNat_of_zero_le (wArr_w32 b 0).1
    have hy2 := (wArr_w32 b 0).2
    have hyb : y = b := by
      rw [valI, valI, Int.pow_zero, hy] at hvb
      omega
    subst hyb
    have ks := c_short (wInts a) (wInts a).length (Nat.le_refl _) (by omega) (wInts_w32 a) y h0 (by omega) 1001 2001 (by decide) true a hval
    have hq : (valI (digs (a / y) (wInts a).length) (wInts a).length).toNat = a / y := by
      rw [valI_digs, Nat.mod_eq_of_lt (Nat.lt_of_le_of_lt (Nat.div_le_self _ _) (lt_of_len a))]; exact Int.toNat_natCast _
    have ko := c_of (digs (a / y) (wInts a).length) (wInts a).length (by rw [digs_len]; exact Nat.le_refl _) (by rw [digs_len]; omega) (digs_w32 _ _) 2001 true
    rw [hq] at ko
    have hr : a % y < y := Nat.mod_lt _ (by omega)
    have i1 : Hid (IntKind.u64.wrap ((a % y : Nat) : Int) = ((a % y : Nat) : Int)) := show IntKind.u64.wrap ((a % y : Nat) : Int) = ((a % y : Nat) : Int) from wu64 (by omega)
    have i2 : Hid ((wArr y).getD (0 + Int.toNat 0) 0 = (y : Int)) := show (wArr y).getD (0 + Int.toNat 0) 0 = (y : Int) from hy
    refine callV (Z := []) tabOK mixedOK Tryz.func166 rfl (by kernel_rfl) rfl rfl (by kernel_rfl) rfl ?_
    intro W0 w0 ρ0 hE
    conv => whnf
    (repeat (first | (refine step_w2 rfl rfl ?_; conv => whnf) | (refine g_c (by assumption) ?_; conv => whnf) | (rw [t1.out]; conv => whnf)))
    rw [big_eq, decide_eq_false hbig]
    (repeat ((first | refine step_w1 rfl rfl ?_ | refine step_w2 rfl rfl ?_ | refine step_i (by kernel_rfl) ?_ | refine step_oL (by first | omega | decide | (simp only [tiB5, tiB95, tiB3, tiB2, tiB9, tiB38, tiB74, tiB25, tiB41, tiB36, tiB30, tiB4, tiB70, tiB72, tiB164, tiB27, tiB62, tiB32, dlen, List.length_replicate, List.length_set, List.length_map, List.length_zipWith, List.length_take, List.length_append, List.length_cons, List.length_nil]; omega)) ?_ | refine step_oA (by first | omega | decide | (simp only [tiB5, tiB95, tiB3, tiB2, tiB9, tiB38, tiB74, tiB25, tiB41, tiB36, tiB30, tiB4, tiB70, tiB72, tiB164, tiB27, tiB62, tiB32, dlen, List.length_replicate, List.length_set, List.length_map, List.length_zipWith, List.length_take, List.length_append, List.length_cons, List.length_nil]; omega)) ?_ | refine g_cn (by assumption) rfl ?_ | refine g_c1 (by assumption) rfl ?_ | refine g_c1n (by assumption) rfl rfl ?_ | rw [i2.out] | rw [i1.out]); conv => whnf))
    refine recast_tup3 (fun _ _ h => h) rfl (hasC_nat ?_ rfl (by omega)) rfl (fun _ _ h => h) rfl
    rfl
  · have hn2 : 2 ≤ (wInts b).length := by omega
    have htop' : (wArr b).getD ((wInts b).length - 1) 0 ≠ 0 := htop.resolve_left hb0
    have hbg : 4294967296 ^ ((wInts b).length - 1) ≤ b := by
      have := valI_ge (wArr_w32 b) htop'
      rw [show (wInts b).length - 1 + 1 = (wInts b).length from by omega, hvb, ← natPowW] at this
      omega
    have hqb : a / b < 4294967296 ^ ((wInts a).length + 1 - (wInts b).length) := by
      refine Nat.div_lt_of_lt_mul (Nat.lt_of_lt_of_le (lt_of_len a) ?_)
      have e : 4294967296 ^ (wInts a).length = 4294967296 ^ ((wInts b).length - 1) * 4294967296 ^ ((wInts a).length + 1 - (wInts b).length) := by rw [← Nat.pow_add]; congr 1; omega
      rw [e]
      exact Nat.mul_le_mul_right _ hbg
    have hrb : a % b < 4294967296 ^ ((wInts a).length + 1) := Nat.lt_of_le_of_lt (Nat.mod_le _ _) (Nat.lt_of_lt_of_le (lt_of_len a) (Nat.pow_le_pow_right (by decide) (by omega)))
    have kl := CallOK.anyWr (c_long (wInts a) (wArr b) (wInts a).length (wInts b).length a b (Nat.le_refl _) hbl (by omega) hbl2 (wInts_w32 a) (wArr_w32 b) hval hvb hn2 htop' hlen 1001 1002 2001 2002 (by decide) (by decide) (by decide)) (fk := [(1001, ⟨95, true, .ints .u32 (wInts a)⟩), (1002, ⟨95, true, .ints .u32 (wArr b)⟩)])
    have ko1 := c_of (digs (a / b) ((wInts a).length + 1 - (wInts b).length)) ((wInts a).length + 1 - (wInts b).length) (by rw [digs_len]; exact Nat.le_refl _) (by rw [digs_len]; omega) (digs_w32 _ _) 2001 true
    have ko2 := c_of (digs (a % b) ((wInts a).length + 1)) ((wInts a).length + 1) (by rw [digs_len]; exact Nat.le_refl _) (by rw [digs_len]; omega) (digs_w32 _ _) 2002 true
    rw [valI_digs, Nat.mod_eq_of_lt hqb, Int.toNat_natCast] at ko1
    rw [valI_digs, Nat.mod_eq_of_lt hrb, Int.toNat_natCast] at ko2
    have t2 : Hid ((((wInts b).length : Int) == 1) = false) := show (((wInts b).length : Int) == 1) = false from by simp; omega
    have t3 : Hid (decide (((wInts b).length : Int) = 1) = false) := show decide (((wInts b).length : Int) = 1) = false from by simp; omega
    refine callV (Z := []) tabOK mixedOK Tryz.func166 rfl (by kernel_rfl) rfl rfl (by kernel_rfl) rfl ?_
    intro W0 w0 ρ0 hE
    conv => whnf
    (repeat (first | (refine step_w2 rfl rfl ?_; conv => whnf) | (refine g_c (by assumption) ?_; conv => whnf) | (rw [t1.out]; conv => whnf)))
    rw [big_eq, decide_eq_false hbig]
    (repeat ((first | refine step_w2 rfl rfl ?_ | refine g_cn (by assumption) rfl ?_ | refine g_c1 (by assumption) rfl ?_ | refine ⟨[_, _], _, [_, _], [], (by assumption), two_fk rfl rfl, two_new rfl rfl, nil_upd, ?_⟩ | rw [t2.out]); conv => whnf))
    exact Recast.refl _

theorem c_Gcd (a b : Nat) (ha : (wInts a).length < 274877906944) (hb : (wInts b).length < 274877906944) :
    CallOK Tryz.prog 65 [.nat a, .nat b] [] (.nat (Nat.gcd a b)) [] [] := by
  refine callV (Z := []) tabOK mixedOK Tryz.func65 rfl (by kernel_rfl) rfl rfl (by kernel_rfl) rfl ?_
  intro W0 w0 ρ0 hE
  conv => whnf
  refine SW_loopN hE (fun k => k) [2, 3, 4] [2, 3, 4] (fun m fr hp => ∃ x, (wInts x).length < 274877906944 ∧ (wInts m).length < 274877906944 ∧ Nat.gcd x m = Nat.gcd a b ∧ fr = [(2, .ptr 2 0 0 0), (3, .ptr 3 0 0 0), (4, .ptr 4 0 0 0)] ∧ hp = [(2, ⟨32, true, .one [.nat x]⟩), (3, ⟨32, true, .one [.nat m]⟩), (4, ⟨32, true, .one [.nat 0]⟩)]) b ?_ ?_ ?_
  · kernel_rfl
  · exact ⟨a, ha, hb, rfl, rfl, rfl⟩
  rintro m _ _ ⟨x, hx, hm, hg, rfl, rfl⟩
  have kz := c_nZero m
  by_cases h0 : m = 0
  · rw [decide_eq_true h0] at kz
    subst h0
    rw [← hg, Nat.gcd_zero_right]
    conv => whnf
    (repeat (first | (refine step_w2 rfl rfl ?_; conv => whnf) | (refine g_c (by assumption) ?_; conv => whnf))); exact Recast.refl _
  · rw [decide_eq_false h0] at kz
    have kd := c_Div x m hx hm h0
    have hlt := Nat.mod_lt x (Nat.pos_of_ne_zero h0)
    conv => whnf
    (repeat (first | (refine step_w1 rfl rfl ?_; conv => whnf) | (refine step_i (by kernel_rfl) ?_; conv => whnf) | (refine g_c (by assumption) ?_; conv => whnf)))
    refine ⟨x % m, fun k => k, [2, 3, 4], [2, 3, 4], hlt, by kernel_rfl, m, hm, ?_, ?_, rfl, rfl⟩
    · exact Nat.lt_of_le_of_lt (len_le_of (Nat.lt_trans hlt (lt_of_len m))) hm
    · rw [← hg, Nat.gcd_comm m, ← Nat.gcd_rec, Nat.gcd_comm]
end Go.Proofs.YtkpfineikahgfaaGreatDoor

namespace Go.Proofs.YtkpfineikahgfaaGreatDoor
open Go.Sx
set_option linter.unusedSimpArgs false
set_option linter.unusedVariables false

theorem len_sz {n : Nat} (h : sz n ≤ 1073741824) : (wInts n).length < 274877906944 := by
  have := wlen_sz (n := n) (M := 33554432) (by omega)
  omega

theorem natBig : NatOK 1073741824 where
  big := by decide
  cmp a b ha hb := c_Cmp a b (by have := len_sz ha; omega) (by have := len_sz hb; omega)
  add a b h := n_Add a b (by have := len_sz (n := a) (Nat.le_trans (sz_mono (by omega)) h); omega) (by have := len_sz (n := b) (Nat.le_trans (sz_mono (by omega)) h); omega)
  sub a b ha h := n_Sub a b (by have := len_sz ha; omega) h
  subF a b hb h := c_SubF a b (by have := len_sz hb; have := len_le_of (Nat.lt_trans h (lt_of_len b)); omega) (by have := len_sz hb; omega) h
  mul a b h := n_Mul a b (len_sz (by omega)) (len_sz (by omega))
  div a b ha hb h0 := c_Div a b (len_sz ha) (len_sz hb) h0
  divZ a := c_DivZ a
  gcd a b ha hb := c_Gcd a b (len_sz ha) (len_sz hb)
end Go.Proofs.YtkpfineikahgfaaGreatDoor

namespace Go.Proofs.YtkpfineikahgfaaGreatDoor
open Go.Sx
set_option linter.unusedSimpArgs false
set_option linter.unusedVariables false
set_option maxRecDepth 100000
set_option maxHeartbeats 4000000

/-- A fraction's size. -/
def fs (q : Rat) : Nat := fsz q + 1

theorem fs_add (a b : Rat) : fs (a + b) ≤ fs a + fs b := by have := @fsz_add a b; unfold fs; omega
theorem fs_mul (a b : Rat) : fs (a * b) ≤ fs a + fs b := by have := @fsz_mul a b; unfold fs; omega
theorem fs_zero : fs 0 = 2 := by decide +kernel
theorem fs_int {n : Int} (h0 : -9223372036854775808 ≤ n) (h1 : n < 9223372036854775808) : fs (n : Rat) ≤ 65 := by
  have := fsz_int (n := n) (k := 64) (sz_i64 h0 h1) (by decide); unfold fs; omega

theorem f_Add (a b : Rat) (h : fs a + fs b ≤ 1073741824) : CallOK Tryz.prog 143 [.frac a, .frac b] [] (.frac (a + b)) [] [] := c_fAdd natBig a b (by unfold fs at h; omega)
theorem f_Mul (a b : Rat) (h : fs a + fs b ≤ 1073741824) : CallOK Tryz.prog 62 [.frac a, .frac b] [] (.frac (a * b)) [] [] := c_fMul natBig a b (by unfold fs at h; omega)
end Go.Proofs.YtkpfineikahgfaaGreatDoor

namespace Go.Proofs.YtkpfineikahgfaaGreatDoor
open Go.Sx
set_option linter.unusedSimpArgs false
set_option linter.unusedVariables false
set_option maxRecDepth 100000
set_option maxHeartbeats 4000000

/-- The error of vectors that must be alike. -/
def alikeF (ls : List (List Rat)) : Int := if ls.any (fun v => decide (2048 < v.length)) then 3 else if ls.all (fun v => v.length == (ls.headD []).length) then 0 else 1

theorem v_alike (ls : List (List Rat)) (hn : ls.length < 1099511627776) (hl : ∀ v ∈ ls, v.length < 1099511627776) : CallOK Tryz.prog 250 [mvec 1 fvec ls] [] (.val (.int .i64 (alikeF ls))) [] [] := by
  refine callV (Z := []) tabOK mixedOK Tryz.func250 rfl (by kernel_rfl) rfl rfl (by kernel_rfl) rfl ?_
  intro W0 w0 ρ0 hE
  conv => whnf
  (repeat (first | (refine g_o (op_lenM rfl rfl rfl (ev_ok rfl) (tgt rfl) rfl) ?_; conv => whnf)))
  refine SW_loopN hE (fun k => k) [0, 2, 7, 8, 9] [] (fun m fr hp => ∃ i, m = ls.length - i ∧ i ≤ ls.length ∧ (∀ j, j < i → decide (2048 < (ls.getD j []).length) = false) ∧ fr = [(0, mvec 1 fvec ls), (2, .val (.int .i64 0)), (7, mvec 1 fvec ls), (8, .val (.int .i64 (ls.length : Nat))), (9, .val (.int .i64 (i : Nat)))] ∧ hp = []) ls.length ?_ ?_ ?_
  · kernel_rfl
  · exact ⟨0, rfl, Nat.zero_le _, (fun j hj => by omega), rfl, rfl⟩
  rintro m _ _ ⟨i, rfl, hi, hs, rfl, rfl⟩
  conv => whnf
  by_cases hlt : i < ls.length
  · have t1 := dlt hlt
    have t2 := winc (i := i) (by omega)
    by_cases hL : 2048 < (ls.getD i []).length
    · have t3 : decide (((ls.getD i []).length : Int) > 2048) = true := decide_eq_true (by omega)
      have e : alikeF ls = 3 := by rw [alikeF, if_pos (any_at (d := []) hlt (decide_eq_true hL))]
      rw [e]
      (repeat ((first | refine step_w1 rfl rfl ?_ | refine g_o (op_lenM rfl rfl rfl (ev_ok rfl) (tgt rfl) rfl) ?_ | refine g_o (op_loadA rfl (ev_ok rfl) (tgt rfl) rfl (Nat.succ_ne_zero _) rfl) ?_ | refine g_o (op_indexN (α := List Rat) (d := []) rfl (ev_ok rfl) (ev_ok rfl) (tgt rfl) rfl (tgt rfl) rfl (by omega)) ?_ | rw [t1] | rw [t3]); conv => whnf)); (first | exact Recast.refl _ | exact Frz.recast (Recast.refl _) rfl | (refine Frz.one rfl rfl ?_; skip) | (refine Frz.tup ?_; skip))
    · have t3 : decide (((ls.getD i []).length : Int) > 2048) = false := decide_eq_false (by omega)
      (repeat ((first | refine step_w1 rfl rfl ?_ | refine step_w2 rfl rfl ?_ | refine g_o (op_lenM rfl rfl rfl (ev_ok rfl) (tgt rfl) rfl) ?_ | refine g_o (op_loadA rfl (ev_ok rfl) (tgt rfl) rfl (Nat.succ_ne_zero _) rfl) ?_ | refine g_o (op_indexN (α := List Rat) (d := []) rfl (ev_ok rfl) (ev_ok rfl) (tgt rfl) rfl (tgt rfl) rfl (by omega)) ?_ | rw [t1] | rw [t3] | rw [t2]); conv => whnf))
      refine ⟨ls.length - (i + 1), fun k => k, [0, 2, 7, 8, 9], [], by omega, by kernel_rfl, i + 1, rfl, hlt, ?_, rfl, rfl⟩
      intro j hj
      by_cases hji : j = i
      · rw [hji]; exact decide_eq_false hL
      · exact hs j (by omega)
  · have t1 := dge hlt
    have hI : i = ls.length := by omega
    subst hI
    have hshort : ls.any (fun v => decide (2048 < v.length)) = false := any_no [] hs
    (repeat (first | (refine step_w2 rfl rfl ?_; conv => whnf) | (refine g_o (op_lenM rfl rfl rfl (ev_ok rfl) (tgt rfl) rfl) ?_; conv => whnf) | (rw [t1]; conv => whnf)))
    refine SW_loopN hE (fun k => k) [0, 2, 17, 18, 19] [] (fun m fr hp => ∃ i, m = ls.length - i ∧ i ≤ ls.length ∧ (∀ j, j < i → ((ls.getD j []).length == (ls.headD []).length) = true) ∧ fr = [(0, mvec 1 fvec ls), (2, .val (.int .i64 0)), (17, mvec 1 fvec ls), (18, .val (.int .i64 (ls.length : Nat))), (19, .val (.int .i64 (i : Nat)))] ∧ hp = []) ls.length ?_ ?_ ?_
    · kernel_rfl
    · exact ⟨0, rfl, Nat.zero_le _, (fun j hj => by omega), rfl, rfl⟩
    rintro m _ _ ⟨i, rfl, hi, hs, rfl, rfl⟩
    conv => whnf
    by_cases hlt : i < ls.length
    · have t1 := dlt hlt
      have t2 := winc (i := i) (by omega)
      have h0 : 0 < ls.length := by omega
      have hh : ls.getD 0 [] = ls.headD [] := by cases ls <;> rfl
      by_cases hL : (ls.getD i []).length = (ls.getD 0 []).length
      · have t3 : (((ls.getD i []).length : Int) != ((ls.getD 0 []).length : Int)) = false := by rw [hL]; exact bne_self_eq_false _
        (repeat ((first | refine step_w1 rfl rfl ?_ | refine step_w2 rfl rfl ?_ | refine g_o (op_lenM rfl rfl rfl (ev_ok rfl) (tgt rfl) rfl) ?_ | refine g_o (op_loadA rfl (ev_ok rfl) (tgt rfl) rfl (Nat.succ_ne_zero _) rfl) ?_ | refine g_o (op_indexN (α := List Rat) (d := []) rfl (ev_ok rfl) (ev_ok rfl) (tgt rfl) rfl (tgt rfl) rfl (by omega)) ?_ | rw [t1] | rw [t3] | rw [t2]); conv => whnf))
        refine ⟨ls.length - (i + 1), fun k => k, [0, 2, 17, 18, 19], [], by omega, by kernel_rfl, i + 1, rfl, hlt, ?_, rfl, rfl⟩
        intro j hj
        by_cases hji : j = i
        · rw [hji, hL, hh]; exact beq_self_eq_true _
        · exact hs j (by omega)
      · have t3 : (((ls.getD i []).length : Int) != ((ls.getD 0 []).length : Int)) = true := bne_iff_ne.2 (by omega)
        have e : alikeF ls = 1 := by
          rw [alikeF, if_neg (by rw [hshort]; exact Bool.false_ne_true), if_neg]
          rw [all_no (d := []) hlt (by rw [← hh]; exact beq_false_of_ne hL)]
          exact Bool.false_ne_true
        rw [e]
        (repeat ((first | refine step_w1 rfl rfl ?_ | refine g_o (op_lenM rfl rfl rfl (ev_ok rfl) (tgt rfl) rfl) ?_ | refine g_o (op_loadA rfl (ev_ok rfl) (tgt rfl) rfl (Nat.succ_ne_zero _) rfl) ?_ | refine g_o (op_indexN (α := List Rat) (d := []) rfl (ev_ok rfl) (ev_ok rfl) (tgt rfl) rfl (tgt rfl) rfl (by omega)) ?_ | rw [t1] | rw [t3]); conv => whnf)); (first | exact Recast.refl _ | exact Frz.recast (Recast.refl _) rfl | (refine Frz.one rfl rfl ?_; skip) | (refine Frz.tup ?_; skip))
    · have t1 := dge hlt
      have hI : i = ls.length := by omega
      subst hI
      have e : alikeF ls = 0 := by
        rw [alikeF, if_neg (by rw [hshort]; exact Bool.false_ne_true), if_pos (all_at [] hs)]
      rw [e]
      (repeat (first | (refine step_w2 rfl rfl ?_; conv => whnf) | (rw [t1]; conv => whnf))); (first | exact Recast.refl _ | exact Frz.recast (Recast.refl _) rfl | (refine Frz.one rfl rfl ?_; skip) | (refine Frz.tup ?_; skip))

theorem alike_two (a b : List Rat) : alikeF [a, b] = if 2048 < a.length ∨ 2048 < b.length then 3 else if a.length = b.length then 0 else 1 := by
  simp only [alikeF, List.any_cons, List.any_nil, Bool.or_false, Bool.or_eq_true, decide_eq_true_eq, List.all_cons, List.all_nil, Bool.and_true, List.headD_cons, beq_self_eq_true, Bool.true_and, beq_iff_eq]
  split
  · rfl
  · split
    · rename_i h; rw [if_pos h.symm]
    · rename_i h; rw [if_neg (fun h' => h h'.symm)]

theorem v_each0 (F : Rat → Rat → Rat) (g : FuncId)  (a b : List Rat) (hab : a.length = b.length) (hl : a.length ≤ 2048)
    (hf : ∀ i, i < a.length → CallOK Tryz.prog g ([] ++ ([.frac (a.getD i 0), .frac (b.getD i 0)] ++ [])) [] (.frac (F (a.getD i 0) (b.getD i 0))) [] []) :
    CallOK Tryz.prog 219 [fvec a, fvec b, .clo g [] []] [] (.tup [fvec (List.zipWith F a b), .val (.int .i64 0)]) [] [] := by
  have k1 := v_alike [a, b] (by simp) (by simp; omega)
  rw [alike_two, if_neg (by omega), if_pos hab] at k1
  refine callF (Z := [13]) tabOK mixedOK Tryz.func219 rfl (by kernel_rfl) (by first | rfl | (simp [keylessL, keyless, keylessL_map, *]; done)) (by first | rfl | (simp [keylessL, keyless, keylessL_map, *]; done)) (by kernel_rfl) rfl ?_
  intro w0 ρ0 hE
  conv => whnf
  (repeat ((first | refine step_w2 rfl rfl ?_ | refine And.intro (by first | decide | omega | (simp only [tiB5, tiB95, tiB3, tiB2, tiB9, tiB38, tiB74, tiB25, tiB41, tiB36, tiB30, tiB4, tiB70, tiB72, tiB164, tiB27, tiB62, tiB32, dlen, List.length_replicate, List.length_set, List.length_map, List.length_zipWith, List.length_take, List.length_append, List.length_cons, List.length_nil]; omega)) ?_ | refine g_c (by assumption) ?_ | rw [bne_self_eq_false] | refine g_o (op_lenM rfl rfl rfl (ev_ok rfl) (tgt rfl) rfl) ?_ | rw [Int.toNat_natCast]); conv => whnf))
  have hz := zip_len (f := F) rfl hab.symm
  refine SW_loopN hE (fun k => k) [0, 1, 2, 6, 7, 9, 22, 23] [20] (fun m fr hp => ∃ i, m = a.length - i ∧ i ≤ a.length ∧ fr = [(0, fvec a), (1, fvec b), (2, .clo g [] []), (6, .val (.slice none 0 0)), (7, .val (.int .i64 0)), (9, .slc 20 5 0 a.length), (22, .val (.int .i64 (a.length : Nat))), (23, .val (.int .i64 (i : Nat)))] ∧
    hp = [(20, ⟨38, true, .fracs ((List.zipWith F a b).take i ++ List.replicate (a.length - i) 0)⟩)]) a.length ?_ ?_ ?_
  · kernel_rfl
  · exact ⟨0, rfl, Nat.zero_le _, rfl, rfl⟩
  rintro m _ _ ⟨i, rfl, hi, rfl, rfl⟩
  conv => whnf
  have hlen := fill_len (d := (0 : Rat)) hi hz
  by_cases hlt : i < a.length
  · have t1 := dlt hlt
    have t2 := winc (i := i) (by omega)
    have k2 := hf i hlt
    rw [← zip_get (f := F) (d3 := 0) hlt (by omega)] at k2
    (repeat ((first | refine step_w1 rfl rfl ?_ | refine step_i (by kernel_rfl) ?_ | refine And.intro (by first | decide | omega | (simp only [tiB5, tiB95, tiB3, tiB2, tiB9, tiB38, tiB74, tiB25, tiB41, tiB36, tiB30, tiB4, tiB70, tiB72, tiB164, tiB27, tiB62, tiB32, dlen, List.length_replicate, List.length_set, List.length_map, List.length_zipWith, List.length_take, List.length_append, List.length_cons, List.length_nil]; omega)) ?_ | refine g_c (by assumption) ?_ | refine g_o (op_indexN (α := Rat) (d := 0) rfl (ev_ok rfl) (ev_ok rfl) (tgt rfl) rfl (tgt rfl) rfl (by omega)) ?_ | refine g_o (op_loadA rfl (ev_ok rfl) (tgt rfl) rfl (Nat.succ_ne_zero _) rfl) ?_ | rw [t1] | rw [t2] | rw [Int.toNat_natCast] | rw [Nat.zero_add]); conv => whnf))
    refine ⟨a.length - (i + 1), fun k => k, [0, 1, 2, 6, 7, 9, 22, 23], [20], by omega, by kernel_rfl, i + 1, rfl, hlt, rfl, ?_⟩
    rw [← fill_set (e := 0) hlt hz]
    rfl
  · have t1 := dge hlt
    have hI : i = a.length := by omega
    subst hI
    rw [fill_all hz]
    (repeat (first | (refine step_w2 rfl rfl ?_; conv => whnf) | (rw [t1]; conv => whnf)))
    (first | exact Recast.refl _ | exact Frz.recast (Recast.refl _) rfl | (refine Frz.one rfl rfl ?_; skip) | (refine Frz.tup ?_; (repeat (first | exact FrzC.keyless rfl | exact FrzL.nil | refine FrzL.cons ?_ ?_ | (refine FrzC.fracs rfl ?_; (first | rfl | omega | (simp <;> fail) | (simp <;> omega)))))))
end Go.Proofs.YtkpfineikahgfaaGreatDoor

namespace Go.Proofs.YtkpfineikahgfaaGreatDoor
open Go.Sx
set_option linter.unusedSimpArgs false
set_option linter.unusedVariables false
set_option maxRecDepth 100000
set_option maxHeartbeats 4000000

/-- The size of a list of fractions. -/
def fsL (l : List Rat) : Nat := (l.map fs).sum
theorem fs_sum (l : List Rat) (s : Rat) : fs (l.foldl (· + ·) s) ≤ fs s + fsL l := by
  induction l generalizing s with
  | nil => simp [fsL]
  | cons q l ih =>
    have := ih (s + q)
    have := fs_add s q
    simp only [List.foldl_cons, fsL, List.map_cons, List.sum_cons] at *
    omega

theorem f_totalAdd (s q : Rat) (h : fs s + fs q ≤ 1073741824) (K : Nat) :
    CallOK Tryz.prog 186 [.ptr K 0 0 0, .frac q] [(K, ⟨226, true, .one [.frac s]⟩)] (.tup []) [] [(K, ⟨226, true, .one [.frac (s + q)]⟩)] := by
  have k1 := f_Add s q h
  refine callK (Z := []) tabOK mixedOK Tryz.func186 rfl (by kernel_rfl) (args := [.ptr 0 0 0 0, .frac q]) (fk := [(0, ⟨226, true, .one [.frac s]⟩)]) (c := .tup []) (new := []) (upd := [(0, ⟨226, true, .one [.frac (s + q)]⟩)]) (ShapeOK.of rfl rfl rfl rfl rfl rfl rfl rfl rfl rfl rfl) rfl (fun _ => K) NamesOK.upd ?_
  intro W0 w0 ρ0 hE
  conv => whnf
  (repeat (first | (refine step_i (by kernel_rfl) ?_; conv => whnf) | (refine g_c (by assumption) ?_; conv => whnf)))
  exact ⟨Recast.refl _, (fun _ _ h => by cases h), fun k b hm => by simp only [List.mem_singleton, Prod.mk.injEq] at hm; obtain ⟨rfl, rfl⟩ := hm; rfl⟩

theorem take_snoc (l : List Rat) (i : Nat) (hi : i < l.length) : l.take (i + 1) = l.take i ++ [l.getD i 0] := by rw [List.take_add_one, List.getD_eq_getElem?_getD, List.getElem?_eq_getElem hi]; rfl
theorem foldl_take (l : List Rat) (i : Nat) (hi : i < l.length) (s : Rat) : (l.take (i + 1)).foldl (· + ·) s = (l.take i).foldl (· + ·) s + l.getD i 0 := by
  rw [take_snoc l i hi, List.foldl_append]; rfl
theorem fsL_append (a b : List Rat) : fsL (a ++ b) = fsL a + fsL b := by unfold fsL; rw [List.map_append, List.sum_append]
theorem fsL_one (q : Rat) : fsL [q] = fs q := by simp [fsL]
theorem fsL_take (l : List Rat) (i : Nat) (hi : i < l.length) : fsL (l.take i) + fs (l.getD i 0) ≤ fsL l := by
  have h1 : fsL (l.take (i + 1)) = fsL (l.take i) + fs (l.getD i 0) := by rw [take_snoc l i hi, fsL_append, fsL_one]
  have h3 : fsL l = fsL (l.take (i + 1)) + fsL (l.drop (i + 1)) := by rw [← fsL_append, List.take_append_drop]
  rw [h3, h1]
  exact Nat.le_add_right _ _

theorem f_each (l : List Rat) (s : Rat) (hn : l.length < 1099511627776) (h : fs s + fsL l ≤ 1073741824) (K : Nat) :
    CallOK Tryz.prog 185 [.clo 186 [.ptr K 0 0 0] [], fvec l] [(K, ⟨226, true, .one [.frac s]⟩)] (.tup []) [] [(K, ⟨226, true, .one [.frac (l.foldl (· + ·) s)]⟩)] := by
  refine callK (Z := []) tabOK mixedOK Tryz.func185 rfl (by kernel_rfl) (args := [.clo 186 [.ptr 1001 0 0 0] [], fvec l]) (fk := [(1001, ⟨226, true, .one [.frac s]⟩)]) (c := .tup []) (new := []) (upd := [(1001, ⟨226, true, .one [.frac (l.foldl (· + ·) s)]⟩)]) (ShapeOK.of rfl rfl rfl rfl rfl rfl rfl rfl rfl rfl rfl) rfl (fun _ => K) NamesOK.upd ?_
  intro W0 w0 ρ0 hE
  conv => whnf
  (repeat (first | (refine g_o (op_lenM rfl rfl rfl (ev_ok rfl) (tgt rfl) rfl) ?_; conv => whnf)))
  refine SW_loopN hE (fun k => k) [0, 1, 6, 7, 8] [1001] (fun m fr hp => ∃ i, m = l.length - i ∧ i ≤ l.length ∧ fr = [(0, .clo 186 [.ptr 1001 0 0 0] []), (1, fvec l), (6, fvec l), (7, .val (.int .i64 (l.length : Nat))), (8, .val (.int .i64 (i : Nat)))] ∧
    hp = [(1001, ⟨226, true, .one [.frac ((l.take i).foldl (· + ·) s)]⟩)]) l.length ?_ ?_ ?_
  · kernel_rfl
  · exact ⟨0, rfl, Nat.zero_le _, rfl, rfl⟩
  rintro m _ _ ⟨i, rfl, hi, rfl, rfl⟩
  conv => whnf
  by_cases hlt : i < l.length
  · have t1 := dlt hlt
    have t2 := winc (i := i) (by omega)
    have hs := fs_sum (l.take i) s
    have hs2 := fsL_take l i hlt
    have k1 := f_totalAdd ((l.take i).foldl (· + ·) s) (l.getD i 0) (by omega) 1001
    rw [← foldl_take l i hlt s] at k1
    (repeat ((first | refine step_w1 rfl rfl ?_ | refine g_c1u (by assumption) rfl rfl ?_ | refine g_o (op_indexN (α := Rat) (d := 0) rfl (ev_ok rfl) (ev_ok rfl) (tgt rfl) rfl (tgt rfl) rfl (by omega)) ?_ | refine g_o (op_loadA rfl (ev_ok rfl) (tgt rfl) rfl (Nat.succ_ne_zero _) rfl) ?_ | rw [t1] | rw [t2]); conv => whnf))
    exact ⟨l.length - (i + 1), fun k => k, [0, 1, 6, 7, 8], [1001], by omega, by kernel_rfl, i + 1, rfl, hlt, rfl, rfl⟩
  · have t1 := dge hlt
    have hI : i = l.length := by omega
    subst hI
    rw [List.take_length]
    (repeat (first | (refine step_w2 rfl rfl ?_; conv => whnf) | (rw [t1]; conv => whnf)))
    exact ⟨Recast.refl _, (fun _ _ h => by cases h), fun k b hm => by simp only [List.mem_singleton, Prod.mk.injEq] at hm; obtain ⟨rfl, rfl⟩ := hm; rfl⟩

theorem f_Sum (l : List Rat) (hn : l.length < 1099511627776) (h : fsL l + 2 ≤ 1073741824) : CallOK Tryz.prog 89 [fvec l] [] (.frac (l.foldl (· + ·) 0)) [] [] := by
  have k1 := f_each l 0 hn (by rw [fs_zero]; omega) 3
  refine callV (Z := []) tabOK mixedOK Tryz.func89 rfl (by kernel_rfl) rfl rfl (by kernel_rfl) rfl ?_
  intro W0 w0 ρ0 hE
  conv => whnf
  (repeat (first | (refine g_c1u (by assumption) rfl rfl ?_; conv => whnf) | (refine g_o (op_makeFunc rfl rfl rfl) ?_; conv => whnf))); (first | exact Recast.refl _ | exact Frz.recast (Recast.refl _) rfl | (refine Frz.one rfl rfl ?_; skip) | (refine Frz.tup ?_; skip))
end Go.Proofs.YtkpfineikahgfaaGreatDoor

namespace Go.Proofs.YtkpfineikahgfaaGreatDoor
open Go.Sx
set_option linter.unusedSimpArgs false
set_option linter.unusedVariables false
set_option maxRecDepth 100000
set_option maxHeartbeats 4000000

/-- The sizes of two vectors' elements, taken together. -/
def Fit (a b : List Rat) : Prop := ∀ i, i < a.length → fs (a.getD i 0) + fs (b.getD i 0) ≤ 1073741824

abbrev vmul (a b : List Rat) : List Rat := List.zipWith (· * ·) a b
/-- The dot product. -/
def vdot (a b : List Rat) : Rat := (vmul a b).foldl (· + ·) 0
theorem v_Dot (a b : List Rat) (hab : a.length = b.length) (hl : a.length ≤ 2048) (h : Fit a b) (hs : fsL (vmul a b) + 2 ≤ 1073741824) : CallOK Tryz.prog 149 [fvec a, fvec b] [] (.tup [.frac (vdot a b), .val (.int .i64 0)]) [] [] := by
  have k1 := v_each0 (· * ·) 62 a b hab hl (fun i hi => f_Mul _ _ (h i hi))
  have k2 := f_Sum (vmul a b) (by simp; omega) hs
  refine callV (Z := []) tabOK mixedOK Tryz.func149 rfl (by kernel_rfl) rfl rfl (by kernel_rfl) rfl ?_
  intro W0 w0 ρ0 hE
  conv => whnf
  (repeat (first | (refine g_c (by assumption) ?_; conv => whnf))); (first | exact Recast.refl _ | exact Frz.recast (Recast.refl _) rfl | (refine Frz.one rfl rfl ?_; skip) | (refine Frz.tup ?_; skip))

theorem q_guard : Tryz.prog.eqGuardType Tryz.prog.depth 38 = false := by kernel_rfl
theorem q_same (a b : Rat) : eqTy tab good 10 38 (fracCells a) (fracCells b) = some (decide (a = b)) := by
  have e : eqTy tab good 10 38 (fracCells a) (fracCells b) = some (((((low a.num.natAbs == low b.num.natAbs) && (((big a.num.natAbs).toList == (big b.num.natAbs).toList) && true)) && true) && ((decide (a.num < 0) == decide (b.num < 0)) && true)) &&
    (((low (a.den - 1) == low (b.den - 1)) && (((big (a.den - 1)).toList == (big (b.den - 1)).toList) && true)) && true)) := rfl
  rw [e]
  simp only [Bool.and_true]
  rw [nat_eq_iff, nat_eq_iff]
  congr 1
  rw [Bool.eq_iff_iff]
  simp only [Bool.and_eq_true, decide_eq_true_eq, beq_iff_eq, decide_eq_decide]
  have h1 := a.den_pos
  have h2 := b.den_pos
  constructor
  · rintro ⟨⟨h3, h4⟩, h5⟩
    exact Rat.ext (by omega) (by omega)
  · rintro rfl
    exact ⟨⟨rfl, Iff.rfl⟩, rfl⟩

end Go.Proofs.YtkpfineikahgfaaGreatDoor

namespace Go.Proofs.YtkpfineikahgfaaGreatDoor
open Go.Sx
set_option linter.unusedSimpArgs false
set_option linter.unusedVariables false
set_option maxRecDepth 100000
set_option maxHeartbeats 4000000

def ofInts (l : List Int) : List Rat := l.map fun (n : Int) => ((n : Int) : Rat)
theorem map_get {α β : Type} {f : α → β} {l : List α} {i : Nat} {d : α} {e : β} (h : i < l.length) : (l.map f).getD i e = f (l.getD i d) := by
  simp [List.getD_eq_getElem?_getD, List.getElem?_eq_getElem h]

theorem v_Of (l : List Int) (hl : l.length < 1099511627776) (h : ∀ i, i < l.length → -9223372036854775808 ≤ l.getD i 0 ∧ l.getD i 0 < 9223372036854775808) : CallOK Tryz.prog 78 [ivec .i64 l] [] (fvec (ofInts l)) [] [] := by
  refine callF (Z := []) tabOK mixedOK Tryz.func78 rfl (by kernel_rfl) (by first | rfl | (simp [keylessL, keyless, keylessL_map, *]; done)) (by first | rfl | (simp [keylessL, keyless, keylessL_map, *]; done)) (by kernel_rfl) rfl ?_
  intro w0 ρ0 hE
  conv => whnf
  (repeat (first | (refine And.intro (by first | decide | omega | (simp only [tiB5, tiB95, tiB3, tiB2, tiB9, tiB38, tiB74, tiB25, tiB41, tiB36, tiB30, tiB4, tiB70, tiB72, tiB164, tiB27, tiB62, tiB32, dlen, List.length_replicate, List.length_set, List.length_map, List.length_zipWith, List.length_take, List.length_append, List.length_cons, List.length_nil]; omega)) ?_; conv => whnf) | (refine g_o (op_lenM rfl rfl rfl (ev_ok rfl) (tgt rfl) rfl) ?_; conv => whnf) | (rw [Int.toNat_natCast]; conv => whnf)))
  have hz : (ofInts l).length = l.length := by simp [ofInts]
  refine SW_loopN hE (fun k => k) [0, 2, 3, 9, 10] [7] (fun m fr hp => ∃ i, m = l.length - i ∧ i ≤ l.length ∧ fr = [(0, ivec .i64 l), (2, .val (.slice none 0 0)), (3, .slc 7 5 0 l.length), (9, .val (.int .i64 (l.length : Nat))), (10, .val (.int .i64 (i : Nat)))] ∧
    hp = [(7, ⟨38, true, .fracs ((ofInts l).take i ++ List.replicate (l.length - i) 0)⟩)]) l.length ?_ ?_ ?_
  · kernel_rfl
  · exact ⟨0, rfl, Nat.zero_le _, rfl, rfl⟩
  rintro m _ _ ⟨i, rfl, hi, rfl, rfl⟩
  conv => whnf
  have hlen := fill_len (d := (0 : Rat)) hi hz
  by_cases hlt : i < l.length
  · have t1 := dlt hlt
    have t2 := winc (i := i) (by omega)
    obtain ⟨b1, b2⟩ := h i hlt
    have k1 := c_fInt (l.getD i 0) b1 b2
    rw [← map_get (f := fun (n : Int) => ((n : Int) : Rat)) (e := 0) hlt] at k1
    (repeat ((first | refine step_w1 rfl rfl ?_ | refine And.intro (by first | decide | omega | (simp only [tiB5, tiB95, tiB3, tiB2, tiB9, tiB38, tiB74, tiB25, tiB41, tiB36, tiB30, tiB4, tiB70, tiB72, tiB164, tiB27, tiB62, tiB32, dlen, List.length_replicate, List.length_set, List.length_map, List.length_zipWith, List.length_take, List.length_append, List.length_cons, List.length_nil]; omega)) ?_ | refine g_c (by assumption) ?_ | refine g_o (op_loadA rfl (ev_ok rfl) (tgt rfl) rfl (Nat.succ_ne_zero _) rfl) ?_ | refine g_o (op_indexN (α := Int) (d := 0) rfl (ev_ok rfl) (ev_ok rfl) (tgt rfl) rfl (tgt rfl) rfl (by omega)) ?_ | rw [t1] | rw [t2] | rw [Int.toNat_natCast] | rw [Nat.zero_add]); conv => whnf))
    refine ⟨l.length - (i + 1), fun k => k, [0, 2, 3, 9, 10], [7], by omega, by kernel_rfl, i + 1, rfl, hlt, rfl, ?_⟩
    rw [← fill_set (e := 0) hlt hz]
    rfl
  · have t1 := dge hlt
    have hI : i = l.length := by omega
    subst hI
    rw [fill_all hz]
    (repeat (first | (refine step_w2 rfl rfl ?_; conv => whnf) | (rw [t1]; conv => whnf))); (first | exact Recast.refl _ | exact Frz.recast (Recast.refl _) rfl | (refine Frz.one rfl rfl ?_; (repeat (first | (refine FrzC.fracs rfl ?_; (first | rfl | omega | (simp <;> fail) | (simp <;> omega)))))) | (refine Frz.tup ?_; skip))

end Go.Proofs.YtkpfineikahgfaaGreatDoor

namespace Go.Proofs
open Go.Shelf
def Tryz.lays156_ren : Go.Shelf.Ren := ⟨fun | 156 => 184 | 165 => 230 | 166 => 231 | 169 => 232 | 240 => 261 | 241 => 262 | 276 => 277 | 277 => 278 | n => n, fun | 31 => 223 | 9 => 9 | 3 => 3 | 4 => 4 | 0 => 0 | 20 => 20 | 72 => 274 | 76 => 278 | 70 => 271 | 37 => 272 | 75 => 277 | 127 => 304 | 164 => 315 | 5 => 5 | 80 => 280 | n => n, fun | n => n⟩
theorem Tryz.lays156 : Go.Proofs.Lays.n156 Tryz.prog Tryz.lays156_ren := {
  mixed := by kernel_rfl
  f156 := Tryz.func184.trans (congrArg some (by kernel_rfl))
  f165 := Tryz.func230.trans (congrArg some (by kernel_rfl))
  f166 := Tryz.func231.trans (congrArg some (by kernel_rfl))
  f169 := Tryz.func232.trans (congrArg some (by kernel_rfl))
  f240 := Tryz.func261.trans (congrArg some (by kernel_rfl))
  f241 := Tryz.func262.trans (congrArg some (by kernel_rfl))
  f276 := Tryz.func277.trans (congrArg some (by kernel_rfl))
  f277 := Tryz.func278.trans (congrArg some (by kernel_rfl))
  t0 := Tryz.underlying0
  a0 := Tryz.isAgg0
  z0 := Tryz.sizeOf0
  v0 := Tryz.zeroValue0
  t3 := Tryz.underlying3
  a3 := Tryz.isAgg3
  z3 := Tryz.sizeOf3
  v3 := Tryz.zeroValue3
  t4 := Tryz.underlying4
  a4 := Tryz.isAgg4
  z4 := Tryz.sizeOf4
  v4 := Tryz.zeroValue4
  t9 := Tryz.underlying9
  a9 := Tryz.isAgg9
  z9 := Tryz.sizeOf9
  v9 := Tryz.zeroValue9
  t20 := Tryz.underlying20
  a20 := Tryz.isAgg20
  z20 := Tryz.sizeOf20
  v20 := Tryz.zeroValue20
  t31 := Tryz.underlying223
  a31 := Tryz.isAgg223
  z31 := Tryz.sizeOf223
  v31 := Tryz.zeroValue223
  t37 := Tryz.underlying272
  a37 := Tryz.isAgg272
  z37 := Tryz.sizeOf272
  v37 := Tryz.zeroValue272
  t70 := Tryz.underlying271
  a70 := Tryz.isAgg271
  z70 := Tryz.sizeOf271
  v70 := Tryz.zeroValue271
  t72 := Tryz.underlying274
  a72 := Tryz.isAgg274
  z72 := Tryz.sizeOf274
  v72 := Tryz.zeroValue274
  t75 := Tryz.underlying277
  a75 := Tryz.isAgg277
  z75 := Tryz.sizeOf277
  v75 := Tryz.zeroValue277
  t76 := Tryz.underlying278
  a76 := Tryz.isAgg278
  z76 := Tryz.sizeOf278
  v76 := Tryz.zeroValue278
  t127 := Tryz.underlying304
  a127 := Tryz.isAgg304
  z127 := Tryz.sizeOf304
  v127 := Tryz.zeroValue304
  t164 := Tryz.underlying315
  a164 := Tryz.isAgg315
  z164 := Tryz.sizeOf315
  v164 := Tryz.zeroValue315 }
theorem Tryz.Builder_Extra_156 : Builder.Extra Tryz.prog Tryz.lays156_ren := {
  sizeBuilder := by kernel_rfl
  liesBuilder := by kernel_rfl
  t5 := Tryz.underlying5
  a5 := Tryz.isAgg5
  z5 := Tryz.sizeOf5
  v5 := Tryz.zeroValue5
  infoByte := by kernel_rfl
  cellsByte := by kernel_rfl
  sizeByte := by kernel_rfl
  neB5 := by decide }
open Go.RowKit in
/-- No element: the empty string; the world is as it was. (Whatever the slice's address and capacity: a nil slice too.) (LAID: no walk: one application.) -/
theorem Tryz.strings_Join_none (a : Option Addr) (c : Nat) (sep : ByteArray) (w : World) :
    Calls Tryz.prog 184 #[.slice a 0 c, .string sep] w fun e w' => e = .returned (.string ⟨#[]⟩) ∧ w' = w := Any.strings_Join_none Tryz.lays156 Tryz.Builder_Extra_156 a c sep w
open Go.RowKit in
/-- strings.Join: "Join concatenates the elements of its first argument to create a single string. The separator string sep is placed between elements in the resulting string.": HOWEVER MANY ELEMENTS. Below the heap's end the world is as it was. (LAID: no walk: one application.) -/
theorem Tryz.strings_Join (bk o c : Nat) (xs : List ByteArray) (sep : ByteArray) (w : World) (hcells : ∀ (j : Nat) x, xs[j]? = some x → w.cell? ⟨bk, o + j, none⟩ = some (.string x)) (hbk : bk < w.heap.size) (hN : xs.length ≤ 140737488355328) (hcap : xs.length ≤ c) (hlen : (Lib.join (xs.map (·.data.toList)) sep.data.toList).length ≤ 140737488355328) :
    Calls Tryz.prog 184 #[.slice (some ⟨bk, o, none⟩) xs.length c, .string sep] w fun e w' => e = .returned (.string ⟨(Lib.join (xs.map (·.data.toList)) sep.data.toList).toArray⟩) ∧ Below w.heap.size w w' := Any.strings_Join Tryz.lays156 Tryz.Builder_Extra_156 bk o c xs sep w hcells hbk hN hcap hlen
def Tryz.lays283_ren : Go.Shelf.Ren := ⟨fun | 283 => 279 | n => n, fun | 3 => 3 | 9 => 9 | 4 => 4 | n => n, fun | n => n⟩
theorem Tryz.lays283 : Go.Proofs.Lays.n283 Tryz.prog Tryz.lays283_ren := {
  mixed := by kernel_rfl
  f283 := Tryz.func279.trans (congrArg some (by kernel_rfl))
  t3 := Tryz.underlying3
  a3 := Tryz.isAgg3
  z3 := Tryz.sizeOf3
  v3 := Tryz.zeroValue3
  t4 := Tryz.underlying4
  a4 := Tryz.isAgg4
  z4 := Tryz.sizeOf4
  v4 := Tryz.zeroValue4
  t9 := Tryz.underlying9
  a9 := Tryz.isAgg9
  z9 := Tryz.sizeOf9
  v9 := Tryz.zeroValue9 }
open Go.Lib in
/-- internal/strconv.small: "small returns the string for an i with 0 <= i < nSmalls.": i's decimal numeral. The world is as it was. (LAID: no walk: one application.) -/
theorem Tryz.internal_strconv_small (i : Nat) (h : i < 100) (w : World) :
    Calls Tryz.prog 279 #[.int .i64 i] w fun e w' => e = .returned (.string ⟨(Lib.decDigits i).toArray⟩) ∧ w' = w := Any.internal_strconv_small Tryz.lays283 i h w
def Tryz.laysM284_ren : Go.Shelf.Ren := ⟨fun | 284 => 280 | 129 => 291 | 317 => 290 | 318 => 292 | n => n, fun | 53 => 30 | 3 => 3 | 212 => 329 | 0 => 0 | 4 => 4 | 46 => 249 | 5 => 5 | 9 => 9 | n => n, fun | 17 => 2 | n => n⟩
theorem Tryz.laysM284 : Go.Proofs.LaysM.n284 Tryz.prog Tryz.laysM284_ren := {
  mixed := by kernel_rfl
  f129 := Tryz.func291.trans (congrArg some (by kernel_rfl))
  f284 := Tryz.func280.trans (congrArg some (by kernel_rfl))
  f317 := Tryz.func290.trans (congrArg some (by kernel_rfl))
  f318 := Tryz.func292.trans (congrArg some (by kernel_rfl))
  t0 := Tryz.underlying0
  a0 := Tryz.isAgg0
  z0 := Tryz.sizeOf0
  v0 := Tryz.zeroValue0
  t3 := Tryz.underlying3
  a3 := Tryz.isAgg3
  z3 := Tryz.sizeOf3
  v3 := Tryz.zeroValue3
  t4 := Tryz.underlying4
  a4 := Tryz.isAgg4
  z4 := Tryz.sizeOf4
  v4 := Tryz.zeroValue4
  t5 := Tryz.underlying5
  a5 := Tryz.isAgg5
  z5 := Tryz.sizeOf5
  v5 := Tryz.zeroValue5
  t9 := Tryz.underlying9
  a9 := Tryz.isAgg9
  z9 := Tryz.sizeOf9
  v9 := Tryz.zeroValue9
  t46 := Tryz.underlying249
  a46 := Tryz.isAgg249
  z46 := Tryz.sizeOf249
  v46 := Tryz.zeroValue249
  t53 := Tryz.underlying30
  a53 := Tryz.isAgg30
  z53 := Tryz.sizeOf30
  v53 := Tryz.zeroValue30
  t212 := Tryz.underlying329
  a212 := Tryz.isAgg329
  z212 := Tryz.sizeOf329
  v212 := Tryz.zeroValue329
  g17 := by kernel_rfl
  i0 := by kernel_rfl
  i3 := by kernel_rfl
  i4 := by kernel_rfl
  i5 := by kernel_rfl
  i9 := by kernel_rfl
  i46 := by kernel_rfl
  i53 := by kernel_rfl
  i212 := by kernel_rfl
  m17 := by kernel_rfl }
open Go.Lib in
/-- internal/strconv.numDigits, at a d that is not 0: THE NUMBER OF d's DECIMAL DIGITS. The world is as it was. (LAID: no walk: one application.) -/
theorem Tryz.internal_strconv_numDigits (u : Nat) (h1 : 1 ≤ u) (h2 : u < 18446744073709551616) (w : World) (htab : Lib.TabIs Tryz.prog w "internal/strconv.uint64pow10" .u64 Lib.pow10Tab) :
    Calls Tryz.prog 280 #[.int .u64 u] w fun e w' => e = .returned (.int .i64 (Lib.nDigits u)) ∧ w' = w := Any.internal_strconv_numDigits Tryz.laysM284 u h1 h2 w htab
def Tryz.lays285_ren : Go.Shelf.Ren := ⟨fun | 285 => 281 | n => n, fun | 37 => 272 | 53 => 30 | 3 => 3 | 4 => 4 | 51 => 95 | 9 => 9 | 5 => 5 | 0 => 0 | n => n, fun | n => n⟩
theorem Tryz.lays285 : Go.Proofs.Lays.n285 Tryz.prog Tryz.lays285_ren := {
  mixed := by kernel_rfl
  f285 := Tryz.func281.trans (congrArg some (by kernel_rfl))
  t0 := Tryz.underlying0
  a0 := Tryz.isAgg0
  z0 := Tryz.sizeOf0
  v0 := Tryz.zeroValue0
  t3 := Tryz.underlying3
  a3 := Tryz.isAgg3
  z3 := Tryz.sizeOf3
  v3 := Tryz.zeroValue3
  t4 := Tryz.underlying4
  a4 := Tryz.isAgg4
  z4 := Tryz.sizeOf4
  v4 := Tryz.zeroValue4
  t5 := Tryz.underlying5
  a5 := Tryz.isAgg5
  z5 := Tryz.sizeOf5
  v5 := Tryz.zeroValue5
  t9 := Tryz.underlying9
  a9 := Tryz.isAgg9
  z9 := Tryz.sizeOf9
  v9 := Tryz.zeroValue9
  t37 := Tryz.underlying272
  a37 := Tryz.isAgg272
  z37 := Tryz.sizeOf272
  v37 := Tryz.zeroValue272
  t51 := Tryz.underlying95
  a51 := Tryz.isAgg95
  z51 := Tryz.sizeOf95
  v51 := Tryz.zeroValue95
  t53 := Tryz.underlying30
  a53 := Tryz.isAgg30
  z53 := Tryz.sizeOf30
  v53 := Tryz.zeroValue30 }
open Go.RowKit Go.Sort Go.Lib in
/-- internal/strconv.formatBase10: "formatBase10 formats the decimal representation of u into a. The caller is responsible for ensuring that a is big enough to hold u. If a is too big, leading zeros will be filled in as needed.": THE ROW HOLDS u's DIGITS ('FmtInv .. 0 ..': every place t holds 'dg u (len - 1 - t)'); all else is as it was but for the count of draws. (LAID: no walk: one application.) -/
theorem Tryz.internal_strconv_formatBase10 (blk off cap : Nat) (u : Nat) (d : Array UInt8) (w : World) (hH : Holds (fun (b : UInt8) => Value.int .u8 (b.toNat : Int)) w blk off d) (hu : u < 10 ^ d.size) (hu64 : u < 18446744073709551616) (hsz : d.size < 4611686018427387904) :
    Calls Tryz.prog 281 #[.slice (some ⟨blk, off, none⟩) d.size cap, .int .u64 u] w fun e w' =>
      e = .returned (.tuple #[]) ∧ ∃ (n v' : Nat) (dk : Array UInt8), w' = (putRow (fun (b : UInt8) => Value.int .u8 (b.toNat : Int)) w blk off dk).drewN n ∧ FmtInv d.size u 0 v' dk := Any.internal_strconv_formatBase10 Tryz.lays285 blk off cap u d w hH hu hu64 hsz
def Tryz.laysM171_ren : Go.Shelf.Ren := ⟨fun | 171 => 237 | 243 => 264 | 246 => 283 | 283 => 279 | 284 => 280 | 285 => 281 | 286 => 282 | 129 => 291 | 317 => 290 | 318 => 292 | 319 => 293 | 320 => 294 | 337 => 296 | 338 => 297 | n => n, fun | 3 => 3 | 9 => 9 | 2 => 2 | 4 => 4 | 171 => 318 | 0 => 0 | 53 => 30 | 37 => 272 | 5 => 5 | 173 => 321 | 212 => 329 | 51 => 95 | 20 => 20 | 213 => 330 | 46 => 249 | 232 => 332 | 233 => 333 | n => n, fun | 17 => 2 | 18 => 3 | 19 => 4 | n => n⟩
theorem Tryz.laysM171 : Go.Proofs.LaysM.n171 Tryz.prog Tryz.laysM171_ren := {
  mixed := by kernel_rfl
  f129 := Tryz.func291.trans (congrArg some (by kernel_rfl))
  f171 := Tryz.func237.trans (congrArg some (by kernel_rfl))
  f243 := Tryz.func264.trans (congrArg some (by kernel_rfl))
  f246 := Tryz.func283.trans (congrArg some (by kernel_rfl))
  f283 := Tryz.func279.trans (congrArg some (by kernel_rfl))
  f284 := Tryz.func280.trans (congrArg some (by kernel_rfl))
  f285 := Tryz.func281.trans (congrArg some (by kernel_rfl))
  f286 := Tryz.func282.trans (congrArg some (by kernel_rfl))
  f317 := Tryz.func290.trans (congrArg some (by kernel_rfl))
  f318 := Tryz.func292.trans (congrArg some (by kernel_rfl))
  f319 := Tryz.func293.trans (congrArg some (by kernel_rfl))
  f320 := Tryz.func294.trans (congrArg some (by kernel_rfl))
  f337 := Tryz.func296.trans (congrArg some (by kernel_rfl))
  f338 := Tryz.func297.trans (congrArg some (by kernel_rfl))
  t0 := Tryz.underlying0
  a0 := Tryz.isAgg0
  z0 := Tryz.sizeOf0
  v0 := Tryz.zeroValue0
  t2 := Tryz.underlying2
  a2 := Tryz.isAgg2
  z2 := Tryz.sizeOf2
  v2 := Tryz.zeroValue2
  t3 := Tryz.underlying3
  a3 := Tryz.isAgg3
  z3 := Tryz.sizeOf3
  v3 := Tryz.zeroValue3
  t4 := Tryz.underlying4
  a4 := Tryz.isAgg4
  z4 := Tryz.sizeOf4
  v4 := Tryz.zeroValue4
  t5 := Tryz.underlying5
  a5 := Tryz.isAgg5
  z5 := Tryz.sizeOf5
  v5 := Tryz.zeroValue5
  t9 := Tryz.underlying9
  a9 := Tryz.isAgg9
  z9 := Tryz.sizeOf9
  v9 := Tryz.zeroValue9
  t20 := Tryz.underlying20
  a20 := Tryz.isAgg20
  z20 := Tryz.sizeOf20
  v20 := Tryz.zeroValue20
  t37 := Tryz.underlying272
  a37 := Tryz.isAgg272
  z37 := Tryz.sizeOf272
  v37 := Tryz.zeroValue272
  t46 := Tryz.underlying249
  a46 := Tryz.isAgg249
  z46 := Tryz.sizeOf249
  v46 := Tryz.zeroValue249
  t51 := Tryz.underlying95
  a51 := Tryz.isAgg95
  z51 := Tryz.sizeOf95
  v51 := Tryz.zeroValue95
  t53 := Tryz.underlying30
  a53 := Tryz.isAgg30
  z53 := Tryz.sizeOf30
  v53 := Tryz.zeroValue30
  t171 := Tryz.underlying318
  a171 := Tryz.isAgg318
  z171 := Tryz.sizeOf318
  v171 := Tryz.zeroValue318
  t173 := Tryz.underlying321
  a173 := Tryz.isAgg321
  z173 := Tryz.sizeOf321
  v173 := Tryz.zeroValue321
  t212 := Tryz.underlying329
  a212 := Tryz.isAgg329
  z212 := Tryz.sizeOf329
  v212 := Tryz.zeroValue329
  t213 := Tryz.underlying330
  a213 := Tryz.isAgg330
  z213 := Tryz.sizeOf330
  t232 := Tryz.underlying332
  a232 := Tryz.isAgg332
  z232 := Tryz.sizeOf332
  v232 := Tryz.zeroValue332
  t233 := Tryz.underlying333
  a233 := Tryz.isAgg333
  z233 := Tryz.sizeOf333
  v233 := Tryz.zeroValue333
  g17 := by kernel_rfl
  g18 := by kernel_rfl
  g19 := by kernel_rfl
  i0 := by kernel_rfl
  i2 := by kernel_rfl
  i3 := by kernel_rfl
  i4 := by kernel_rfl
  i5 := by kernel_rfl
  i9 := by kernel_rfl
  i20 := by kernel_rfl
  i37 := by kernel_rfl
  i46 := by kernel_rfl
  i51 := by kernel_rfl
  i53 := by kernel_rfl
  i171 := by kernel_rfl
  i173 := by kernel_rfl
  i212 := by kernel_rfl
  i232 := by kernel_rfl
  i233 := by kernel_rfl
  m17 := by kernel_rfl
  m18 := by kernel_rfl
  m19 := by kernel_rfl }
open Go.RowKit Go.Sort Go.Lib in
/-- strconv.Itoa: "Itoa is equivalent to FormatInt(int64(i), 10).": i's DECIMAL NUMERAL ('Lib.itoa': a '-' where i is negative, then the digits), FOR EVERY int. The world behind the call: the world before it, new blocks behind the heap (the library's 'var a [24]byte'), draws. (LAID: no walk: one application.) -/
theorem Tryz.strconv_Itoa (n : Int) (h0 : -9223372036854775808 ≤ n) (h1 : n ≤ 9223372036854775807) (w : World) (htab : Lib.TabIs Tryz.prog w "internal/strconv.uint64pow10" .u64 Lib.pow10Tab) :
    Calls Tryz.prog 237 #[.int .i64 n] w fun e w' => e = .returned (.string ⟨(Lib.itoa n).toArray⟩) ∧ ∃ k os, w' = grow (w.drewN k) os := Any.strconv_Itoa Tryz.laysM171 n h0 h1 w htab
def Tryz.lays105_ren : Go.Shelf.Ren := ⟨fun | 105 => 238 | 212 => 265 | 99 => 266 | 165 => 230 | 166 => 231 | 170 => 267 | 169 => 232 | 263 => 284 | 264 => 222 | 206 => 285 | 240 => 261 | 241 => 262 | 276 => 277 | 277 => 278 | n => n, fun | 9 => 9 | 3 => 3 | 4 => 4 | 20 => 20 | 0 => 0 | 46 => 249 | 109 => 305 | 5 => 5 | 72 => 274 | 76 => 278 | 51 => 95 | 146 => 294 | 53 => 30 | 148 => 260 | 70 => 271 | 37 => 272 | 75 => 277 | 127 => 304 | 164 => 315 | 80 => 280 | n => n, fun | n => n⟩
theorem Tryz.lays105 : Go.Proofs.Lays.n105 Tryz.prog Tryz.lays105_ren := {
  mixed := by kernel_rfl
  f99 := Tryz.func266.trans (congrArg some (by kernel_rfl))
  f105 := Tryz.func238.trans (congrArg some (by kernel_rfl))
  f165 := Tryz.func230.trans (congrArg some (by kernel_rfl))
  f166 := Tryz.func231.trans (congrArg some (by kernel_rfl))
  f169 := Tryz.func232.trans (congrArg some (by kernel_rfl))
  f170 := Tryz.func267.trans (congrArg some (by kernel_rfl))
  f206 := Tryz.func285.trans (congrArg some (by kernel_rfl))
  f212 := Tryz.func265.trans (congrArg some (by kernel_rfl))
  f240 := Tryz.func261.trans (congrArg some (by kernel_rfl))
  f241 := Tryz.func262.trans (congrArg some (by kernel_rfl))
  f263 := Tryz.func284.trans (congrArg some (by kernel_rfl))
  f264 := Tryz.func222.trans (congrArg some (by kernel_rfl))
  f276 := Tryz.func277.trans (congrArg some (by kernel_rfl))
  f277 := Tryz.func278.trans (congrArg some (by kernel_rfl))
  t0 := Tryz.underlying0
  a0 := Tryz.isAgg0
  z0 := Tryz.sizeOf0
  v0 := Tryz.zeroValue0
  t3 := Tryz.underlying3
  a3 := Tryz.isAgg3
  z3 := Tryz.sizeOf3
  v3 := Tryz.zeroValue3
  t4 := Tryz.underlying4
  a4 := Tryz.isAgg4
  z4 := Tryz.sizeOf4
  v4 := Tryz.zeroValue4
  t5 := Tryz.underlying5
  a5 := Tryz.isAgg5
  z5 := Tryz.sizeOf5
  v5 := Tryz.zeroValue5
  t9 := Tryz.underlying9
  a9 := Tryz.isAgg9
  z9 := Tryz.sizeOf9
  v9 := Tryz.zeroValue9
  t20 := Tryz.underlying20
  a20 := Tryz.isAgg20
  z20 := Tryz.sizeOf20
  v20 := Tryz.zeroValue20
  t37 := Tryz.underlying272
  a37 := Tryz.isAgg272
  z37 := Tryz.sizeOf272
  v37 := Tryz.zeroValue272
  t46 := Tryz.underlying249
  a46 := Tryz.isAgg249
  z46 := Tryz.sizeOf249
  v46 := Tryz.zeroValue249
  t51 := Tryz.underlying95
  a51 := Tryz.isAgg95
  z51 := Tryz.sizeOf95
  v51 := Tryz.zeroValue95
  t53 := Tryz.underlying30
  a53 := Tryz.isAgg30
  z53 := Tryz.sizeOf30
  v53 := Tryz.zeroValue30
  t70 := Tryz.underlying271
  a70 := Tryz.isAgg271
  z70 := Tryz.sizeOf271
  v70 := Tryz.zeroValue271
  t72 := Tryz.underlying274
  a72 := Tryz.isAgg274
  z72 := Tryz.sizeOf274
  v72 := Tryz.zeroValue274
  t75 := Tryz.underlying277
  a75 := Tryz.isAgg277
  z75 := Tryz.sizeOf277
  v75 := Tryz.zeroValue277
  t76 := Tryz.underlying278
  a76 := Tryz.isAgg278
  z76 := Tryz.sizeOf278
  v76 := Tryz.zeroValue278
  t109 := Tryz.underlying305
  a109 := Tryz.isAgg305
  z109 := Tryz.sizeOf305
  v109 := Tryz.zeroValue305
  t127 := Tryz.underlying304
  a127 := Tryz.isAgg304
  z127 := Tryz.sizeOf304
  v127 := Tryz.zeroValue304
  t146 := Tryz.underlying294
  a146 := Tryz.isAgg294
  z146 := Tryz.sizeOf294
  v146 := Tryz.zeroValue294
  t148 := Tryz.underlying260
  a148 := Tryz.isAgg260
  z148 := Tryz.sizeOf260
  v148 := Tryz.zeroValue260
  t164 := Tryz.underlying315
  a164 := Tryz.isAgg315
  z164 := Tryz.sizeOf315
  v164 := Tryz.zeroValue315 }
theorem Tryz.Builder_Extra_105 : Builder.Extra Tryz.prog Tryz.lays105_ren := {
  sizeBuilder := by kernel_rfl
  liesBuilder := by kernel_rfl
  t5 := Tryz.underlying5
  a5 := Tryz.isAgg5
  z5 := Tryz.sizeOf5
  v5 := Tryz.zeroValue5
  infoByte := by kernel_rfl
  cellsByte := by kernel_rfl
  sizeByte := by kernel_rfl
  neB5 := by decide }
open Go.RowKit Go.Lib in
/-- **strings.Repeat: count ≥ 0, the result within one allocation: count copies of s.** (LAID: no walk: one application.) -/
theorem Tryz.strings_Repeat (s : ByteArray) (c : Nat) (w : World) (hc : c ≤ 9223372036854775807) (hlen : s.size * c ≤ 140737488355328) :
    Calls Tryz.prog 238 #[.string s, .int .i64 c] w fun e w' => e = .returned (.string ⟨(Lib.repeatL s.data.toList c).toArray⟩) ∧ Below w.heap.size w w' := Any.strings_Repeat Tryz.lays105 Tryz.Builder_Extra_105 s c w hc hlen
end Go.Proofs

namespace Go.Proofs.YtkpfineikahgfaaGreatDoor
open Go.Sx
set_option linter.unusedSimpArgs false
set_option linter.unusedVariables false
set_option maxRecDepth 100000
set_option maxHeartbeats 4000000

/-- The decimal text of a number. -/
def decF : Nat → Nat → List UInt8
  | 0, _ => []
  | f + 1, n => if n < 10 then [UInt8.ofNat (48 + n)] else decF f (n / 10) ++ [UInt8.ofNat (48 + n % 10)]
theorem decF_eq : ∀ f n, n < f → decF f n = Lib.decDigits n
  | 0, n, h => by omega
  | f + 1, n, h => by
    rw [decF, Lib.decDigits]
    by_cases h1 : n < 10
    · rw [if_pos h1, dif_pos h1]
    · rw [if_neg h1, dif_neg h1, decF_eq f (n / 10) (by omega)]
def tN (n : Nat) : ByteArray := ⟨(decF (n + 1) n).toArray⟩
theorem tN_eq (n : Nat) : tN n = ⟨(Lib.decDigits n).toArray⟩ := by rw [tN, decF_eq _ _ (Nat.lt_succ_self n)]
def tZ (z : Int) : ByteArray := if z < 0 then "-".toUTF8 ++ tN z.natAbs else tN z.natAbs
def tQ (q : Rat) : ByteArray := if q.den = 1 then tZ q.num else tZ q.num ++ "/".toUTF8 ++ tN q.den

theorem t_small (i : Nat) (h : i < 100) : CallOK Tryz.prog 279 [.val (.int .i64 (i : Nat))] [] (.val (.string (tN i))) [] [] :=
  call_vals' (vs := [.int .i64 (i : Nat)]) ⟨Tryz.f279, Tryz.func279, rfl, by kernel_rfl⟩ rfl (fun w => by rw [tN_eq]; exact Tryz.internal_strconv_small i h w)

theorem t_iFormat (n : Nat) (h : n < 100) : CallOK Tryz.prog 263 [.val (.int .u64 (n : Nat)), .val (.int .i64 10)] [] (.val (.string (tN n))) [] [] := by
  have k1 := t_small n h
  have t1 : decide ((n : Int) < 100) = true := decide_eq_true (by omega)
  have t2 : IntKind.i64.wrap (n : Int) = n := wrap_i64 (by omega) (by omega)
  refine callV (Z := []) tabOK mixedOK Tryz.func263 rfl (by kernel_rfl) rfl rfl (by kernel_rfl) rfl ?_
  intro W0 w0 ρ0 hE
  conv => whnf
  (repeat ((first | refine step_w1 rfl rfl ?_ | refine g_c (by assumption) ?_ | rw [beq_self_eq_true] | rw [t1] | rw [t2]); conv => whnf)); (first | exact Recast.refl _ | exact Frz.recast (Recast.refl _) rfl | (refine Frz.one rfl rfl ?_; skip) | (refine Frz.tup ?_; skip))
theorem t_Format (n : Nat) (h : n < 100) : CallOK Tryz.prog 236 [.val (.int .u64 (n : Nat)), .val (.int .i64 10)] [] (.val (.string (tN n))) [] [] := by
  have k1 := t_iFormat n h
  refine callV (Z := []) tabOK mixedOK Tryz.func236 rfl (by kernel_rfl) rfl rfl (by kernel_rfl) rfl ?_
  intro W0 w0 ρ0 hE
  conv => whnf
  (repeat (first | (refine g_c (by assumption) ?_; conv => whnf))); (first | exact Recast.refl _ | exact Frz.recast (Recast.refl _) rfl | (refine Frz.one rfl rfl ?_; skip) | (refine Frz.tup ?_; skip))
/-- The text of a vector. -/
def tV (a : List Rat) : ByteArray := "[".toUTF8 ++ ⟨(Lib.join ((a.map tQ).map (·.data.toList)) [32]).toArray⟩ ++ "]".toUTF8

theorem t_Join (ss : List ByteArray) (hN : ss.length ≤ 1099511627776) (hlen : (Lib.join (ss.map (·.data.toList)) [32]).length ≤ 140737488355328) :
    CallOK Tryz.prog 184 [mvec 1 sel ss, .val (.string ⟨#[32]⟩)] [] (.val (.string ⟨(Lib.join (ss.map (·.data.toList)) [32]).toArray⟩)) [] [] := by
  refine call_strs ⟨Tryz.f184, Tryz.func184, rfl, by kernel_rfl⟩ rfl ?_ ?_
  · rintro rfl a w
    exact Tryz.strings_Join_none a 0 ⟨#[32]⟩ w
  · intro bk o c w hc hb hcap
    exact Tryz.strings_Join bk o c ss ⟨#[32]⟩ w hc hb (by omega) hcap hlen

end Go.Proofs.YtkpfineikahgfaaGreatDoor

namespace Go.Proofs.YtkpfineikahgfaaGreatDoor
open Go.Sx
set_option linter.unusedSimpArgs false
set_option linter.unusedVariables false
set_option maxRecDepth 100000
set_option maxHeartbeats 4000000

/-- A fraction as plain data, its value. -/
abbrev qA : Int × Int → SV := ag2 (iel .i64) (iel .u32)
def qV (q : Int × Int) : Rat := (q.1 : Rat) / ((if q.2 < 1 then 1 else q.2 : Int) : Rat)
/-- Its bounds. -/
def qOK (q : Int × Int) : Prop := (-9223372036854775808 ≤ q.1 ∧ q.1 < 9223372036854775808) ∧ (0 ≤ q.2 ∧ q.2 < 4294967296)

theorem c_QOf (q : Int × Int) (h : qOK q) : CallOK Tryz.prog 86 [qA q] [] (.frac (qV q)) [] [] := by
  have hd : (if q.2 < 1 then 1 else q.2) ≠ 0 := by have := h.2; split <;> omega
  have e1 : (if (1 : Int) > q.2 then 1 else q.2) = (if q.2 < 1 then 1 else q.2) := rfl
  have e2 : IntKind.i64.wrap (if (1 : Int) > q.2 then 1 else q.2) = (if q.2 < 1 then 1 else q.2) := wrap_i64 (by have := h.2; split <;> omega) (by have := h.2; split <;> omega)
  have g2 := fs_int h.1.1 h.1.2
  have g3 : fs ((if q.2 < 1 then 1 else q.2 : Int) : Rat) ≤ 65 := fs_int (by have := h.2; split <;> omega) (by have := h.2; split <;> omega)
  have k1 := c_fOf natBig q.1 (if q.2 < 1 then 1 else q.2) (by unfold fs at g2 g3; omega) h.1.1 h.1.2 (by have := h.2; split <;> omega) (by have := h.2; split <;> omega) hd
  refine callV (Z := []) tabOK mixedOK Tryz.func86 rfl (by kernel_rfl) rfl rfl (by kernel_rfl) rfl ?_
  intro W0 w0 ρ0 hE
  conv => whnf
  (repeat (first | (refine g_c (by assumption) ?_; conv => whnf) | (rw [e2]; conv => whnf))); (first | exact Recast.refl _ | exact Frz.recast (Recast.refl _) rfl | (refine Frz.one rfl rfl ?_; skip) | (refine Frz.tup ?_; skip))

theorem app_snoc {α : Type} {l : List α} {i : Nat} {d : α} (h : i < l.length) : (l.take i).take i ++ (([l.getD i d] : List α).drop 0).take 1 = l.take (i + 1) := by
  have e : l.take (i + 1) = l.take i ++ [l.getD i d] := by rw [List.take_add_one, List.getD_eq_getElem?_getD, List.getElem?_eq_getElem h]; rfl
  rw [List.take_take, Nat.min_self, e]; rfl

theorem c_V (l : List (Int × Int)) (hl : l.length < 1048576) (h : ∀ q ∈ l, qOK q) : CallOK Tryz.prog 17 [mvec 2 qA l] [] (fvec (l.map qV)) [] [] := by
  have hz : (l.map qV).length = l.length := by simp
  refine callF (Z := []) tabOK mixedOK Tryz.func17 rfl (by kernel_rfl) (by first | rfl | (simp [keylessL, keyless, keylessL_map, *]; done)) (by first | rfl | (simp [keylessL, keyless, keylessL_map, *]; done)) (by kernel_rfl) rfl ?_
  intro w0 ρ0 hE
  conv => whnf
  skip
  refine SWx_adopt (t := 3) (k := 2001) (s := 5) (blk := ⟨38, true, .fracs []⟩) rfl rfl rfl ?_
  refine SW_loopN hE (fun k => k) [0, 2, 3, 4] [2001] (fun m fr hp => ∃ i, m = l.length - i ∧ i ≤ l.length ∧ fr = [(0, mvec 2 qA l), (2, .val (.slice none 0 0)), (3, .slc 2001 5 0 i), (4, .val (.int .i64 (i : Nat)))] ∧ hp = [(2001, ⟨38, true, .fracs ((l.map qV).take i)⟩)]) l.length ?_ ?_ ?_
  · kernel_rfl
  · exact ⟨0, rfl, Nat.zero_le _, rfl, rfl⟩
  rintro m _ _ ⟨i, rfl, hi, rfl, rfl⟩
  have hlen : ((l.map qV).take i).length = i := by simp; omega
  conv => whnf
  by_cases hlt : i < l.length
  · have t1 := dlt hlt
    have t2 := winc (i := i) (by omega)
    have k1 := c_QOf (l.getD i (0, 0)) (h _ (getD_mem hlt))
    rw [← map_get (f := qV) (e := 0) hlt] at k1
    (repeat ((first | refine step_w1 rfl rfl ?_ | refine And.intro (by first | decide | omega | (simp only [tiB5, tiB95, tiB3, tiB2, tiB9, tiB38, tiB74, tiB25, tiB41, tiB36, tiB30, tiB4, tiB70, tiB72, tiB164, tiB27, tiB62, tiB32, dlen, List.length_replicate, List.length_set, List.length_map, List.length_zipWith, List.length_take, List.length_append, List.length_cons, List.length_nil]; omega)) ?_ | refine g_c (by assumption) ?_ | refine g_o (op_lenM rfl rfl rfl (ev_ok rfl) (tgt rfl) rfl) ?_ | refine g_o (op_loadA rfl (ev_ok rfl) (tgt rfl) rfl (Nat.succ_ne_zero _) rfl) ?_ | refine g_o (op_indexN (α := Int × Int) (d := (0, 0)) rfl (ev_ok rfl) (ev_ok rfl) (tgt rfl) rfl (tgt rfl) rfl (by omega)) ?_ | rw [t1] | rw [t2]); conv => whnf))
    refine ⟨l.length - (i + 1), renBy [(18, 2001)], [0, 2, 3, 4], [18], by omega, by kernel_rfl, i + 1, rfl, hlt, rfl, ?_⟩
    rw [← app_snoc (d := 0) (show i < (l.map qV).length by rw [hz]; exact hlt)]
    rfl
  · have t1 := dge hlt
    have hI : i = l.length := by omega
    subst hI
    rw [List.take_of_length_le (by simp)]
    (repeat (first | (refine step_w2 rfl rfl ?_; conv => whnf) | (refine g_o (op_lenM rfl rfl rfl (ev_ok rfl) (tgt rfl) rfl) ?_; conv => whnf) | (rw [t1]; conv => whnf))); (first | exact Recast.refl _ | exact Frz.recast (Recast.refl _) rfl | (refine Frz.one rfl rfl ?_; (repeat (first | (refine FrzC.fracs rfl ?_; (first | rfl | omega | (simp <;> fail) | (simp <;> omega)))))) | (refine Frz.tup ?_; skip))
end Go.Proofs.YtkpfineikahgfaaGreatDoor

namespace Go.Proofs.YtkpfineikahgfaaGreatDoor
open Go.Sx
set_option linter.unusedSimpArgs false
set_option linter.unusedVariables false

/-- The sum of a function's values below n. -/
def sumR : Nat → (Nat → Rat) → Rat
  | 0, _ => 0
  | n + 1, f => sumR n f + f n

theorem foldl_sum (l : List Rat) : ∀ n, n ≤ l.length → (l.take n).foldl (· + ·) 0 = sumR n (fun i => l.getD i 0)
  | 0, _ => rfl
  | n + 1, h => by rw [foldl_take l n (by omega), foldl_sum l n (by omega), sumR]

theorem vdot_sum {a b : List Rat} {n : Nat} (ha : a.length = n) (hb : b.length = n) : vdot a b = sumR n (fun i => a.getD i 0 * b.getD i 0) := by
  have hz : (vmul a b).length = n := zip_len ha hb
  have h1 := foldl_sum (vmul a b) n (by omega)
  rw [List.take_of_length_le (by omega)] at h1
  rw [vdot, h1]
  clear h1
  have key : ∀ m, m ≤ n → sumR m (fun i => (vmul a b).getD i 0) = sumR m (fun i => a.getD i 0 * b.getD i 0) := by
    intro m
    induction m with
    | zero => intro _; rfl
    | succ m ih => intro h; rw [sumR, sumR, ih (by omega), zip_get (d1 := 0) (d2 := 0) (by omega) (by omega)]
  exact key n (Nat.le_refl _)

section
variable (x y : Nat → Rat)
end

theorem sum_congr {f g : Nat → Rat} : ∀ n, (∀ i, i < n → f i = g i) → sumR n f = sumR n g
  | 0, _ => rfl
  | n + 1, h => by rw [sumR, sumR, sum_congr n (fun i hi => h i (by omega)), h n (by omega)]
end Go.Proofs.YtkpfineikahgfaaGreatDoor

namespace Go.Proofs.YtkpfineikahgfaaGreatDoor
open Go.Sx
set_option linter.unusedSimpArgs false
set_option linter.unusedVariables false
set_option maxRecDepth 100000
set_option maxHeartbeats 4000000

end Go.Proofs.YtkpfineikahgfaaGreatDoor

namespace Go.Proofs.YtkpfineikahgfaaGreatDoor
open Go.Sx
set_option linter.unusedSimpArgs false
set_option linter.unusedVariables false
set_option maxRecDepth 100000
set_option maxHeartbeats 4000000

/-- All elements have at most B bits. -/
def Sm (B : Nat) (l : List Rat) : Prop := ∀ i, i < l.length → fs (l.getD i 0) ≤ B
theorem Sm_zip {op : Rat → Rat → Rat} {a b : List Rat} {A B : Nat} (hop : ∀ x y, fs (op x y) ≤ fs x + fs y) (ha : Sm A a) (hb : Sm B b) (hab : a.length = b.length) : Sm (A + B) (List.zipWith op a b) := by
  intro i hi
  rw [List.length_zipWith] at hi
  rw [zip_get (d1 := 0) (d2 := 0) (by omega) (by omega)]
  have h1 := hop (a.getD i 0) (b.getD i 0)
  have h2 := ha i (by omega)
  have h3 := hb i (by omega)
  omega
theorem fsL_Sm : ∀ {l : List Rat} {B : Nat}, Sm B l → fsL l ≤ l.length * B
  | [], _, _ => by simp [fsL]
  | q :: l, B, h => by
    have h1 := h 0 (by simp)
    have h2 := fsL_Sm (l := l) (B := B) (fun i hi => h (i + 1) (by simpa using hi))
    have e : fsL (q :: l) = fs q + fsL l := by simp [fsL]
    rw [e, List.length_cons, Nat.succ_mul]
    have : fs q ≤ B := h1
    omega
theorem Fit_Sm {a b : List Rat} {A B : Nat} (ha : Sm A a) (hb : Sm B b) (hab : a.length = b.length) (h : A + B ≤ 1073741824) : Fit a b := by
  intro i hi
  have h1 := ha i hi
  have h2 := hb i (by omega)
  omega
theorem fs_vdot {a b : List Rat} {A B n : Nat} (ha : Sm A a) (hb : Sm B b) (h1 : a.length = n) (h2 : b.length = n) : fs (vdot a b) ≤ 2 + n * (A + B) := by
  have h := fsL_Sm (Sm_zip fs_mul ha hb (h1.trans h2.symm))
  rw [zip_len h1 h2] at h
  have h3 := fs_sum (vmul a b) 0
  rw [fs_zero] at h3
  unfold vdot
  exact Nat.le_trans h3 (Nat.add_le_add_left h 2)
/-- Bounds of plain data. -/
abbrev QWf (l : List (Int × Int)) : Prop := l.length ≤ maxLen ∧ ∀ x ∈ l, ((Lit.int .i64 x.1).wf = true) ∧ ((Lit.int .u32 x.2).wf = true)
theorem qOK_of {l : List (Int × Int)} (w : l.length ≤ maxLen ∧ ∀ x ∈ l, ((Lit.int .i64 x.1).wf = true) ∧ ((Lit.int .u32 x.2).wf = true)) : ∀ q ∈ l, qOK q := fun q hq => ⟨wf_i64 (w.2 q hq).1, wf_u32 (w.2 q hq).2⟩
theorem Sm_zero (n : Nat) : Sm 2 (List.replicate n 0) := by
  intro i hi
  rw [List.length_replicate] at hi
  simp [List.getD_eq_getElem?_getD, hi, fs_zero]

section
variable {a b z : List Rat} {n i : Nat} {c : Rat}
end

end Go.Proofs.YtkpfineikahgfaaGreatDoor

namespace Go.Proofs.YtkpfineikahgfaaGreatDoor
open Go.Sx
set_option linter.unusedSimpArgs false
set_option linter.unusedVariables false
set_option maxRecDepth 100000
set_option maxHeartbeats 4000000

/-- A matrix from its elements. -/
def mk (r c : Nat) (f : Nat → Nat → Rat) : List Rat := (List.range (r * c)).map fun p => f (p / c) (p % c)
/-- An element. -/
abbrev el (a : List Rat) (c i k : Nat) : Rat := a.getD (i * c + k) 0
theorem mk_len (r c : Nat) (f : Nat → Nat → Rat) : (mk r c f).length = r * c := by simp [mk]
theorem idx_lt {r c i k : Nat} (hi : i < r) (hk : k < c) : i * c + k < r * c := by
  have := Nat.mul_le_mul_right c (show i + 1 ≤ r from hi)
  rw [Nat.succ_mul] at this; omega
theorem idx_div {c i k : Nat} (hk : k < c) : (i * c + k) / c = i := by
  rw [Nat.mul_comm, Nat.mul_add_div (by omega), Nat.div_eq_of_lt hk, Nat.add_zero]
theorem idx_mod {c i k : Nat} (hk : k < c) : (i * c + k) % c = k := by
  rw [Nat.mul_comm, Nat.mul_add_mod, Nat.mod_eq_of_lt hk]
theorem mk_at {r c : Nat} {f : Nat → Nat → Rat} {p : Nat} (hp : p < r * c) : (mk r c f).getD p 0 = f (p / c) (p % c) := by
  simp [mk, List.getD_eq_getElem?_getD, hp]
theorem mk_el {r c i k : Nat} {f : Nat → Nat → Rat} (hi : i < r) (hk : k < c) : el (mk r c f) c i k = f i k := by
  rw [el, mk_at (idx_lt hi hk), idx_div hk, idx_mod hk]
theorem idx_split {r c p : Nat} (hp : p < r * c) : p / c < r ∧ p % c < c ∧ p / c * c + p % c = p := by
  have hc : 0 < c := by rcases Nat.eq_zero_or_pos c with h | h
                        · subst h; omega
                        · exact h
  refine ⟨(Nat.div_lt_iff_lt_mul hc).2 hp, Nat.mod_lt _ hc, ?_⟩
  rw [Nat.mul_comm]; exact Nat.div_add_mod p c
theorem el_sm {a : List Rat} {r c B i k : Nat} (h : Sm B a) (ha : a.length = r * c) (hi : i < r) (hk : k < c) : fs (el a c i k) ≤ B := h _ (by rw [ha]; exact idx_lt hi hk)

/-- The identity's elements. -/
def delta (i k : Nat) : Rat := if i = k then 1 else 0
abbrev mmul (r s t : Nat) (a b : List Rat) : List Rat := mk r t fun i k => sumR s fun p => el a s i p * el b t p k
abbrev mturn (r c : Nat) (a : List Rat) : List Rat := mk c r fun i k => el a c k i
abbrev mone (n : Nat) : List Rat := mk n n delta
abbrev mapply (r c : Nat) (a v : List Rat) : List Rat := (List.range r).map fun i => sumR c fun p => el a c i p * v.getD p 0
theorem mapply_len {r c : Nat} {a v : List Rat} : (mapply r c a v).length = r := by simp
theorem mapply_get {r c i : Nat} {a v : List Rat} (hi : i < r) : (mapply r c a v).getD i 0 = sumR c fun p => el a c i p * v.getD p 0 := by
  simp [List.getD_eq_getElem?_getD, hi]
end Go.Proofs.YtkpfineikahgfaaGreatDoor

namespace Go.Proofs.YtkpfineikahgfaaGreatDoor
open Go.Sx
set_option linter.unusedSimpArgs false
set_option linter.unusedVariables false
set_option maxRecDepth 100000
set_option maxHeartbeats 4000000

/-- The form of a matrix. -/
abbrev mform (r c : Nat) (a v w : List Rat) : Rat := vdot v (mapply r c a w)
end Go.Proofs.YtkpfineikahgfaaGreatDoor

namespace Go.Proofs.YtkpfineikahgfaaGreatDoor
open Go.Sx
set_option linter.unusedSimpArgs false
set_option linter.unusedVariables false
section
open Go.Shelf Go.RowKit Go.Sort Go.Lib

set_option maxHeartbeats 6400000 in
set_option maxRecDepth 100000 in
/-- internal/strconv.FormatUint at base 10, from 100 on. -/
theorem fmt_big (u : Nat) (hu : 100 ≤ u) (hu64 : u < 18446744073709551616) (w : World) (htab : Lib.TabIs Tryz.prog w "internal/strconv.uint64pow10" .u64 Lib.pow10Tab) :
    Calls Tryz.prog 263 #[.int .u64 u, .int .i64 10] w fun e w' => e = .returned (.string ⟨(Lib.decDigits u).toArray⟩) ∧ ∃ k os, w' = grow (w.drewN k) os := by
  have mixed : Tryz.prog.follows .mixedOrders = true := by kernel_rfl
  have t3 := Tryz.underlying3; have a3 := Tryz.isAgg3; have z3 := Tryz.sizeOf3; have v3 := Tryz.zeroValue3
  have t9 := Tryz.underlying9; have a9 := Tryz.isAgg9; have z9 := Tryz.sizeOf9; have v9 := Tryz.zeroValue9
  have t4 := Tryz.underlying4; have a4 := Tryz.isAgg4; have z4 := Tryz.sizeOf4; have v4 := Tryz.zeroValue4
  have t53 := Tryz.underlying30; have a53 := Tryz.isAgg30; have z53 := Tryz.sizeOf30; have v53 := Tryz.zeroValue30
  have t5 := Tryz.underlying5; have a5 := Tryz.isAgg5; have z5 := Tryz.sizeOf5; have v5 := Tryz.zeroValue5
  have t37 := Tryz.underlying272; have a37 := Tryz.isAgg272; have z37 := Tryz.sizeOf272; have v37 := Tryz.zeroValue272
  have t171 := Tryz.underlying318; have a171 := Tryz.isAgg318; have z171 := Tryz.sizeOf318; have v171 := Tryz.zeroValue318
  have t0 := Tryz.underlying0; have a0 := Tryz.isAgg0; have z0 := Tryz.sizeOf0; have v0 := Tryz.zeroValue0
  have e284 : ∀ args w, (callFunc 280 args).run Tryz.prog w = .ok (.enter 280 args) w := enters_of Tryz.func280 (by kernel_rfl) rfl
  have e285 : ∀ args w, (callFunc 281 args).run Tryz.prog w = .ok (.enter 281 args) w := enters_of Tryz.func281 (by kernel_rfl) rfl
  have hu1 : 1 ≤ u := by omega
  have hnd20 : Lib.nDigits u ≤ 20 := by have := Lib.numDigits_eq u hu1 hu64; split at this <;> omega
  have hal : Tryz.prog.arrayLen 318 = 24 := by simp [Program.arrayLen, t171]
  -- 'a[:nd]', for the walk to take
  have hsl : ∀ W, (Instr.sliceAt 318 (.pointer (some ⟨w.heap.size, 0, none⟩)) none (some (.int .i64 (Lib.nDigits u : Int))) none).run Tryz.prog W = .ok (.slice (some ⟨w.heap.size, 0, none⟩) (Lib.nDigits u) 24) W := fun W => by
    rw [run_sliceAt_array_h W 318 ⟨w.heap.size, 0, none⟩ (by simp [Program.arrayLen, Program.elem, t171]) .i64 (Lib.nDigits u : Int) (by omega) (by rw [hal]; omega)]
    go_simp
  -- formatBase10's contract at the new block's row of zeros
  have hH0 := Lib.holds_zero0 w 318 (Lib.nDigits u) (by omega)
  have hfmt := Tryz.internal_strconv_formatBase10 w.heap.size 0 24 u (Array.replicate (Lib.nDigits u) 0) (w.alloc (.cells Lib.zeros24 318)) hH0 (by rw [Array.size_replicate]; exact Lib.lt_pow_nDigits u) hu64 (by rw [Array.size_replicate]; omega)
  rw [Array.size_replicate] at hfmt
  have HH0 := Lib.hid hH0
  have iu : ¬ (u : Int) < 100 := by omega
  clear hH0 hal
  go_enter Tryz.func263, Tryz.ntmps263
  go_wp2_with (first
    | (go_at_fn 280; refine (Tryz.internal_strconv_numDigits u hu1 hu64 _ (Lib.tabIs_alloc htab _)).mono ?_; rintro e w' ⟨rfl, rfl⟩))
  go_at_fn 281
  refine hfmt.mono ?_
  rintro e w' ⟨rfl, k, v', dk, rfl, hF⟩
  -- 'string(a[:nd])', for the walk to take: the row reads as the numeral
  have hcv : (convert 272 9 (.slice (some ⟨w.heap.size, 0, none⟩) (Lib.nDigits u) 24)).run Tryz.prog ((putRow (fun (b : UInt8) => Value.int .u8 (b.toNat : Int)) (w.alloc (.cells Lib.zeros24 318)) w.heap.size 0 dk).drewN k) = .ok (.string ⟨(Lib.decDigits u).toArray⟩) ((putRow (fun (b : UInt8) => Value.int .u8 (b.toNat : Int)) (w.alloc (.cells Lib.zeros24 318)) w.heap.size 0 dk).drewN k) := by
    have h := run_convert_bytes_back (P := Tryz.prog) ((putRow (fun (b : UInt8) => Value.int .u8 (b.toNat : Int)) (w.alloc (.cells Lib.zeros24 318)) w.heap.size 0 dk).drewN k) 272 9 5 ⟨w.heap.size, 0, none⟩ 24 (Lib.decDigits u) t37 t5 t9 (fun j hj => by
      rw [Lib.row_is_numeral hF j hj, Lib.add_plain, World.cell?_drewN]
      exact cell?_putRow (fun (b : UInt8) => Value.int .u8 (b.toNat : Int)) _ w.heap.size 0 _ dk HH0.out (by rw [hF.size, Array.size_replicate]) j (by rw [hF.size]; rw [Lib.decDigits_length] at hj; exact hj))
    rw [Lib.decDigits_length] at h
    exact h
  go_wp2
  go_ret
  obtain ⟨os, eo⟩ := Lib.fin_at w (.cells Lib.zeros24 318) dk k 0
  exact ⟨rfl, k, os, eo⟩
end
end Go.Proofs.YtkpfineikahgfaaGreatDoor

namespace Go.Proofs.YtkpfineikahgfaaGreatDoor
open Go.Sx
set_option linter.unusedSimpArgs false
set_option linter.unusedVariables false
set_option maxRecDepth 100000
set_option maxHeartbeats 4000000

def padF : Nat → Nat → List UInt8
  | 0, _ => []
  | k + 1, r => padF k (r / 10) ++ [UInt8.ofNat (48 + r % 10)]
theorem dec_big {n : Nat} (h : 10 ≤ n) : Lib.decDigits n = Lib.decDigits (n / 10) ++ [UInt8.ofNat (48 + n % 10)] := by rw [Lib.decDigits, dif_neg (by omega)]
theorem dec_lt {n : Nat} (h : n < 10) : Lib.decDigits n = [UInt8.ofNat (48 + n)] := by rw [Lib.decDigits, dif_pos h]
theorem dec_split : ∀ k q r, 0 < q → r < 10 ^ k → Lib.decDigits (q * 10 ^ k + r) = Lib.decDigits q ++ padF k r
  | 0, q, r, hq, hr => by
    obtain rfl : r = 0 := by simp at hr; exact hr
    simp [padF]
  | k + 1, q, r, hq, hr => by
    have hp : 0 < 10 ^ k := Nat.pow_pos (by decide)
    have e : q * 10 ^ (k + 1) = 10 * (q * 10 ^ k) := by rw [Nat.pow_succ, ← Nat.mul_assoc, Nat.mul_comm]
    have hqp : 0 < q * 10 ^ k := Nat.mul_pos hq hp
    rw [Nat.pow_succ] at hr
    rw [dec_big (by omega), show (q * 10 ^ (k + 1) + r) / 10 = q * 10 ^ k + r / 10 by omega, show (q * 10 ^ (k + 1) + r) % 10 = r % 10 by omega, dec_split k q (r / 10) hq (by omega), padF, List.append_assoc]
theorem pad_zero : ∀ k, padF k 0 = List.replicate k 48
  | 0 => rfl
  | k + 1 => by rw [padF, Nat.zero_div, pad_zero k, List.replicate_succ']; rfl
theorem pad_dec : ∀ k r, r < 10 ^ k → 0 < k → padF k r = List.replicate (k - (Lib.decDigits r).length) 48 ++ Lib.decDigits r ∧ (Lib.decDigits r).length ≤ k
  | 0, r, h, h0 => by omega
  | k + 1, r, h, _ => by
    by_cases h1 : r < 10
    · rw [padF, show r / 10 = 0 by omega, pad_zero, dec_lt h1, show r % 10 = r by omega]
      exact ⟨rfl, by simp⟩
    · have hk : 0 < k := by rcases Nat.eq_zero_or_pos k with g | g
                            · subst g; simp at h; omega
                            · exact g
      rw [Nat.pow_succ] at h
      obtain ⟨h2, h3⟩ := pad_dec k (r / 10) (by omega) hk
      have e := dec_big (n := r) (by omega)
      rw [padF, h2, e, List.length_append, List.append_assoc, List.length_singleton]
      exact ⟨by rw [show k + 1 - ((Lib.decDigits (r / 10)).length + 1) = k - (Lib.decDigits (r / 10)).length by omega], by omega⟩

theorem pow_tab {ρ : Rho} {w : World} (h : ∀ b o, ρ.imm b = some o → w.heap[b]? = some o) : Lib.TabIs Tryz.prog w "internal/strconv.uint64pow10" .u64 Lib.pow10Tab := by
  obtain ⟨o, h1, _, ty, fz, rfl⟩ := ρ.glob 2 .u64 Lib.pow10Tab (by decide +kernel)
  exact tab_is (g := 2) (by kernel_rfl) (h _ _ h1)
theorem call_valsT {f : FuncId} {vs : List Value} {v : Value} (hf : FnOK Tryz.prog f) (hv : v.oneCell' = true) (h : ∀ w : World, Lib.TabIs Tryz.prog w "internal/strconv.uint64pow10" .u64 Lib.pow10Tab → Calls Tryz.prog f vs.toArray w fun e w' => e = .returned v ∧ RowKit.Below w.heap.size w w') : CallOK Tryz.prog f (vs.map .val) [] (.val v) [] [] := by
  refine .inl ⟨hf, fun ρ w z hz hp => ?_⟩
  rw [zip_vals hz]
  refine (h w (pow_tab hp.imm)).mono ?_
  rintro e w' ⟨rfl, hb⟩
  exact ⟨v, ρ, rfl, .of_below hb (has_val hv)⟩
theorem t_iFmtB (n : Nat) (h1 : 100 ≤ n) (h2 : n < 18446744073709551616) : CallOK Tryz.prog 263 [.val (.int .u64 (n : Nat)), .val (.int .i64 10)] [] (.val (.string (tN n))) [] [] :=
  call_valsT (vs := [.int .u64 (n : Nat), .int .i64 10]) ⟨Tryz.f263, Tryz.func263, rfl, by kernel_rfl⟩ rfl fun w ht => by
    rw [tN_eq]
    refine (fmt_big n h1 h2 w ht).mono ?_
    rintro e w' ⟨rfl, k, os, rfl⟩
    exact ⟨rfl, Lib.below_grow w.heap.size w (Nat.le_refl _) k os⟩
theorem t_FormatG (n : Nat) (h : n < 18446744073709551616) : CallOK Tryz.prog 236 [.val (.int .u64 (n : Nat)), .val (.int .i64 10)] [] (.val (.string (tN n))) [] [] := by
  by_cases hs : n < 100
  · exact t_Format n hs
  · have k1 := t_iFmtB n (by omega) h
    refine callV (Z := []) tabOK mixedOK Tryz.func236 rfl (by kernel_rfl) rfl rfl (by kernel_rfl) rfl ?_
    intro W0 w0 ρ0 hE
    conv => whnf
    (repeat (first | (refine g_c (by assumption) ?_; conv => whnf))); (first | exact Recast.refl _ | exact Frz.recast (Recast.refl _) rfl | (refine Frz.one rfl rfl ?_; skip) | (refine Frz.tup ?_; skip))
theorem t_Itoa (n : Nat) (h : n < 9223372036854775808) : CallOK Tryz.prog 237 [.val (.int .i64 (n : Nat))] [] (.val (.string (tN n))) [] [] :=
  call_valsT (vs := [.int .i64 (n : Nat)]) ⟨Tryz.f237, Tryz.func237, rfl, by kernel_rfl⟩ rfl fun w ht => by
    rw [tN_eq]
    refine (Tryz.strconv_Itoa n (by omega) (by omega) w ht).mono ?_
    rintro e w' ⟨rfl, k, os, rfl⟩
    refine ⟨?_, Lib.below_grow w.heap.size w (Nat.le_refl _) k os⟩
    rw [Lib.itoa_nonneg]
theorem t_Repeat (c : Nat) (hc : c ≤ 100) : CallOK Tryz.prog 238 [.val (.string ⟨#[48]⟩), .val (.int .i64 (c : Nat))] [] (.val (.string ⟨(List.replicate c 48).toArray⟩)) [] [] :=
  call_vals (vs := [.string ⟨#[48]⟩, .int .i64 (c : Nat)]) ⟨Tryz.f238, Tryz.func238, rfl, by kernel_rfl⟩ rfl fun w => by
    have e : ∀ c, Lib.repeatL [48] c = List.replicate c 48 := fun c => by
      induction c with
      | zero => rfl
      | succ c ih => show [48] ++ Lib.repeatL [48] c = _; rw [ih, List.replicate_succ, List.singleton_append]
    refine (Tryz.strings_Repeat ⟨#[48]⟩ c w (by omega) (by show 1 * c ≤ _; omega)).mono ?_
    rintro e' w' ⟨rfl, hb⟩
    exact ⟨by rw [show (⟨#[48]⟩ : ByteArray).data.toList = [48] from rfl, e], hb⟩

/-- A block of strings. -/
abbrev sblk (ss : List ByteArray) : Blk := ⟨9, true, .seq 1 (ss.map sel)⟩
theorem str_ext {a b : List ByteArray} {n : Nat} (ha : a.length = n) (hb : b.length = n) (h : ∀ i, i < n → a.getD i .empty = b.getD i .empty) : a = b := by
  refine List.ext_getElem (ha.trans hb.symm) fun i h1 h2 => ?_
  have := h i (by omega)
  rwa [List.getD_eq_getElem?_getD, List.getD_eq_getElem?_getD, List.getElem?_eq_getElem h1, List.getElem?_eq_getElem h2] at this
theorem str_set {l : List ByteArray} {i j : Nat} {v : ByteArray} (hi : i < l.length) : (l.set i v).getD j .empty = if i = j then v else l.getD j .empty := by
  simp only [List.getD_eq_getElem?_getD, List.getElem?_set]
  by_cases h : i = j
  · subst h; simp [hi]
  · simp [h]
theorem str_rev {l : List ByteArray} {n k : Nat} (hl : l.length = n) (hk : k < n) : l.reverse.getD k .empty = l.getD (n - 1 - k) .empty := by
  simp only [List.getD_eq_getElem?_getD]
  rw [List.getElem?_reverse (by omega), hl]
theorem t_Reverse (ss : List ByteArray) (n : Nat) (hn : ss.length = n) (hl : n < 1099511627776) (K : Nat) : CallOK Tryz.prog 239 [.slc K 1 0 n] [(K, sblk ss)] (.tup []) [] [(K, sblk ss.reverse)] := by
  have e0 : IntKind.i64.wrap ((n : Int) - 1) = (n : Int) - 1 := wrap_i64 (by omega) (by omega)
  refine callK (Z := []) tabOK mixedOK Tryz.func239 rfl (by kernel_rfl) (args := [.slc 1001 1 0 n]) (fk := [(1001, sblk ss)]) (c := .tup []) (new := []) (upd := [(1001, sblk ss.reverse)]) (ShapeOK.of rfl rfl rfl rfl rfl rfl rfl rfl rfl rfl rfl) rfl (fun _ => K) NamesOK.upd ?_
  intro W0 w0 ρ0 hE
  conv => whnf
  (repeat (first | (rw [e0]; conv => whnf)))
  refine SW_loopN hE (fun k => k) [0, 2, 3] [1001] (fun q fr hp => ∃ (i : Nat) (ys : List ByteArray), q = n - i ∧ (2 * i ≤ n) ∧ ys.length = n ∧ (∀ k, k < n → ys.getD k .empty = if k < i ∨ n - i ≤ k then ss.getD (n - 1 - k) .empty else ss.getD k .empty) ∧
    fr = [(0, .slc 1001 1 0 n), (2, .val (.int .i64 (i : Nat))), (3, .val (.int .i64 ((n : Int) - 1 - i)))] ∧ hp = [(1001, sblk ys)]) n ?_ ?_ ?_
  · kernel_rfl
  · exact ⟨0, ss, rfl, by omega, hn, (fun k hk => by rw [if_neg (by omega)]), by rw [show (n : Int) - 1 - ((0 : Nat) : Int) = (n : Int) - 1 by omega]; rfl, rfl⟩
  rintro q _ _ ⟨i, ys, rfl, hi, hy, hv, rfl, rfl⟩
  conv => whnf
  by_cases hgo : i + i + 1 < n
  · obtain ⟨j, hj⟩ : ∃ j, j = n - 1 - i := ⟨_, rfl⟩
    have ej : (n : Int) - 1 - i = (j : Int) := by omega
    rw [ej]
    have t1 : decide ((i : Int) < (j : Int)) = true := decide_eq_true (by omega)
    have e1 := winc (i := i) (by omega)
    have e2 : IntKind.i64.wrap ((j : Int) - 1) = (n : Int) - 1 - ((i + 1 : Nat) : Int) := by rw [wrap_i64 (by omega) (by omega)]; omega
    have g1 : (ys.map sel).getD i .any = .val (.string (ys.getD i .empty)) := by rw [map_get (d := ByteArray.empty) (by omega)]; rfl
    have g2 : (ys.map sel).getD j .any = .val (.string (ys.getD j .empty)) := by rw [map_get (d := ByteArray.empty) (by omega)]; rfl
    have g3 : ((ys.map sel).set i (.val (.string (ys.getD j .empty)))).getD j .any = .val (.string (ys.getD j .empty)) := by rw [← g2, List.getD_eq_getElem?_getD, List.getElem?_set_ne (by omega), ← List.getD_eq_getElem?_getD]
    have hlm : (ys.map sel).length = n := by rw [List.length_map]; exact hy
    have hset : (((ys.set i (ys.getD j .empty)).set j (ys.getD i .empty)).map sel) = ((ys.map sel).set i (.val (.string (ys.getD j .empty)))).set j (.val (.string (ys.getD i .empty))) := by rw [List.map_set, List.map_set]; rfl
    have hnew : ∀ k, k < n → ((ys.set i (ys.getD j .empty)).set j (ys.getD i .empty)).getD k .empty = if k < i + 1 ∨ n - (i + 1) ≤ k then ss.getD (n - 1 - k) .empty else ss.getD k .empty := by
      intro k hk
      rw [str_set (by rw [List.length_set]; omega), str_set (by omega)]
      by_cases h1 : j = k
      · rw [if_pos h1, if_pos (by omega), hv i (by omega), if_neg (by omega), show n - 1 - k = i by omega]
      · rw [if_neg h1]
        by_cases h2 : i = k
        · rw [if_pos h2, if_pos (by omega), hv j (by omega), if_neg (by omega), show n - 1 - k = j by omega]
        · rw [if_neg h2, hv k hk]
          by_cases h3 : k < i ∨ n - i ≤ k
          · rw [if_pos h3, if_pos (by omega)]
          · rw [if_neg h3, if_neg (by omega)]
    (repeat ((first | refine step_w1 rfl rfl ?_ | refine step_i (by kernel_rfl) ?_ | refine And.intro (by first | decide | omega | (simp only [tiB5, tiB95, tiB3, tiB2, tiB9, tiB38, tiB74, tiB25, tiB41, tiB36, tiB30, tiB4, tiB70, tiB72, tiB164, tiB27, tiB62, tiB32, dlen, List.length_replicate, List.length_set, List.length_map, List.length_zipWith, List.length_take, List.length_append, List.length_cons, List.length_nil]; omega)) ?_ | rw [t1] | rw [show 0 + (i : Int).toNat = i from by omega] | rw [show 0 + (j : Int).toNat = j from by omega] | rw [g1] | rw [g2] | rw [g3] | rw [e1] | rw [e2]); conv => whnf))
    refine ⟨n - (i + 1), fun k => k, [0, 2, 3], [1001], by omega, by kernel_rfl, i + 1, _, rfl, by omega, ?_, hnew, rfl, ?_⟩
    · rw [List.length_set, List.length_set]; exact hy
    · rw [sblk, hset]; rfl
  · have t1 : decide ((i : Int) < (n : Int) - 1 - i) = false := decide_eq_false (by omega)
    have e : ys = ss.reverse := str_ext hy (by rw [List.length_reverse]; exact hn) fun k hk => by
      rw [hv k hk, str_rev hn hk]
      split
      · rfl
      · rw [show n - 1 - k = k by omega]
    rw [e]
    (repeat (first | (refine step_w2 rfl rfl ?_; conv => whnf) | (rw [t1]; conv => whnf)))
    exact ⟨Recast.refl _, (fun _ _ h => by cases h), fun k b hm => by simp only [List.mem_singleton, Prod.mk.injEq] at hm; obtain ⟨rfl, rfl⟩ := hm; rfl⟩

theorem call_strsM {P : Program} {f : FuncId} {ss : List ByteArray} {n : Nat} {sep : ByteArray} {v : Value} {ty : TypeId} (hn : ss.length = n) (hf : FnOK P f) (hv : v.oneCell' = true)
    (h0 : ss = [] → ∀ (a : Option Addr) (w : World), Calls P f #[.slice a 0 0, .string sep] w fun e w' => e = .returned v ∧ w' = w)
    (h : ∀ (bk o c : Nat) (w : World), (∀ (j : Nat) x, ss[j]? = some x → w.cell? ⟨bk, o + j, none⟩ = some (.string x)) → bk < w.heap.size → ss.length ≤ c → Calls P f #[.slice (some ⟨bk, o, none⟩) ss.length c, .string sep] w fun e w' => e = .returned v ∧ RowKit.Below w.heap.size w w') (K : Nat) :
    CallOK P f [.slc K 1 0 n, .val (.string sep)] [(K, ⟨ty, true, .seq 1 (ss.map sel)⟩)] (.val v) [] [] := by
  subst hn
  refine .inl ⟨hf, fun ρ w z hz hp => ?_⟩
  simp only [HasZ] at hz
  obtain ⟨x, _, rfl, hx, y, _, rfl, hy, rfl⟩ := hz
  simp only [HasC] at hy
  obtain ⟨rfl, _⟩ := hy
  have fin : ∀ (a : Value), (Calls P f #[a, .string sep] w fun e w' => e = .returned v ∧ RowKit.Below w.heap.size w w') → Calls P f (List.zipWith mkV [.slc K 1 0 ss.length, SV.val (.string sep)] [[a], [.string sep]]).toArray w fun e w' => ∃ v' ρ', e = .returned v' ∧ Post ρ w (.val v) [] [] v' ρ' w' := fun a hc => by
    have e : (List.zipWith mkV [.slc K 1 0 ss.length, SV.val (.string sep)] [[a], [.string sep]]).toArray = #[a, .string sep] := by simp [mkV, SV.isOne]
    rw [e]
    refine hc.mono ?_
    rintro e w' ⟨rfl, hb⟩
    exact ⟨v, ρ, rfl, .of_below hb (has_val hv)⟩
  obtain ⟨z, hz, hcase⟩ := blk_rows (hp.hfk K _ (List.mem_cons_self ..)) rfl rfl
  simp only [HasC] at hx
  rcases hx with ⟨b, t, cap, e1, e2, e3, rfl⟩ | ⟨hn, a, rfl⟩
  · rcases hcase with ⟨b', t', ex, h1, h2, h3, h4⟩ | ⟨h1, _⟩
    · rw [e1] at h1
      cases h1
      have hzf : ∀ (l : List ByteArray) (z : List (List Value)), HasZ (bareR ρ.imm ρ.glob) (l.map sel) z → z.flatten = l.map .string := by
        intro l
        induction l with
        | nil => intro z hz; simp only [List.map_nil, HasZ] at hz; subst hz; rfl
        | cons s l ih =>
          intro z hz
          simp only [List.map_cons, HasZ, sel, HasC] at hz
          obtain ⟨x, r, rfl, ⟨rfl, _⟩, h⟩ := hz
          simp [ih r h]
      refine fin _ ((h b 0 cap w (fun j x hj => ?_) ?_ e2))
      · rw [cell_of_row w b _ _ _ _ h2, List.getElem?_toArray, hzf ss z hz.2.1, Nat.zero_add]
        rw [List.getElem?_append_left (by rw [List.length_map]; exact (List.getElem?_eq_some_iff.1 hj).1), List.getElem?_map, hj]; rfl
      · rcases Nat.lt_or_ge b w.heap.size with h' | h'
        · exact h'
        · simp [Array.getElem?_eq_none h'] at h2
    · rw [e1] at h1; cases h1
  · refine fin _ ?_
    have hn : ss = [] := List.length_eq_zero_iff.1 hn
    subst hn
    exact (h0 rfl a w).mono fun _ _ ⟨he, hw⟩ => ⟨he, hw ▸ RowKit.Below.refl _ _⟩
theorem t_JoinM (ss : List ByteArray) (n : Nat) (hn : ss.length = n) (sep : ByteArray) (hN : ss.length ≤ 1099511627776) (hlen : (Lib.join (ss.map (·.data.toList)) sep.data.toList).length ≤ 140737488355328) (K : Nat) :
    CallOK Tryz.prog 184 [.slc K 1 0 n, .val (.string sep)] [(K, sblk ss)] (.val (.string ⟨(Lib.join (ss.map (·.data.toList)) sep.data.toList).toArray⟩)) [] [] := by
  refine call_strsM hn ⟨Tryz.f184, Tryz.func184, rfl, by kernel_rfl⟩ rfl ?_ ?_ K
  · rintro rfl a w
    exact Tryz.strings_Join_none a 0 sep w
  · intro bk o c w hc hb hcap
    exact Tryz.strings_Join bk o c ss sep w hc hb (by omega) hcap hlen
end Go.Proofs.YtkpfineikahgfaaGreatDoor

namespace Go.Proofs.YtkpfineikahgfaaGreatDoor
open Go.Sx
set_option linter.unusedSimpArgs false
set_option linter.unusedVariables false
set_option maxRecDepth 100000
set_option maxHeartbeats 4000000

theorem dec_len : ∀ k n, n < 2 ^ k → (Lib.decDigits n).length ≤ k + 1
  | 0, n, h => by
    obtain rfl : n = 0 := by simp at h; exact h
    rw [dec_lt (by decide)]; simp
  | k + 1, n, h => by
    by_cases h1 : n < 10
    · rw [dec_lt h1]; simp
    · rw [dec_big (by omega), List.length_append, List.length_singleton]
      have := dec_len k (n / 10) (by rw [Nat.pow_succ] at h; omega)
      omega
def cat (ss : List ByteArray) : List UInt8 := (ss.map (·.data.toList)).flatten
theorem join_empty (l : List (List UInt8)) : Lib.join l [] = l.flatten := by
  cases l with
  | nil => rfl
  | cons x r => rw [Lib.join_cons, Lib.joinTail]; simp
theorem cut_digs {v m : Nat} (h : v < 4294967296 ^ m) : cutN (digs v m) m = (wInts v).length ∧ (wInts v).length ≤ m := by
  have hlen := digs_len v m
  have hv := valI_digs v m
  rw [Nat.mod_eq_of_lt h] at hv
  have hc := valI_cut (digs v m) m
  have hle := cutN_le (digs v m) m
  have htop := cutN_top (digs v m) m
  have := wInts_of (cutN (digs v m) m) (digs v m) (digs_w32 v m) (by omega) htop
  rw [hc, hv, Int.toNat_natCast] at this
  have e : (wInts v).length = cutN (digs v m) m := by rw [this, List.length_take]; omega
  exact ⟨e.symm, by omega⟩
theorem sz_div9 {v : Nat} (h : 1000000000 ≤ v) : sz (v / 1000000000) + 29 ≤ sz v := by
  have h1 : v < 2 ^ sz v := sz_le.1 (Nat.le_refl _)
  have h2 : 29 ≤ sz v := by
    rcases Nat.lt_or_ge (sz v) 29 with g | g
    · have : 2 ^ sz v ≤ 2 ^ 29 := Nat.pow_le_pow_right (by decide) (by omega)
      omega
    · exact g
  have h3 : sz (v / 1000000000) ≤ sz v - 29 := sz_le.2 (by
    rw [Nat.div_lt_iff_lt_mul (by decide)]
    have e : 2 ^ sz v = 2 ^ (sz v - 29) * 2 ^ 29 := by rw [← Nat.pow_add]; congr 1; omega
    have : 2 ^ (sz v - 29) * 2 ^ 29 ≤ 2 ^ (sz v - 29) * 1000000000 := Nat.mul_le_mul_left _ (by decide)
    omega)
  omega
theorem tN_size9 {r : Nat} (h : r < 1000000000) : (tN r).size ≤ 9 := by
  rw [tN_eq]
  show (Lib.decDigits r).toArray.size ≤ 9
  have := (pad_dec 9 r h (by decide)).2
  simpa using this
/-- A part of a text, filled with zeros. -/
theorem pad_tN {r : Nat} (h : r < 1000000000) : ((⟨(List.replicate (9 - (tN r).size) 48).toArray⟩ : ByteArray) ++ tN r).data.toList = padF 9 r := by
  have hs : (tN r).size = (Lib.decDigits r).length := by rw [tN_eq]; show (Lib.decDigits r).toArray.size = _; simp
  rw [(pad_dec 9 r h (by decide)).1, hs, tN_eq, ByteArray.data_append]
  simp
theorem cat_snoc (ps : List ByteArray) (s : ByteArray) : cat (ps ++ [s]).reverse = s.data.toList ++ cat ps.reverse := by simp [cat]

theorem wl_of {n M : Nat} (h : sz n ≤ M) : (wInts n).length ≤ M := len_le_of (Nat.lt_of_lt_of_le (sz_le.1 h) (Nat.pow_le_pow_left (by decide) M))
theorem t_NatB (n : Nat) (h : ¬ n < 18446744073709551616) (hs : sz n ≤ 1073741824) : CallOK Tryz.prog 198 [.nat n] [] (.val (.string (tN n))) [] [] := by
  have hwl : (wInts n).length < 1099511627776 := Nat.lt_of_le_of_lt (wl_of hs) (by decide)
  have k1 := c_words n 3001 hwl
  have e2 : ((big n).toList == (ByteArray.mk #[]).toList) = false := by rw [big_eq]; exact decide_eq_false h
  have hwa := wArr_len n
  refine callF (Z := []) tabOK mixedOK Tryz.func198 rfl (by kernel_rfl) (by first | rfl | (simp [keylessL, keyless, keylessL_map, *]; done)) (by first | rfl | (simp [keylessL, keyless, keylessL_map, *]; done)) (by kernel_rfl) rfl ?_
  intro w0 ρ0 hE
  conv => whnf
  (repeat ((first | refine step_w2 rfl rfl ?_ | refine g_cn (by assumption) rfl ?_ | rw [e2] | rw [Nat.zero_add]); conv => whnf))
  refine SWx_adopt (t := 3) (k := 2002) (s := 1) (blk := sblk []) rfl rfl rfl ?_
  have hwn := wInts_val n
  refine SW_loopN hE (fun k => k) [3, 4] [2002, 3001] (fun q fr hp => ∃ (v : Nat) (L : List Int) (ps : List ByteArray), q = v ∧ (wInts v).length ≤ L.length ∧ L.length < 1099511627776 ∧ W32 L ∧ valI L (wInts v).length = (v : Int) ∧ ((v ≠ 0 ∧ Lib.decDigits n = Lib.decDigits v ++ cat ps.reverse ∧ ps.length * 29 + sz v ≤ sz n) ∨ (v = 0 ∧ Lib.decDigits n = cat ps.reverse ∧ ps.length * 29 ≤ sz n + 29)) ∧
    fr = [(3, .slc 2002 1 0 ps.length), (4, .slc 3001 1 0 (wInts v).length)] ∧ hp = [(2002, sblk ps), (3001, ⟨95, true, .ints .u32 L⟩)]) n ?_ ?_ ?_
  · kernel_rfl
  · have hwA : (wArr n) = wInts n := by rw [wArr, if_neg h]
    refine ⟨n, wArr n, [], rfl, hwa, by rw [hwA]; exact hwl, by rw [hwA]; exact wInts_w32 n, by rw [hwA]; exact hwn, .inl ⟨by omega, ?_, by simp⟩, rfl, rfl⟩
    simp [cat]
  rintro q _ _ ⟨v, L, ps, rfl, hL, hLl, hLw, hLv, hrel, rfl, rfl⟩
  conv => whnf
  have hpl : ps.length < 1099511627776 := by rcases hrel with ⟨_, _, g⟩ | ⟨_, _, g⟩ <;> omega
  by_cases h0 : 0 < q
  · obtain ⟨_, hdec, hlen⟩ := hrel.resolve_right (by omega)
    clear hrel
    have hm := wInts_top (n := q) (by omega)
    have t1 : decide (((wInts q).length : Int) > 0) = true := decide_eq_true (by omega)
    have hqm : q < 4294967296 ^ (wInts q).length := lt_of_len q
    have k2 := c_short L (wInts q).length hL (by omega) hLw 1000000000 (by decide) (by decide) 3001 3002 (by decide) true q hLv
    obtain ⟨hcut, hcle⟩ := cut_digs (v := q / 1000000000) (m := (wInts q).length) (Nat.lt_of_le_of_lt (Nat.div_le_self _ _) hqm)
    have hdl := digs_len (q / 1000000000) (wInts q).length
    have k3 := c_cut (digs (q / 1000000000) (wInts q).length) (wInts q).length (by omega) (by omega) 3002 true
    rw [hcut] at k3
    have hr : q % 1000000000 < 1000000000 := Nat.mod_lt _ (by decide)
    have k4 := t_Itoa (q % 1000000000) (by omega)
    have e1 : IntKind.i64.wrap ((q % 1000000000 : Nat) : Int) = ((q % 1000000000 : Nat) : Int) := wrap_i64 (by omega) (by omega)
    have hsz := tN_size9 hr
    have hdw : W32 (digs (q / 1000000000) (wInts q).length) := digs_w32 _ _
    have hdv : valI (digs (q / 1000000000) (wInts q).length) (wInts (q / 1000000000)).length = ((q / 1000000000 : Nat) : Int) := by
      have h1 := valI_cut (digs (q / 1000000000) (wInts q).length) (wInts q).length
      rw [hcut, valI_digs, Nat.mod_eq_of_lt (Nat.lt_of_le_of_lt (Nat.div_le_self _ _) hqm)] at h1
      exact h1
    have hqv : q / 1000000000 * 1000000000 + q % 1000000000 = q := by have := Nat.div_add_mod q 1000000000; omega
    by_cases hq : 1000000000 ≤ q
    · have hv0 : 0 < q / 1000000000 := Nat.div_pos hq (by decide)
      have hs9 := sz_div9 hq
      have hsplit := dec_split 9 (q / 1000000000) (q % 1000000000) hv0 hr
      rw [show 10 ^ 9 = 1000000000 from rfl, hqv, ← pad_tN hr] at hsplit
      have hm2 := wInts_top (n := q / 1000000000) (by omega)
      have t2 : decide (((wInts (q / 1000000000)).length : Int) > 0) = true := decide_eq_true (by omega)
      have e2 : IntKind.i64.wrap (9 - ((tN (q % 1000000000)).size : Int)) = ((9 - (tN (q % 1000000000)).size : Nat) : Int) := by rw [wrap_i64 (by omega) (by omega)]; omega
      have k5 := t_Repeat (9 - (tN (q % 1000000000)).size) (by omega)
      have hrs : (⟨(List.replicate (9 - (tN (q % 1000000000)).size) 48).toArray⟩ : ByteArray).size = 9 - (tN (q % 1000000000)).size := by show (List.replicate _ _).toArray.size = _; simp
      have hob : (⟨(List.replicate (9 - (tN (q % 1000000000)).size) 48).toArray⟩ : ByteArray).size + (tN (q % 1000000000)).size ≤ 9223372036854775807 := by omega
      have hd2 : Lib.decDigits n = Lib.decDigits (q / 1000000000) ++ cat (ps ++ [(⟨(List.replicate (9 - (tN (q % 1000000000)).size) 48).toArray⟩ : ByteArray) ++ tN (q % 1000000000)]).reverse := by
        rw [hdec, hsplit, cat_snoc, List.append_assoc]
      clear hdec hsplit
      generalize (⟨(List.replicate (9 - (tN (q % 1000000000)).size) 48).toArray⟩ : ByteArray) = z9 at *
      have hpm : (ps.map sel).length = ps.length := List.length_map ..
      (repeat ((first | refine step_w1 rfl rfl ?_ | refine And.intro (by first | decide | omega | (simp only [tiB5, tiB95, tiB3, tiB2, tiB9, tiB38, tiB74, tiB25, tiB41, tiB36, tiB30, tiB4, tiB70, tiB72, tiB164, tiB27, tiB62, tiB32, dlen, List.length_replicate, List.length_set, List.length_map, List.length_zipWith, List.length_take, List.length_append, List.length_cons, List.length_nil]; omega)) ?_ | refine g_c (by assumption) ?_ | refine g_c1 (by assumption) rfl ?_ | refine g_c1n (by assumption) rfl rfl ?_ | rw [t1] | rw [e1] | rw [t2] | rw [e2]); conv => whnf))
      refine ⟨q / 1000000000, renBy [(41, 2002), (3002, 3001)], [3, 4], [41, 3002], by omega, by kernel_rfl, q / 1000000000, _, ps ++ [z9 ++ tN (q % 1000000000)], rfl, by rw [hdl]; exact hcle, by omega, hdw, hdv, .inl ⟨by omega, hd2, by rw [List.length_append, List.length_singleton]; omega⟩, by rw [List.length_append]; rfl, ?_⟩
      have e9 : sblk (ps ++ [z9 ++ tN (q % 1000000000)]) = ⟨9, true, .seq 1 (List.take ps.length (ps.map sel) ++ List.take 1 (List.drop 0 [SV.val (.string (z9 ++ tN (q % 1000000000)))]))⟩ := by
        rw [sblk, List.take_of_length_le (by omega), List.map_append]; rfl
      rw [e9]; rfl
    · have hv0 : q / 1000000000 = 0 := Nat.div_eq_of_lt (by omega)
      have t2 : decide (((wInts (q / 1000000000)).length : Int) > 0) = false := by rw [hv0]; rfl
      have hmod : q % 1000000000 = q := Nat.mod_eq_of_lt (by omega)
      have hd2 : Lib.decDigits n = cat (ps ++ [tN (q % 1000000000)]).reverse := by
        rw [hdec, cat_snoc, hmod, tN_eq]
      clear hdec
      have hpm : (ps.map sel).length = ps.length := List.length_map ..
      (repeat ((first | refine step_w1 rfl rfl ?_ | refine step_w2 rfl rfl ?_ | refine And.intro (by first | decide | omega | (simp only [tiB5, tiB95, tiB3, tiB2, tiB9, tiB38, tiB74, tiB25, tiB41, tiB36, tiB30, tiB4, tiB70, tiB72, tiB164, tiB27, tiB62, tiB32, dlen, List.length_replicate, List.length_set, List.length_map, List.length_zipWith, List.length_take, List.length_append, List.length_cons, List.length_nil]; omega)) ?_ | refine g_c (by assumption) ?_ | refine g_c1 (by assumption) rfl ?_ | refine g_c1n (by assumption) rfl rfl ?_ | rw [t1] | rw [e1] | rw [t2]); conv => whnf))
      refine ⟨q / 1000000000, renBy [(41, 2002), (3002, 3001)], [3, 4], [41, 3002], by omega, by kernel_rfl, q / 1000000000, _, ps ++ [tN (q % 1000000000)], rfl, by rw [hdl]; exact hcle, by omega, hdw, hdv, .inr ⟨hv0, hd2, by rw [List.length_append, List.length_singleton]; omega⟩, by rw [List.length_append]; rfl, ?_⟩
      have e9 : sblk (ps ++ [tN (q % 1000000000)]) = ⟨9, true, .seq 1 (List.take ps.length (ps.map sel) ++ List.take 1 (List.drop 0 [SV.val (.string (tN (q % 1000000000)))]))⟩ := by
        rw [sblk, List.take_of_length_le (by omega), List.map_append]; rfl
      rw [e9]; rfl
  · obtain rfl : q = 0 := by omega
    obtain ⟨_, hdec, _⟩ := hrel.resolve_left (fun h => h.1 rfl)
    have t1 : decide (((wInts 0).length : Int) > 0) = false := rfl
    have k2 := t_Reverse ps ps.length rfl (by omega) 2002
    have hdl : (Lib.decDigits n).length ≤ 140737488355328 := by
      exact Nat.le_trans (dec_len (sz n) n (sz_le.1 (Nat.le_refl _))) (by omega)
    have k3 := t_JoinM ps.reverse ps.length (by rw [List.length_reverse]) ⟨#[]⟩ (by rw [List.length_reverse]; omega) (by
      rw [show (⟨#[]⟩ : ByteArray).data.toList = [] from rfl, join_empty]
      show (cat ps.reverse).length ≤ _
      rw [← hdec]; exact hdl) 2002
    have e : (⟨(Lib.join (ps.reverse.map (·.data.toList)) (⟨#[]⟩ : ByteArray).data.toList).toArray⟩ : ByteArray) = tN n := by
      rw [show (⟨#[]⟩ : ByteArray).data.toList = [] from rfl, join_empty, tN_eq, hdec]; rfl
    rw [e] at k3
    (repeat (first | (refine step_w2 rfl rfl ?_; conv => whnf) | (refine g_c1 (by assumption) rfl ?_; conv => whnf) | (refine g_c1u (by assumption) rfl rfl ?_; conv => whnf))); (first | exact Recast.refl _ | exact Frz.recast (Recast.refl _) rfl | (refine Frz.one rfl rfl ?_; skip) | (refine Frz.tup ?_; skip))

theorem tN_sizeG (n : Nat) : (tN n).size ≤ sz n + 1 := by
  rw [tN_eq]
  show (Lib.decDigits n).toArray.size ≤ _
  simpa using dec_len (sz n) n (sz_le.1 (Nat.le_refl _))
theorem t_NatG (n : Nat) (hs : sz n ≤ 1073741824) : CallOK Tryz.prog 198 [.nat n] [] (.val (.string (tN n))) [] [] := by
  by_cases h : n < 18446744073709551616
  · have k1 := t_FormatG n h
    have e1 : low n = (n : Int) := low_small h
    have e2 : ((big n).toList == (ByteArray.mk #[]).toList) = true := by rw [big_eq]; exact decide_eq_true h
    refine callV (Z := []) tabOK mixedOK Tryz.func198 rfl (by kernel_rfl) rfl rfl (by kernel_rfl) rfl ?_
    intro W0 w0 ρ0 hE
    conv => whnf
    (repeat ((first | refine step_w1 rfl rfl ?_ | refine g_c (by assumption) ?_ | rw [e2] | rw [e1]); conv => whnf)); (first | exact Recast.refl _ | exact Frz.recast (Recast.refl _) rfl | (refine Frz.one rfl rfl ?_; skip) | (refine Frz.tup ?_; skip))
  · exact t_NatB n h hs
theorem t_IntG (z : Int) (h : sz z.natAbs ≤ 1073741824) : CallOK Tryz.prog 197 [.int z] [] (.val (.string (tZ z))) [] [] := by
  have k1 := t_NatG z.natAbs h
  have hs := tN_sizeG z.natAbs
  have h1 : (ByteArray.mk #[45]).size = 1 := rfl
  have h2 : (ByteArray.mk #[45]).size + (tN z.natAbs).size ≤ 9223372036854775807 := by omega
  unfold tZ
  refine callV (Z := []) tabOK mixedOK Tryz.func197 rfl (by kernel_rfl) rfl rfl (by kernel_rfl) rfl ?_
  intro W0 w0 ρ0 hE
  conv => whnf
  by_cases hz : z < 0
  · have t1 : decide (z < 0) = true := decide_eq_true hz
    rw [if_pos hz]
    (repeat ((first | refine step_w1 rfl rfl ?_ | refine And.intro (by first | decide | omega | (simp only [tiB5, tiB95, tiB3, tiB2, tiB9, tiB38, tiB74, tiB25, tiB41, tiB36, tiB30, tiB4, tiB70, tiB72, tiB164, tiB27, tiB62, tiB32, dlen, List.length_replicate, List.length_set, List.length_map, List.length_zipWith, List.length_take, List.length_append, List.length_cons, List.length_nil]; omega)) ?_ | refine g_c (by assumption) ?_ | rw [t1]); conv => whnf)); (first | exact Recast.refl _ | exact Frz.recast (Recast.refl _) rfl | (refine Frz.one rfl rfl ?_; skip) | (refine Frz.tup ?_; skip))
  · have t1 : decide (z < 0) = false := decide_eq_false hz
    rw [if_neg hz]
    (repeat (first | (refine step_w2 rfl rfl ?_; conv => whnf) | (refine g_c (by assumption) ?_; conv => whnf) | (rw [t1]; conv => whnf))); (first | exact Recast.refl _ | exact Frz.recast (Recast.refl _) rfl | (refine Frz.one rfl rfl ?_; skip) | (refine Frz.tup ?_; skip))
theorem tZ_sizeG (z : Int) : (tZ z).size ≤ sz z.natAbs + 2 := by
  have hs := tN_sizeG z.natAbs
  unfold tZ
  split
  · rw [ByteArray.size_append]; have : ("-".toUTF8).size = 1 := rfl; omega
  · omega
theorem t_FracG (q : Rat) (h : fs q ≤ 1073741824) : CallOK Tryz.prog 111 [.frac q] [] (.val (.string (tQ q))) [] [] := by
  have n1 := fsz_num q
  have n2 := fsz_den q
  unfold fs at h
  have kw := c_Whole q
  have k1 := t_IntG q.num (by omega)
  have k2 := t_NatG q.den (by omega)
  have k3 := c_den natBig q (by omega)
  have hs := tZ_sizeG q.num
  have hs2 := tN_sizeG q.den
  have h1 : (ByteArray.mk #[47]).size = 1 := rfl
  have h2 : (tZ q.num).size + (ByteArray.mk #[47]).size ≤ 9223372036854775807 := by omega
  have h3 : (tZ q.num ++ (ByteArray.mk #[47])).size + (tN q.den).size ≤ 9223372036854775807 := by rw [ByteArray.size_append]; omega
  unfold tQ
  refine callV (Z := []) tabOK mixedOK Tryz.func111 rfl (by kernel_rfl) rfl rfl (by kernel_rfl) rfl ?_
  intro W0 w0 ρ0 hE
  conv => whnf
  by_cases hd : q.den = 1
  · rw [decide_eq_true hd] at kw
    rw [if_pos hd]
    (repeat (first | (refine step_w1 rfl rfl ?_; conv => whnf) | (refine g_c (by assumption) ?_; conv => whnf))); (first | exact Recast.refl _ | exact Frz.recast (Recast.refl _) rfl | (refine Frz.one rfl rfl ?_; skip) | (refine Frz.tup ?_; skip))
  · rw [decide_eq_false hd] at kw
    rw [if_neg hd]
    (repeat ((first | refine step_w2 rfl rfl ?_ | refine step_i (by kernel_rfl) ?_ | refine And.intro (by first | decide | omega | (simp only [tiB5, tiB95, tiB3, tiB2, tiB9, tiB38, tiB74, tiB25, tiB41, tiB36, tiB30, tiB4, tiB70, tiB72, tiB164, tiB27, tiB62, tiB32, dlen, List.length_replicate, List.length_set, List.length_map, List.length_zipWith, List.length_take, List.length_append, List.length_cons, List.length_nil]; omega)) ?_ | refine g_c (by assumption) ?_); conv => whnf)); (first | exact Recast.refl _ | exact Frz.recast (Recast.refl _) rfl | (refine Frz.one rfl rfl ?_; skip) | (refine Frz.tup ?_; skip))
theorem tQ_size (q : Rat) : (tQ q).size ≤ fs q + fs q + 4 := by
  have n1 := fsz_num q
  have n2 := fsz_den q
  have hs := tZ_sizeG q.num
  have hs2 := tN_sizeG q.den
  unfold fs
  unfold tQ
  split
  · omega
  · rw [ByteArray.size_append, ByteArray.size_append]; have : ("/".toUTF8).size = 1 := rfl; omega
/-- The text of some fractions, with blanks. -/
theorem join_size : ∀ (l : List (List UInt8)) (B : Nat), (∀ x ∈ l, x.length ≤ B) → (Lib.join l [32]).length ≤ l.length * (B + 1)
  | [], B, _ => by simp [Lib.join_nil]
  | [x], B, h => by rw [Lib.join_one]; have := h x (List.mem_cons_self ..); simp; omega
  | x :: y :: l, B, h => by
    have ih := join_size (y :: l) B (fun z hz => h z (List.mem_cons_of_mem _ hz))
    have hx := h x (List.mem_cons_self ..)
    have e : Lib.join (x :: y :: l) [32] = x ++ [32] ++ Lib.join (y :: l) [32] := by rw [Lib.join_cons, Lib.join_cons]; simp [Lib.joinTail]
    rw [e]
    simp only [List.length_append, List.length_cons, List.length_nil] at *
    rw [Nat.succ_mul (l.length + 1)]
    omega
theorem tV_join {a : List Rat} {B : Nat} (hl : a.length ≤ 2048) (h : ∀ i, i < a.length → fs (a.getD i 0) ≤ B) (hB : B ≤ 1000000000) : (Lib.join ((a.map tQ).map (·.data.toList)) [32]).length ≤ 140737488355328 := by
  refine Nat.le_trans (join_size _ (2 * B + 4) ?_) ?_
  · intro x hx
    obtain ⟨s, hs, rfl⟩ := List.mem_map.1 hx
    obtain ⟨q, hq, rfl⟩ := List.mem_map.1 hs
    obtain ⟨i, hi, rfl⟩ := mem_getD hq 0
    have h1 := tQ_size (a.getD i 0)
    have h2 := h i hi
    show (tQ (a.getD i 0)).data.toList.length ≤ _
    have : (tQ (a.getD i 0)).data.toList.length = (tQ (a.getD i 0)).size := Array.length_toList
    omega
  · rw [List.length_map, List.length_map]
    have : a.length * (2 * B + 4 + 1) ≤ 2048 * (2 * B + 4 + 1) := Nat.mul_le_mul_right _ hl
    omega
theorem t_VecG (a : List Rat) (B : Nat) (hl : a.length ≤ 2048) (h : ∀ i, i < a.length → fs (a.getD i 0) ≤ B) (hB : B ≤ 1000000000) : CallOK Tryz.prog 81 [fvec a] [] (.val (.string (tV a))) [] [] := by
  have hJ := tV_join hl h hB
  have hz : ((a.map tQ).map sel).length = a.length := by simp
  have hget : ∀ i, i < a.length → ((a.map tQ).map sel).getD i .any = .val (.string (tQ (a.getD i 0))) := fun i hi => by rw [map_get (d := ByteArray.empty) (by simpa using hi), map_get (d := 0) hi]; rfl
  have kj := t_Join (a.map tQ) (by simp; omega) hJ
  refine callF (Z := []) tabOK mixedOK Tryz.func81 rfl (by kernel_rfl) (by first | rfl | (simp [keylessL, keyless, keylessL_map, *]; done)) (by first | rfl | (simp [keylessL, keyless, keylessL_map, *]; done)) (by kernel_rfl) rfl ?_
  intro w0 ρ0 hE
  conv => whnf
  (repeat (first | (refine And.intro (by first | decide | omega | (simp only [tiB5, tiB95, tiB3, tiB2, tiB9, tiB38, tiB74, tiB25, tiB41, tiB36, tiB30, tiB4, tiB70, tiB72, tiB164, tiB27, tiB62, tiB32, dlen, List.length_replicate, List.length_set, List.length_map, List.length_zipWith, List.length_take, List.length_append, List.length_cons, List.length_nil]; omega)) ?_; conv => whnf) | (refine g_o (op_lenM rfl rfl rfl (ev_ok rfl) (tgt rfl) rfl) ?_; conv => whnf) | (rw [Int.toNat_natCast]; conv => whnf)))
  refine SW_loopS hE (fun k => k) [0, 2, 3, 9, 10, 11] [8] (fun m fr hp => ∃ i, m = a.length - i ∧ i ≤ a.length ∧ fr = [(0, fvec a), (2, .val (.string ⟨#[]⟩)), (3, .slc 8 1 0 a.length), (9, fvec a), (10, .val (.int .i64 (a.length : Nat))), (11, .val (.int .i64 (i : Nat)))] ∧
    hp = [(8, ⟨9, true, .seq 1 (((a.map tQ).map sel).take i ++ List.replicate (a.length - i) (.val (.string .empty)))⟩)]) a.length ?_ ?_ ?_
  · kernel_rfl
  · exact ⟨0, rfl, Nat.zero_le _, rfl, rfl⟩
  rintro m _ _ ⟨i, rfl, hi, rfl, rfl⟩
  have hlen := fill_len (d := SV.val (.string .empty)) hi hz
  by_cases hlt : i < a.length
  · have t1 := dlt hlt
    have t2 := winc (i := i) (by omega)
    have k1 := t_FracG (a.getD i 0) (Nat.le_trans (h i hlt) (by omega))
    refine SWx.of hE ?_
    conv => whnf
    have e3 := fill_get (d := SV.val (.string .empty)) (e := SV.any) hlt hz
    (repeat ((first | refine step_w1 rfl rfl ?_ | refine And.intro (by first | decide | omega | (simp only [tiB5, tiB95, tiB3, tiB2, tiB9, tiB38, tiB74, tiB25, tiB41, tiB36, tiB30, tiB4, tiB70, tiB72, tiB164, tiB27, tiB62, tiB32, dlen, List.length_replicate, List.length_set, List.length_map, List.length_zipWith, List.length_take, List.length_append, List.length_cons, List.length_nil]; omega)) ?_ | refine g_c (by assumption) ?_ | refine g_o (op_indexN (α := Rat) (d := 0) rfl (ev_ok rfl) (ev_ok rfl) (tgt rfl) rfl (tgt rfl) rfl (by omega)) ?_ | refine g_o (op_loadA rfl (ev_ok rfl) (tgt rfl) rfl (Nat.succ_ne_zero _) rfl) ?_ | rw [t1] | rw [e3] | rw [t2] | rw [Int.toNat_natCast] | rw [Nat.zero_add]); conv => whnf))
    refine ⟨a.length - (i + 1), fun k => k, [0, 2, 3, 9, 10, 11], [8], by omega, by kernel_rfl, i + 1, rfl, hlt, rfl, ?_⟩
    rw [← fill_set (e := .any) hlt hz, hget i hlt]
    rfl
  · have t1 := dge hlt
    have hI : i = a.length := by omega
    subst hI
    rw [fill_all hz]
    refine SWx_freezeM 3 8 (fun _ h => h) (fun _ => rfl) rfl rfl (by simp) ?_
    refine SWx.of hE ?_
    conv => whnf
    have h91 : (ByteArray.mk #[91]).size = 1 := rfl
    have h93 : (ByteArray.mk #[93]).size = 1 := rfl
    have hjs : (ByteArray.mk (Lib.join ((a.map tQ).map (·.data.toList)) [32]).toArray).size = (Lib.join ((a.map tQ).map (·.data.toList)) [32]).length := by show (Lib.join ((a.map tQ).map (·.data.toList)) [32]).toArray.size = _; simp
    have o1 : (ByteArray.mk #[91]).size + (ByteArray.mk (Lib.join ((a.map tQ).map (·.data.toList)) [32]).toArray).size ≤ 9223372036854775807 := by omega
    have o2 : (ByteArray.mk #[91] ++ ByteArray.mk (Lib.join ((a.map tQ).map (·.data.toList)) [32]).toArray).size + (ByteArray.mk #[93]).size ≤ 9223372036854775807 := by rw [ByteArray.size_append]; omega
    (repeat ((first | refine step_w2 rfl rfl ?_ | refine And.intro (by first | decide | omega | (simp only [tiB5, tiB95, tiB3, tiB2, tiB9, tiB38, tiB74, tiB25, tiB41, tiB36, tiB30, tiB4, tiB70, tiB72, tiB164, tiB27, tiB62, tiB32, dlen, List.length_replicate, List.length_set, List.length_map, List.length_zipWith, List.length_take, List.length_append, List.length_cons, List.length_nil]; omega)) ?_ | refine g_c (by assumption) ?_ | rw [t1]); conv => whnf)); (first | exact Recast.refl _ | exact Frz.recast (Recast.refl _) rfl | (refine Frz.one rfl rfl ?_; skip) | (refine Frz.tup ?_; skip))
end Go.Proofs.YtkpfineikahgfaaGreatDoor

namespace Go.Proofs.YtkpfineikahgfaaGreatDoor
open Go.Sx
set_option linter.unusedSimpArgs false
set_option linter.unusedVariables false
set_option maxRecDepth 100000
set_option maxHeartbeats 4000000

abbrev iv (n : Int) : SV := .val (.int .i64 n)
abbrev mA (r c : Int) (a : List Rat) : SV := .agg [iv r, iv c, fvec a]
/-- A matrix as it lies behind a pointer. -/
abbrev mC (r c : Int) (a : List Rat) : List SV := [iv r, iv c, fvec a]
abbrev MV := Int × Int × List Rat
abbrev mB (m : MV) : SV := mA m.1 m.2.1 m.2.2

/-- The error of numbers of rows and columns. -/
def sidesF (r c : Int) : Int := if r < 0 ∨ c < 0 then 1 else if r > 2048 ∨ c > 2048 then 3 else 0
theorem m_sides (r c : Int) : CallOK Tryz.prog 83 [iv r, iv c] [] (iv (sidesF r c)) [] [] := by
  refine callV (Z := []) tabOK mixedOK Tryz.func83 rfl (by kernel_rfl) rfl rfl (by kernel_rfl) rfl ?_
  intro W0 w0 ρ0 hE
  conv => whnf
  unfold sidesF
  by_cases h1 : r < 0
  · have t1 : decide (r < 0) = true := decide_eq_true h1
    rw [if_pos (.inl h1)]
    (repeat ((first | refine step_w1 rfl rfl ?_ | refine step_w2 rfl rfl ?_ | refine g_o (op_pickT rfl (ev_ok rfl) (ev_ok rfl)) ?_ | rw [t1]); conv => whnf)); (first | exact Recast.refl _ | exact Frz.recast (Recast.refl _) rfl | (refine Frz.one rfl rfl ?_; skip) | (refine Frz.tup ?_; skip))
  have t1 : decide (r < 0) = false := decide_eq_false h1
  by_cases h2 : c < 0
  · have t2 : decide (c < 0) = true := decide_eq_true h2
    rw [if_pos (.inr h2)]
    (repeat ((first | refine step_w1 rfl rfl ?_ | refine g_o (op_pickF rfl (ev_ok rfl) (ev_ok rfl)) ?_ | rw [t1] | rw [t2]); conv => whnf)); (first | exact Recast.refl _ | exact Frz.recast (Recast.refl _) rfl | (refine Frz.one rfl rfl ?_; skip) | (refine Frz.tup ?_; skip))
  have t2 : decide (c < 0) = false := decide_eq_false h2
  rw [if_neg (by omega)]
  by_cases h3 : r > 2048
  · have t3 : decide (r > 2048) = true := decide_eq_true h3
    rw [if_pos (.inl h3)]
    (repeat ((first | refine step_w1 rfl rfl ?_ | refine step_w2 rfl rfl ?_ | refine g_o (op_pickT rfl (ev_ok rfl) (ev_ok rfl)) ?_ | refine g_o (op_pickF rfl (ev_ok rfl) (ev_ok rfl)) ?_ | rw [t1] | rw [t2] | rw [t3]); conv => whnf)); (first | exact Recast.refl _ | exact Frz.recast (Recast.refl _) rfl | (refine Frz.one rfl rfl ?_; skip) | (refine Frz.tup ?_; skip))
  have t3 : decide (r > 2048) = false := decide_eq_false h3
  by_cases h4 : c > 2048
  · have t4 : decide (c > 2048) = true := decide_eq_true h4
    rw [if_pos (.inr h4)]
    (repeat ((first | refine step_w1 rfl rfl ?_ | refine step_w2 rfl rfl ?_ | refine g_o (op_pickF rfl (ev_ok rfl) (ev_ok rfl)) ?_ | rw [t1] | rw [t2] | rw [t3] | rw [t4]); conv => whnf)); (first | exact Recast.refl _ | exact Frz.recast (Recast.refl _) rfl | (refine Frz.one rfl rfl ?_; skip) | (refine Frz.tup ?_; skip))
  have t4 : decide (c > 2048) = false := decide_eq_false h4
  rw [if_neg (by omega)]
  (repeat ((first | refine step_w1 rfl rfl ?_ | refine step_w2 rfl rfl ?_ | refine g_o (op_pickF rfl (ev_ok rfl) (ev_ok rfl)) ?_ | rw [t1] | rw [t2] | rw [t3] | rw [t4]); conv => whnf)); (first | exact Recast.refl _ | exact Frz.recast (Recast.refl _) rfl | (refine Frz.one rfl rfl ?_; skip) | (refine Frz.tup ?_; skip))

theorem sides_ok {r c : Int} (h : sidesF r c = 0) : (0 ≤ r ∧ r ≤ 2048) ∧ (0 ≤ c ∧ c ≤ 2048) := by
  unfold sidesF at h
  by_cases h1 : r < 0 ∨ c < 0
  · rw [if_pos h1] at h; omega
  · rw [if_neg h1] at h
    by_cases h2 : r > 2048 ∨ c > 2048
    · rw [if_pos h2] at h; omega
    · omega
theorem sides_of {r c : Int} (h : (0 ≤ r ∧ r ≤ 2048) ∧ (0 ≤ c ∧ c ≤ 2048)) : sidesF r c = 0 := by
  unfold sidesF; rw [if_neg (by omega), if_neg (by omega)]
theorem prod_le {r c : Int} (h : (0 ≤ r ∧ r ≤ 2048) ∧ (0 ≤ c ∧ c ≤ 2048)) : 0 ≤ r * c ∧ r * c ≤ 4194304 := by
  obtain ⟨⟨a, b⟩, d, e⟩ := h
  refine ⟨Int.mul_nonneg a d, ?_⟩
  exact Int.le_trans (Int.mul_le_mul b e d (by decide)) (by decide)

/-- The error of a matrix. -/
def checkF (r c : Int) (n : Nat) : Int := if sidesF r c ≠ 0 then sidesF r c else if (n : Int) ≠ r * c then 1 else 0
theorem m_Check (r c : Int) (a : List Rat) (hn : a.length < 1099511627776) : CallOK Tryz.prog 43 [mA r c a] [] (iv (checkF r c a.length)) [] [] := by
  have k1 := m_sides r c
  refine callV (Z := []) tabOK mixedOK Tryz.func43 rfl (by kernel_rfl) rfl rfl (by kernel_rfl) rfl ?_
  intro W0 w0 ρ0 hE
  conv => whnf
  unfold checkF
  by_cases h1 : sidesF r c = 0
  · rw [if_neg (by omega)]
    rw [h1] at k1
    have hp := prod_le (sides_ok h1)
    have t2 : IntKind.i64.wrap (r * c) = r * c := wrap_i64 (by omega) (by omega)
    by_cases h2 : (a.length : Int) = r * c
    · have t3 : ((a.length : Int) != r * c) = false := by rw [h2]; exact bne_self_eq_false _
      rw [if_neg (by omega)]
      clear hp
      (repeat ((first | refine step_w2 rfl rfl ?_ | refine g_c (by assumption) ?_ | rw [bne_self_eq_false] | refine g_o (op_lenM rfl rfl rfl (ev_ok rfl) (tgt rfl) rfl) ?_ | rw [t2] | rw [t3]); conv => whnf)); (first | exact Recast.refl _ | exact Frz.recast (Recast.refl _) rfl | (refine Frz.one rfl rfl ?_; skip) | (refine Frz.tup ?_; skip))
    · have t3 : ((a.length : Int) != r * c) = true := bne_iff_ne.2 h2
      rw [if_pos h2]
      clear hp
      (repeat ((first | refine step_w1 rfl rfl ?_ | refine step_w2 rfl rfl ?_ | refine g_c (by assumption) ?_ | rw [bne_self_eq_false] | refine g_o (op_lenM rfl rfl rfl (ev_ok rfl) (tgt rfl) rfl) ?_ | rw [t2] | rw [t3]); conv => whnf)); (first | exact Recast.refl _ | exact Frz.recast (Recast.refl _) rfl | (refine Frz.one rfl rfl ?_; skip) | (refine Frz.tup ?_; skip))
  · have t1 : (sidesF r c != 0) = true := bne_iff_ne.2 h1
    rw [if_pos h1]
    (repeat (first | (refine step_w1 rfl rfl ?_; conv => whnf) | (refine g_c (by assumption) ?_; conv => whnf) | (rw [t1]; conv => whnf))); (first | exact Recast.refl _ | exact Frz.recast (Recast.refl _) rfl | (refine Frz.one rfl rfl ?_; skip) | (refine Frz.tup ?_; skip))
theorem check_ok {r c : Nat} {n : Nat} (hr : r ≤ 2048) (hc : c ≤ 2048) (hn : n = r * c) : checkF r c n = 0 := by
  unfold checkF
  rw [sides_of (by omega), if_neg (by omega), if_neg (by rw [hn]; push_cast; omega)]
/-- A matrix that fits. -/
structure OKM (R C : Nat) (a : List Rat) : Prop where
  r : R ≤ 2048
  c : C ≤ 2048
  n : a.length = R * C
theorem OKM.small {r c : Nat} {a : List Rat} (h : OKM r c a) : a.length ≤ 4194304 := by rw [h.n]; exact Nat.mul_le_mul h.r h.c
theorem m_Check0 {r c : Nat} {a : List Rat} (h : OKM r c a) : CallOK Tryz.prog 43 [mA r c a] [] (iv 0) [] [] := by
  have := m_Check r c a (by have := h.small; omega)
  rwa [check_ok h.r h.c h.n] at this

/-- The error of the first invalid matrix. -/
def allF : List MV → Int
  | [] => 0
  | m :: l => if checkF m.1 m.2.1 m.2.2.length ≠ 0 then checkF m.1 m.2.1 m.2.2.length else allF l
theorem drop_one {α : Type} {l : List α} {i : Nat} (d : α) (h : i < l.length) : l.drop i = l.getD i d :: l.drop (i + 1) := by
  rw [List.drop_eq_getElem_cons h, List.getD_eq_getElem?_getD, List.getElem?_eq_getElem h]; rfl
abbrev nilM : MV := (0, 0, [])
theorem m_all (l : List MV) (hl : l.length < 1099511627776) (h : ∀ m ∈ l, m.2.2.length < 1099511627776) : CallOK Tryz.prog 172 [mvec 3 mB l] [] (iv (allF l)) [] [] := by
  refine callV (Z := []) tabOK mixedOK Tryz.func172 rfl (by kernel_rfl) rfl rfl (by kernel_rfl) rfl ?_
  intro W0 w0 ρ0 hE
  conv => whnf
  (repeat (first | (refine g_o (op_lenM rfl rfl rfl (ev_ok rfl) (tgt rfl) rfl) ?_; conv => whnf)))
  refine SW_loopN hE (fun k => k) [0, 6, 7, 8] [] (fun m fr hp => ∃ i : Nat, m = l.length - i ∧ i ≤ l.length ∧ allF (l.drop i) = allF l ∧ fr = [(0, mvec 3 mB l), (6, mvec 3 mB l), (7, iv (l.length : Nat)), (8, iv (i : Nat))] ∧ hp = []) l.length ?_ ?_ ?_
  · kernel_rfl
  · exact ⟨0, rfl, Nat.zero_le _, rfl, rfl, rfl⟩
  rintro m _ _ ⟨i, rfl, hi, hs, rfl, rfl⟩
  conv => whnf
  by_cases hlt : i < l.length
  · have t1 := dlt hlt
    have t2 := winc (i := i) (by omega)
    have k1 := m_Check (l.getD i nilM).1 (l.getD i nilM).2.1 (l.getD i nilM).2.2 (h _ (getD_mem hlt))
    rw [drop_one nilM hlt, allF] at hs
    by_cases hc : checkF (l.getD i nilM).1 (l.getD i nilM).2.1 (l.getD i nilM).2.2.length = 0
    · rw [if_neg (by omega)] at hs
      rw [hc] at k1
      (repeat ((first | refine step_w1 rfl rfl ?_ | refine step_w2 rfl rfl ?_ | refine g_c (by assumption) ?_ | rw [bne_self_eq_false] | refine g_o (op_loadA rfl (ev_ok rfl) (tgt rfl) rfl (Nat.succ_ne_zero _) rfl) ?_ | refine g_o (op_indexN (α := MV) (d := nilM) rfl (ev_ok rfl) (ev_ok rfl) (tgt rfl) rfl (tgt rfl) rfl (by omega)) ?_ | rw [t1] | rw [t2]); conv => whnf))
      exact ⟨l.length - (i + 1), fun k => k, [0, 6, 7, 8], [], by omega, by kernel_rfl, i + 1, rfl, hlt, hs, rfl, rfl⟩
    · have t3 : (checkF (l.getD i nilM).1 (l.getD i nilM).2.1 (l.getD i nilM).2.2.length != 0) = true := bne_iff_ne.2 hc
      rw [if_pos hc] at hs
      rw [← hs]
      (repeat ((first | refine step_w1 rfl rfl ?_ | refine g_c (by assumption) ?_ | refine g_o (op_loadA rfl (ev_ok rfl) (tgt rfl) rfl (Nat.succ_ne_zero _) rfl) ?_ | refine g_o (op_indexN (α := MV) (d := nilM) rfl (ev_ok rfl) (ev_ok rfl) (tgt rfl) rfl (tgt rfl) rfl (by omega)) ?_ | rw [t1] | rw [t3]); conv => whnf)); (first | exact Recast.refl _ | exact Frz.recast (Recast.refl _) rfl | (refine Frz.one rfl rfl ?_; skip) | (refine Frz.tup ?_; skip))
  · have t1 := dge hlt
    have hI : i = l.length := by omega
    rw [hI, List.drop_length] at hs
    rw [← hs]
    (repeat (first | (refine step_w2 rfl rfl ?_; conv => whnf) | (rw [t1]; conv => whnf))); (first | exact Recast.refl _ | exact Frz.recast (Recast.refl _) rfl | (refine Frz.one rfl rfl ?_; skip) | (refine Frz.tup ?_; skip))
theorem m_all2 {r c s t : Nat} {a b : List Rat} (ha : OKM r c a) (hb : OKM s t b) : CallOK Tryz.prog 172 [mvec 3 mB [((r : Int), (c : Int), a), ((s : Int), (t : Int), b)]] [] (iv 0) [] [] := by
  have := m_all [((r : Int), (c : Int), a), ((s : Int), (t : Int), b)] (by simp) (by
    intro m hm
    have h1 := ha.small; have h2 := hb.small
    simp only [List.mem_cons, List.not_mem_nil, or_false] at hm
    rcases hm with rfl | rfl
    · show a.length < _; omega
    · show b.length < _; omega)
  rwa [allF, if_neg (by rw [check_ok ha.r ha.c ha.n]; decide), allF, if_neg (by rw [check_ok hb.r hb.c hb.n]; decide), allF] at this
theorem m_all1 {r c : Nat} {a : List Rat} (ha : OKM r c a) : CallOK Tryz.prog 172 [mvec 3 mB [((r : Int), (c : Int), a)]] [] (iv 0) [] [] := by
  have := m_all [((r : Int), (c : Int), a)] (by simp) (by
    intro m hm
    have h1 := ha.small
    simp only [List.mem_cons, List.not_mem_nil, or_false] at hm
    obtain rfl := hm
    show a.length < _; omega)
  rwa [allF, if_neg (by rw [check_ok ha.r ha.c ha.n]; decide), allF] at this

/-- The error of vectors that are too long. -/
def shortF (l : List (List Rat)) : Int := if l.any (fun v => decide (2048 < v.length)) then 3 else 0
theorem m_short (ls : List (List Rat)) (hn : ls.length < 1099511627776) (hl : ∀ v ∈ ls, v.length < 1099511627776) : CallOK Tryz.prog 183 [mvec 1 fvec ls] [] (iv (shortF ls)) [] [] := by
  refine callV (Z := []) tabOK mixedOK Tryz.func183 rfl (by kernel_rfl) rfl rfl (by kernel_rfl) rfl ?_
  intro W0 w0 ρ0 hE
  conv => whnf
  (repeat (first | (refine g_o (op_lenM rfl rfl rfl (ev_ok rfl) (tgt rfl) rfl) ?_; conv => whnf)))
  refine SW_loopN hE (fun k => k) [0, 5, 6, 7] [] (fun m fr hp => ∃ i : Nat, m = ls.length - i ∧ i ≤ ls.length ∧ (∀ j, j < i → decide (2048 < (ls.getD j []).length) = false) ∧ fr = [(0, mvec 1 fvec ls), (5, mvec 1 fvec ls), (6, iv (ls.length : Nat)), (7, iv (i : Nat))] ∧ hp = []) ls.length ?_ ?_ ?_
  · kernel_rfl
  · exact ⟨0, rfl, Nat.zero_le _, (fun j hj => by omega), rfl, rfl⟩
  rintro m _ _ ⟨i, rfl, hi, hs, rfl, rfl⟩
  conv => whnf
  by_cases hlt : i < ls.length
  · have t1 := dlt hlt
    have t2 := winc (i := i) (by omega)
    by_cases hL : 2048 < (ls.getD i []).length
    · have t3 : decide (((ls.getD i []).length : Int) > 2048) = true := decide_eq_true (by omega)
      have e : shortF ls = 3 := by rw [shortF, if_pos (any_at (d := []) hlt (decide_eq_true hL))]
      rw [e]
      (repeat ((first | refine step_w1 rfl rfl ?_ | refine g_o (op_lenM rfl rfl rfl (ev_ok rfl) (tgt rfl) rfl) ?_ | refine g_o (op_loadA rfl (ev_ok rfl) (tgt rfl) rfl (Nat.succ_ne_zero _) rfl) ?_ | refine g_o (op_indexN (α := List Rat) (d := []) rfl (ev_ok rfl) (ev_ok rfl) (tgt rfl) rfl (tgt rfl) rfl (by omega)) ?_ | rw [t1] | rw [t3]); conv => whnf)); (first | exact Recast.refl _ | exact Frz.recast (Recast.refl _) rfl | (refine Frz.one rfl rfl ?_; skip) | (refine Frz.tup ?_; skip))
    · have t3 : decide (((ls.getD i []).length : Int) > 2048) = false := decide_eq_false (by omega)
      (repeat ((first | refine step_w1 rfl rfl ?_ | refine step_w2 rfl rfl ?_ | refine g_o (op_lenM rfl rfl rfl (ev_ok rfl) (tgt rfl) rfl) ?_ | refine g_o (op_loadA rfl (ev_ok rfl) (tgt rfl) rfl (Nat.succ_ne_zero _) rfl) ?_ | refine g_o (op_indexN (α := List Rat) (d := []) rfl (ev_ok rfl) (ev_ok rfl) (tgt rfl) rfl (tgt rfl) rfl (by omega)) ?_ | rw [t1] | rw [t3] | rw [t2]); conv => whnf))
      refine ⟨ls.length - (i + 1), fun k => k, [0, 5, 6, 7], [], by omega, by kernel_rfl, i + 1, rfl, hlt, ?_, rfl, rfl⟩
      intro j hj
      by_cases hji : j = i
      · rw [hji]; exact decide_eq_false hL
      · exact hs j (by omega)
  · have t1 := dge hlt
    have hI : i = ls.length := by omega
    subst hI
    have e : shortF ls = 0 := by rw [shortF, if_neg]; rw [any_no [] hs]; exact Bool.false_ne_true
    rw [e]
    (repeat (first | (refine step_w2 rfl rfl ?_; conv => whnf) | (rw [t1]; conv => whnf))); (first | exact Recast.refl _ | exact Frz.recast (Recast.refl _) rfl | (refine Frz.one rfl rfl ?_; skip) | (refine Frz.tup ?_; skip))

theorem m_has (i : Int) (n : Int) : CallOK Tryz.prog 176 [iv i, iv n] [] (.val (.bool (decide (0 ≤ i ∧ i < n)))) [] [] := by
  refine callV (Z := []) tabOK mixedOK Tryz.func176 rfl (by kernel_rfl) rfl rfl (by kernel_rfl) rfl ?_
  intro W0 w0 ρ0 hE
  conv => whnf
  by_cases h1 : i < 0
  · have t1 : decide (i ≥ 0) = false := decide_eq_false (by omega)
    rw [decide_eq_false (show ¬ (0 ≤ i ∧ i < n) by omega)]
    (repeat (first | (refine step_w2 rfl rfl ?_; conv => whnf) | (refine g_o (op_pickF rfl (ev_ok rfl) (ev_ok rfl)) ?_; conv => whnf) | (rw [t1]; conv => whnf))); (first | exact Recast.refl _ | exact Frz.recast (Recast.refl _) rfl | (refine Frz.one rfl rfl ?_; skip) | (refine Frz.tup ?_; skip))
  · have t1 : decide (i ≥ 0) = true := decide_eq_true (by omega)
    by_cases h2 : i < n
    · have t2 : decide (i < n) = true := decide_eq_true h2
      rw [decide_eq_true (show 0 ≤ i ∧ i < n by omega)]
      (repeat ((first | refine step_w1 rfl rfl ?_ | refine g_o (op_pickT rfl (ev_ok rfl) (ev_ok rfl)) ?_ | rw [t1] | rw [t2]); conv => whnf)); (first | exact Recast.refl _ | exact Frz.recast (Recast.refl _) rfl | (refine Frz.one rfl rfl ?_; skip) | (refine Frz.tup ?_; skip))
    · have t2 : decide (i < n) = false := decide_eq_false h2
      rw [decide_eq_false (show ¬ (0 ≤ i ∧ i < n) by omega)]
      (repeat ((first | refine step_w1 rfl rfl ?_ | refine g_o (op_pickT rfl (ev_ok rfl) (ev_ok rfl)) ?_ | rw [t1] | rw [t2]); conv => whnf)); (first | exact Recast.refl _ | exact Frz.recast (Recast.refl _) rfl | (refine Frz.one rfl rfl ?_; skip) | (refine Frz.tup ?_; skip))

theorem idx_w {i k c : Nat} (hi : i ≤ 2048) (hc : c ≤ 2048) (hk : k ≤ 2048) : IntKind.i64.wrap ((i : Int) * (c : Int)) = ((i * c : Nat) : Int) ∧ IntKind.i64.wrap (((i * c : Nat) : Int) + (k : Int)) = ((i * c + k : Nat) : Int) := by
  have h1 : i * c ≤ 2048 * 2048 := Nat.mul_le_mul hi hc
  constructor
  · rw [← Int.natCast_mul, wrap_i64 (by omega) (by omega)]
  · rw [wrap_i64 (by omega) (by omega)]; omega
theorem m_at {r c : Nat} {a : List Rat} (h : OKM r c a) {i k : Nat} (hi : i < r) (hk : k < c) : CallOK Tryz.prog 157 [mA r c a, iv i, iv k] [] (.frac (el a c i k)) [] [] := by
  obtain ⟨t1, t2⟩ := idx_w (i := i) (k := k) (c := c) (by have := h.r; omega) h.c (by have := h.c; omega)
  have hlt := idx_lt hi hk
  rw [← h.n] at hlt
  refine callV (Z := []) tabOK mixedOK Tryz.func157 rfl (by kernel_rfl) rfl rfl (by kernel_rfl) rfl ?_
  intro W0 w0 ρ0 hE
  conv => whnf
  (repeat ((first | refine g_o (op_loadA rfl (ev_ok rfl) (tgt rfl) rfl (Nat.succ_ne_zero _) rfl) ?_ | refine g_o (op_indexM (α := Rat) (d := 0) rfl (ev_ok rfl) (ev_ok rfl) (tgt rfl) rfl (tgt rfl) rfl (by omega)) ?_ | rw [t1] | rw [t2] | rw [Int.toNat_natCast]); conv => whnf)); (first | exact Recast.refl _ | exact Frz.recast (Recast.refl _) rfl | (refine Frz.one rfl rfl ?_; skip) | (refine Frz.tup ?_; skip))

/-- A row. -/
abbrev rowL (a : List Rat) (c i : Nat) : List Rat := (a.drop (i * c)).take c
theorem rowL_len {r c i : Nat} {a : List Rat} (hi : i < r) (h : a.length = r * c) : (rowL a c i).length = c := by
  have := Nat.mul_le_mul_right c (show i + 1 ≤ r from hi)
  rw [Nat.succ_mul] at this
  rw [List.length_take, List.length_drop]; omega
theorem rowL_get {a : List Rat} {c i k : Nat} (hk : k < c) : (rowL a c i).getD k 0 = el a c i k := by
  simp [List.getD_eq_getElem?_getD, hk]
theorem row_w {i c : Nat} (hi : i ≤ 2047) (hc : c ≤ 2048) : IntKind.i64.wrap ((i : Int) * (c : Int)) = ((i * c : Nat) : Int) ∧ IntKind.i64.wrap (((i + 1 : Nat) : Int) * (c : Int)) = (((i + 1) * c : Nat) : Int) ∧ IntKind.i64.wrap ((i : Int) + 1) = ((i + 1 : Nat) : Int) :=
  ⟨(idx_w (i := i) (k := 0) (by omega) hc (by omega)).1, (idx_w (i := i + 1) (k := 0) (by omega) hc (by omega)).1, winc (by omega)⟩
theorem m_rowV {r c : Nat} {a : List Rat} (h : OKM r c a) {i : Nat} (hi : i < r) : CallOK Tryz.prog 84 [mA r c a, iv i] [] (fvec (rowL a c i)) [] [] := by
  obtain ⟨t1, t2, t3⟩ := row_w (i := i) (c := c) (by have := h.r; omega) h.c
  have hlt := Nat.mul_le_mul_right c (show i + 1 ≤ r from hi)
  have hle : i * c ≤ (i + 1) * c := Nat.mul_le_mul_right c (by omega)
  rw [← h.n] at hlt
  have e1 : (i + 1) * c - i * c = c := by rw [Nat.succ_mul]; omega
  refine callV (Z := []) tabOK mixedOK Tryz.func84 rfl (by kernel_rfl) rfl rfl (by kernel_rfl) rfl ?_
  intro W0 w0 ρ0 hE
  conv => whnf
  (repeat ((first | refine step_i (by kernel_rfl) ?_ | refine g_o (op_sliceM rfl (ev_ok rfl) (bound_spec rfl) (bound_spec rfl) (.inr ⟨Option.some_ne_none _, _, _, rfl, ev_ok rfl⟩) (tgt rfl) rfl (tgt rfl) rfl (by omega)) ?_ | rw [t1] | rw [t3] | rw [t2] | rw [e1] | rw [Int.toNat_natCast]); conv => whnf))
  (first | exact Recast.refl _ | exact Frz.recast (Recast.refl _) rfl | (refine Frz.one rfl rfl ?_; skip) | (refine Frz.tup ?_; skip))
end Go.Proofs.YtkpfineikahgfaaGreatDoor

namespace Go.Sx
set_option linter.unusedSimpArgs false
set_option linter.unusedVariables false
section
variable {P : Program} {o : Oper} {ft : List (Nat × SV)} {fk : List (Nat × Blk)}
/-- 'x[lo:hi:hi]' of a slice, within its length. -/
theorem op_slice3 {t e : TypeId} {x lo hi mx : Operand} {ti te : TI} {k s i n : Nat} {l h : Int} {kl kh km : IntKind} (ho : o.op = .slice t x (some lo) (some hi) (some mx)) (hx : EvOK ft x (.slc k s i n))
    (hlo : EvOK ft lo (.val (.int kl l))) (hhi : EvOK ft hi (.val (.int kh h))) (hmx : EvOK ft mx (.val (.int km h)))
    (ht : TOK P t ti) (hk : ti.kind = .slc e) (he : TOK P e te) (hs : te.size = s) (hh : 0 ≤ l ∧ l ≤ h ∧ h ≤ n) : OpOK P o ft fk (.slc k s (i + l.toNat) (h - l).toNat) [] [] :=
  ok_pure fun ρ a w hp => by
    obtain ⟨h0, hlh, hh⟩ := hh
    have hu := ht.kind; rw [hk] at hu
    have key : ∀ (ad : Option Addr) (m cap : Nat), n = m → m ≤ cap → a.eval x = .slice ad m cap →
        (execOp a.eval o).run P w = .ok (.value (.slice (if h.toNat = l.toNat then ad else ad.map (·.add (l.toNat * s))) (h.toNat - l.toNat) (h.toNat - l.toNat))) w := by
      intro ad m cap hnm hmc hv
      have hr : ∀ (z : Operand) (kd : IntKind) (bd : Nat), EvOK ft z (.val (.int kd h)) → h.toNat ≤ bd → ∀ q, (Instr.sliceBound (a.eval z) bd q).run P w = .ok h.toNat w := by
        intro z kd bd hz hbd q
        have := of_has_val (hz ρ a hp.hft)
        have hb : 0 ≤ h ∧ h ≤ (bd : Int) := by omega
        simp [Instr.sliceBound, this, asIntOf, hb]
      have hl : ∀ q, (Instr.sliceBound (a.eval lo) h.toNat q).run P w = .ok l.toNat w := by
        intro q
        have := of_has_val (hlo ρ a hp.hft)
        have hb : 0 ≤ l ∧ l ≤ (h.toNat : Int) := by omega
        simp only [Instr.sliceBound, this, asIntOf, Sem.run_bind, Sem.run_pure, Result.andThen_ok, hb, and_self, if_true]
      have hbnds : (Instr.sliceBounds true m cap (some (a.eval lo)) (some (a.eval hi)) (some (a.eval mx))).run P w = .ok (l.toNat, h.toNat, h.toNat) w := by
        unfold Instr.sliceBounds
        simp [hr mx km cap hmx (by omega), hr hi kh h.toNat hhi (Nat.le_refl _), hl]
      simp only [execOp, ho, Option.map_some, Instr.sliceAt, Sem.run_bind, run_underlying hu, Result.andThen_ok, Instr.slice, hv, hbnds, he.sizeOf, hs, Sem.run_pure]
    rcases has_slc (hx ρ a hp.hft) with ⟨b, t', cap, h1, h2, h3, h4⟩ | ⟨rfl, ad, h4⟩
    · refine ⟨_, key _ n cap rfl h2 h4, slc_has ?_⟩
      by_cases hc : h.toNat = l.toNat
      · right
        have : h.toNat - l.toNat = 0 := by omega
        refine ⟨by omega, some ⟨b, i * s, none⟩, ?_⟩
        rw [if_pos hc, this]
      · left
        refine ⟨b, t', h.toNat - l.toNat, h1, by omega, ?_, ?_⟩
        · exact Nat.le_trans (Nat.mul_le_mul_right s (show i + l.toNat + (h.toNat - l.toNat) ≤ i + cap by omega)) h3
        · rw [if_neg hc]
          have hadd : (⟨b, i * s, none⟩ : Addr).add (l.toNat * s) = ⟨b, (i + l.toNat) * s, none⟩ := by
            unfold Addr.add
            rw [Nat.add_mul]
            split
            · rename_i h0; simp [h0]
            · rfl
          rw [Option.map_some, hadd, show (h - l).toNat = h.toNat - l.toNat from by omega]
    · refine ⟨_, key ad 0 0 rfl (Nat.le_refl _) h4, slc_has (.inr ⟨by omega, ad, ?_⟩)⟩
      have h1 : l.toNat = 0 := by omega
      have h2 : h.toNat = 0 := by omega
      simp [h1, h2]
/-- A function that is no nil. -/
theorem op_eqNilF {f : FuncId} {a b : List SV} {t t2 : TypeId} {x y : Operand} {p r : Array TypeId} {v : Bool} (ho : o.op = .binOp .eql t x y t2) (hx : EvOK ft x (.clo f a b)) (hy : EvOK ft y (.val .nilFunc)) (hu : P.underlying t = some (.func p r v)) : OpOK P o ft fk (.val (.bool false)) [] [] :=
  ok_pure fun ρ ac w hp => by
    have h1 := hx ρ ac hp.hft
    simp only [Has, HasC] at h1
    obtain ⟨_, ⟨fz, cz, _, _, rfl⟩, e1⟩ := h1
    have e2 := of_has_val (hy ρ ac hp.hft)
    simp only [mkV, SV.isOne, if_true, List.headD_cons] at e1
    have hq : ∀ d vs ws, (Op.equalIn (d + 1) t (.func (.func f) vs ws) .nilFunc).run P w = .ok false w := fun d vs ws => by simp [Op.equalIn, run_underlying hu]
    have hq' : ∀ vs ws, (Op.equal t (.func (.func f) vs ws) .nilFunc).run P w = .ok false w := fun vs ws => hq 9999 vs ws
    refine ⟨_, ?_, has_val rfl⟩
    simp [execOp, ho, e1, e2, eqGuard, binOp, hq']
end
end Go.Sx
namespace Go.Proofs.YtkpfineikahgfaaGreatDoor
open Go.Sx
set_option linter.unusedSimpArgs false
set_option linter.unusedVariables false
set_option maxRecDepth 100000
set_option maxHeartbeats 4000000

/-- The zero matrix behind a pointer; a matrix whose elements lie in the block K. -/
abbrev zM : Blk := ⟨27, true, .one [iv 0, iv 0, .val (.slice none 0 0)]⟩
abbrev bM (r c K : Nat) : Blk := ⟨27, true, .one [iv r, iv c, .slc K 5 0 (r * c)]⟩
abbrev fblk (l : List Rat) : Blk := ⟨38, true, .fracs l⟩
theorem m_rowM {r c : Nat} {a : List Rat} (h : OKM r c a) {i : Nat} (hi : i < r) (K : Nat) : CallOK Tryz.prog 84 [.agg [iv r, iv c, .slc K 5 0 (r * c)], iv i] [(K, fblk a)] (.slc K 5 (i * c) c) [] [] := by
  obtain ⟨t1, t2, t3⟩ := row_w (i := i) (c := c) (by have := h.r; omega) h.c
  have hlt := Nat.mul_le_mul_right c (show i + 1 ≤ r from hi)
  have hle : i * c ≤ (i + 1) * c := Nat.mul_le_mul_right c (by omega)
  have e1 : (((i + 1) * c : Nat) - (i * c : Nat) : Int).toNat = c := by rw [Nat.succ_mul]; omega
  refine CallOK.anyWr ?_
  refine callK (Z := []) tabOK mixedOK Tryz.func84 rfl (by kernel_rfl) (args := [.agg [iv r, iv c, .slc 1001 5 0 (r * c)], iv i]) (fk := [(1001, ⟨38, false, .fracs a⟩)]) (c := .slc 1001 5 (i * c) c) (new := []) (upd := []) (ShapeOK.of rfl rfl rfl rfl rfl rfl rfl rfl rfl rfl rfl) rfl (fun _ => K) (NamesOK.ro rfl) ?_
  intro W0 w0 ρ0 hE
  conv => whnf
  (repeat ((first | refine step_i (by kernel_rfl) ?_ | refine g_o (op_slice3 rfl (ev_ok rfl) (ev_ok rfl) (ev_ok rfl) (ev_ok rfl) (tgt rfl) rfl (tgt rfl) rfl (by omega)) ?_ | rw [t1] | rw [t3] | rw [t2] | rw [e1] | rw [Int.toNat_natCast] | rw [Nat.zero_add]); conv => whnf))
  exact ⟨Recast.refl _, (fun _ _ h => by cases h), (fun _ _ h => by cases h)⟩

theorem m_Make0 {r c : Nat} (hr : r ≤ 2048) (hc : c ≤ 2048) (F : Nat → Nat → Rat) (g : FuncId) 
    (hf : ∀ i k, i < r → k < c → CallOK Tryz.prog g ([] ++ ([iv (i : Nat), iv (k : Nat)] ++ [])) [] (.frac (F i k)) [] []) :
    CallOK Tryz.prog 14 [iv r, iv c, .clo g [] []] [] (.tup [mA r c (mk r c F), iv 0]) [] [] := by
  have k1 := m_sides r c
  rw [sides_of (by omega)] at k1
  have hz : (mk r c F).length = r * c := mk_len ..
  have hrc : r * c ≤ 2048 * 2048 := Nat.mul_le_mul hr hc
  have t1 : IntKind.i64.wrap ((r : Int) * (c : Int)) = ((r * c : Nat) : Int) := by rw [← Int.natCast_mul, wrap_i64 (by omega) (by omega)]
  refine callF (Z := []) tabOK mixedOK Tryz.func14 rfl (by kernel_rfl) (by first | rfl | (simp [keylessL, keyless, keylessL_map, *]; done)) (by first | rfl | (simp [keylessL, keyless, keylessL_map, *]; done)) (by kernel_rfl) rfl ?_
  intro w0 ρ0 hE
  conv => whnf
  (repeat ((first | refine step_w2 rfl rfl ?_ | refine step_oA (by first | omega | decide | (simp only [tiB5, tiB95, tiB3, tiB2, tiB9, tiB38, tiB74, tiB25, tiB41, tiB36, tiB30, tiB4, tiB70, tiB72, tiB164, tiB27, tiB62, tiB32, dlen, List.length_replicate, List.length_set, List.length_map, List.length_zipWith, List.length_take, List.length_append, List.length_cons, List.length_nil]; omega)) ?_ | refine g_c (by assumption) ?_ | rw [bne_self_eq_false] | refine ⟨_, op_eqNilF rfl (ev_ok rfl) (ev_ok rfl) Tryz.underlying40, ?_⟩ | rw [t1] | rw [Int.toNat_natCast]); conv => whnf))
  refine SW_loopN hE (fun k => k) [0, 1, 2, 6, 9, 30, 31] [6, 9, 25] (fun m fr hp => ∃ i : Nat, m = r - i ∧ i ≤ r ∧ fr = [(0, iv r), (1, iv c), (2, .clo g [] []), (6, .ptr 6 0 0 0), (9, .ptr 9 0 0 0), (30, iv r), (31, iv (i : Nat))] ∧
    hp = [(6, zM), (9, bM r c 25), (25, fblk ((mk r c F).take (i * c) ++ List.replicate (r * c - i * c) 0))]) r ?_ ?_ ?_
  · kernel_rfl
  · exact ⟨0, rfl, Nat.zero_le _, rfl, by rw [Nat.zero_mul, List.take_zero]; rfl⟩
  rintro m _ _ ⟨i, rfl, hi, rfl, rfl⟩
  conv => whnf
  by_cases hlt : i < r
  · have t2 := dlt hlt
    have t3 := winc (i := i) (by omega)
    have hic : (i + 1) * c ≤ r * c := Nat.mul_le_mul_right c hlt
    rw [Nat.succ_mul] at hic
    have hlen := fill_len (d := (0 : Rat)) (show i * c ≤ r * c by omega) hz
    have o1 := m_rowM (a := (mk r c F).take (i * c) ++ List.replicate (r * c - i * c) 0) ⟨hr, hc, hlen⟩ hlt 25
    (repeat (first | (refine step_w1 rfl rfl ?_; conv => whnf) | (refine g_c1 (by assumption) rfl ?_; conv => whnf) | (rw [t2]; conv => whnf)))
    refine SW_loopN hE (fun k => k) [0, 1, 2, 6, 9, 10, 11, 30, 31, 37, 38] [6, 9, 25] (fun m fr hp => ∃ k : Nat, m = c - k ∧ k ≤ c ∧ fr = [(0, iv r), (1, iv c), (2, .clo g [] []), (6, .ptr 6 0 0 0), (9, .ptr 9 0 0 0), (10, iv (i : Nat)), (11, .slc 25 5 (i * c) c), (30, iv r), (31, iv (i : Nat)), (37, iv c), (38, iv (k : Nat))] ∧
      hp = [(6, zM), (9, bM r c 25), (25, fblk ((mk r c F).take (i * c + k) ++ List.replicate (r * c - (i * c + k)) 0))]) c ?_ ?_ ?_
    · kernel_rfl
    · exact ⟨0, rfl, Nat.zero_le _, rfl, rfl⟩
    rintro m _ _ ⟨k, rfl, hk, rfl, rfl⟩
    conv => whnf
    by_cases hlk : k < c
    · have t4 := dlt hlk
      have t5 := winc (i := k) (by omega)
      have hlen := fill_len (d := (0 : Rat)) (show i * c + k ≤ r * c by omega) hz
      have o2 := hf i k hlt hlk
      rw [← mk_el (f := F) hlt hlk] at o2
      (repeat ((first | refine step_w1 rfl rfl ?_ | refine step_oL (by first | omega | decide | (simp only [tiB5, tiB95, tiB3, tiB2, tiB9, tiB38, tiB74, tiB25, tiB41, tiB36, tiB30, tiB4, tiB70, tiB72, tiB164, tiB27, tiB62, tiB32, dlen, List.length_replicate, List.length_set, List.length_map, List.length_zipWith, List.length_take, List.length_append, List.length_cons, List.length_nil]; omega)) ?_ | refine step_oA (by first | omega | decide | (simp only [tiB5, tiB95, tiB3, tiB2, tiB9, tiB38, tiB74, tiB25, tiB41, tiB36, tiB30, tiB4, tiB70, tiB72, tiB164, tiB27, tiB62, tiB32, dlen, List.length_replicate, List.length_set, List.length_map, List.length_zipWith, List.length_take, List.length_append, List.length_cons, List.length_nil]; omega)) ?_ | refine g_c (by assumption) ?_ | rw [t4] | rw [t5] | rw [Int.toNat_natCast]); conv => whnf))
      refine ⟨c - (k + 1), fun k => k, [0, 1, 2, 6, 9, 10, 11, 30, 31, 37, 38], [6, 9, 25], by omega, by kernel_rfl, k + 1, rfl, hlk, rfl, ?_⟩
      rw [show i * c + (k + 1) = i * c + k + 1 from rfl, fblk, ← fill_set (e := 0) (show i * c + k < r * c by omega) hz]
      rfl
    · have t4 := dge hlk
      obtain rfl : k = c := by omega
      (repeat (first | (refine step_w2 rfl rfl ?_; conv => whnf) | (rw [t4]; conv => whnf) | (rw [t3]; conv => whnf)))
      refine ⟨r - (i + 1), fun k => k, [0, 1, 2, 6, 9, 30, 31], [6, 9, 25], by omega, by kernel_rfl, i + 1, rfl, hlt, rfl, ?_⟩
      rw [Nat.succ_mul]
      rfl
  · have t2 := dge hlt
    obtain rfl : i = r := by omega
    rw [fill_all hz]
    (repeat (first | (refine step_w2 rfl rfl ?_; conv => whnf) | (rw [t2]; conv => whnf)))
    (first | exact Recast.refl _ | exact Frz.recast (Recast.refl _) rfl | (refine Frz.one rfl rfl ?_; skip) | (refine Frz.tup ?_; (repeat (first | exact FrzC.keyless rfl | exact FrzL.nil | refine FrzL.cons ?_ ?_ | (refine FrzC.fracs rfl ?_; (first | rfl | omega | (simp <;> fail) | (simp <;> omega))) | refine FrzC.agg ?_))))
theorem m_Make1 {r c : Nat} (hr : r ≤ 2048) (hc : c ≤ 2048) (F : Nat → Nat → Rat) (g : FuncId) (p : Pred)
    (hf : ∀ i k, i < r → k < c → CallOK Tryz.prog g ([] ++ ([iv (i : Nat), iv (k : Nat)] ++ [.atom p])) [] (.frac (F i k)) [] []) :
    CallOK Tryz.prog 14 [iv r, iv c, .clo g [] [.atom p]] [] (.tup [mA r c (mk r c F), iv 0]) [] [] := by
  have k1 := m_sides r c
  rw [sides_of (by omega)] at k1
  have hz : (mk r c F).length = r * c := mk_len ..
  have hrc : r * c ≤ 2048 * 2048 := Nat.mul_le_mul hr hc
  have t1 : IntKind.i64.wrap ((r : Int) * (c : Int)) = ((r * c : Nat) : Int) := by rw [← Int.natCast_mul, wrap_i64 (by omega) (by omega)]
  refine callF (Z := []) tabOK mixedOK Tryz.func14 rfl (by kernel_rfl) (by first | rfl | (simp [keylessL, keyless, keylessL_map, *]; done)) (by first | rfl | (simp [keylessL, keyless, keylessL_map, *]; done)) (by kernel_rfl) rfl ?_
  intro w0 ρ0 hE
  conv => whnf
  (repeat ((first | refine step_w2 rfl rfl ?_ | refine step_oA (by first | omega | decide | (simp only [tiB5, tiB95, tiB3, tiB2, tiB9, tiB38, tiB74, tiB25, tiB41, tiB36, tiB30, tiB4, tiB70, tiB72, tiB164, tiB27, tiB62, tiB32, dlen, List.length_replicate, List.length_set, List.length_map, List.length_zipWith, List.length_take, List.length_append, List.length_cons, List.length_nil]; omega)) ?_ | refine g_c (by assumption) ?_ | rw [bne_self_eq_false] | refine ⟨_, op_eqNilF rfl (ev_ok rfl) (ev_ok rfl) Tryz.underlying40, ?_⟩ | rw [t1] | rw [Int.toNat_natCast]); conv => whnf))
  refine SW_loopN hE (fun k => k) [0, 1, 2, 6, 9, 30, 31] [6, 9, 25] (fun m fr hp => ∃ i : Nat, m = r - i ∧ i ≤ r ∧ fr = [(0, iv r), (1, iv c), (2, .clo g [] [.atom p]), (6, .ptr 6 0 0 0), (9, .ptr 9 0 0 0), (30, iv r), (31, iv (i : Nat))] ∧
    hp = [(6, zM), (9, bM r c 25), (25, fblk ((mk r c F).take (i * c) ++ List.replicate (r * c - i * c) 0))]) r ?_ ?_ ?_
  · kernel_rfl
  · exact ⟨0, rfl, Nat.zero_le _, rfl, by rw [Nat.zero_mul, List.take_zero]; rfl⟩
  rintro m _ _ ⟨i, rfl, hi, rfl, rfl⟩
  conv => whnf
  by_cases hlt : i < r
  · have t2 := dlt hlt
    have t3 := winc (i := i) (by omega)
    have hic : (i + 1) * c ≤ r * c := Nat.mul_le_mul_right c hlt
    rw [Nat.succ_mul] at hic
    have hlen := fill_len (d := (0 : Rat)) (show i * c ≤ r * c by omega) hz
    have o1 := m_rowM (a := (mk r c F).take (i * c) ++ List.replicate (r * c - i * c) 0) ⟨hr, hc, hlen⟩ hlt 25
    (repeat (first | (refine step_w1 rfl rfl ?_; conv => whnf) | (refine g_c1 (by assumption) rfl ?_; conv => whnf) | (rw [t2]; conv => whnf)))
    refine SW_loopN hE (fun k => k) [0, 1, 2, 6, 9, 10, 11, 30, 31, 37, 38] [6, 9, 25] (fun m fr hp => ∃ k : Nat, m = c - k ∧ k ≤ c ∧ fr = [(0, iv r), (1, iv c), (2, .clo g [] [.atom p]), (6, .ptr 6 0 0 0), (9, .ptr 9 0 0 0), (10, iv (i : Nat)), (11, .slc 25 5 (i * c) c), (30, iv r), (31, iv (i : Nat)), (37, iv c), (38, iv (k : Nat))] ∧
      hp = [(6, zM), (9, bM r c 25), (25, fblk ((mk r c F).take (i * c + k) ++ List.replicate (r * c - (i * c + k)) 0))]) c ?_ ?_ ?_
    · kernel_rfl
    · exact ⟨0, rfl, Nat.zero_le _, rfl, rfl⟩
    rintro m _ _ ⟨k, rfl, hk, rfl, rfl⟩
    conv => whnf
    by_cases hlk : k < c
    · have t4 := dlt hlk
      have t5 := winc (i := k) (by omega)
      have hlen := fill_len (d := (0 : Rat)) (show i * c + k ≤ r * c by omega) hz
      have o2 := hf i k hlt hlk
      rw [← mk_el (f := F) hlt hlk] at o2
      (repeat ((first | refine step_w1 rfl rfl ?_ | refine step_oL (by first | omega | decide | (simp only [tiB5, tiB95, tiB3, tiB2, tiB9, tiB38, tiB74, tiB25, tiB41, tiB36, tiB30, tiB4, tiB70, tiB72, tiB164, tiB27, tiB62, tiB32, dlen, List.length_replicate, List.length_set, List.length_map, List.length_zipWith, List.length_take, List.length_append, List.length_cons, List.length_nil]; omega)) ?_ | refine step_oA (by first | omega | decide | (simp only [tiB5, tiB95, tiB3, tiB2, tiB9, tiB38, tiB74, tiB25, tiB41, tiB36, tiB30, tiB4, tiB70, tiB72, tiB164, tiB27, tiB62, tiB32, dlen, List.length_replicate, List.length_set, List.length_map, List.length_zipWith, List.length_take, List.length_append, List.length_cons, List.length_nil]; omega)) ?_ | refine g_c (by assumption) ?_ | rw [t4] | rw [t5] | rw [Int.toNat_natCast]); conv => whnf))
      refine ⟨c - (k + 1), fun k => k, [0, 1, 2, 6, 9, 10, 11, 30, 31, 37, 38], [6, 9, 25], by omega, by kernel_rfl, k + 1, rfl, hlk, rfl, ?_⟩
      rw [show i * c + (k + 1) = i * c + k + 1 from rfl, fblk, ← fill_set (e := 0) (show i * c + k < r * c by omega) hz]
      rfl
    · have t4 := dge hlk
      obtain rfl : k = c := by omega
      (repeat (first | (refine step_w2 rfl rfl ?_; conv => whnf) | (rw [t4]; conv => whnf) | (rw [t3]; conv => whnf)))
      refine ⟨r - (i + 1), fun k => k, [0, 1, 2, 6, 9, 30, 31], [6, 9, 25], by omega, by kernel_rfl, i + 1, rfl, hlt, rfl, ?_⟩
      rw [Nat.succ_mul]
      rfl
  · have t2 := dge hlt
    obtain rfl : i = r := by omega
    rw [fill_all hz]
    (repeat (first | (refine step_w2 rfl rfl ?_; conv => whnf) | (rw [t2]; conv => whnf)))
    (first | exact Recast.refl _ | exact Frz.recast (Recast.refl _) rfl | (refine Frz.one rfl rfl ?_; skip) | (refine Frz.tup ?_; (repeat (first | exact FrzC.keyless rfl | exact FrzL.nil | refine FrzL.cons ?_ ?_ | (refine FrzC.fracs rfl ?_; (first | rfl | omega | (simp <;> fail) | (simp <;> omega))) | refine FrzC.agg ?_))))
theorem m_Make2 {r c : Nat} (hr : r ≤ 2048) (hc : c ≤ 2048) (F : Nat → Nat → Rat) (g : FuncId) (p q : Pred)
    (hf : ∀ i k, i < r → k < c → CallOK Tryz.prog g ([] ++ ([iv (i : Nat), iv (k : Nat)] ++ [.atom p, .atom q])) [] (.frac (F i k)) [] []) :
    CallOK Tryz.prog 14 [iv r, iv c, .clo g [] [.atom p, .atom q]] [] (.tup [mA r c (mk r c F), iv 0]) [] [] := by
  have k1 := m_sides r c
  rw [sides_of (by omega)] at k1
  have hz : (mk r c F).length = r * c := mk_len ..
  have hrc : r * c ≤ 2048 * 2048 := Nat.mul_le_mul hr hc
  have t1 : IntKind.i64.wrap ((r : Int) * (c : Int)) = ((r * c : Nat) : Int) := by rw [← Int.natCast_mul, wrap_i64 (by omega) (by omega)]
  refine callF (Z := []) tabOK mixedOK Tryz.func14 rfl (by kernel_rfl) (by first | rfl | (simp [keylessL, keyless, keylessL_map, *]; done)) (by first | rfl | (simp [keylessL, keyless, keylessL_map, *]; done)) (by kernel_rfl) rfl ?_
  intro w0 ρ0 hE
  conv => whnf
  (repeat ((first | refine step_w2 rfl rfl ?_ | refine step_oA (by first | omega | decide | (simp only [tiB5, tiB95, tiB3, tiB2, tiB9, tiB38, tiB74, tiB25, tiB41, tiB36, tiB30, tiB4, tiB70, tiB72, tiB164, tiB27, tiB62, tiB32, dlen, List.length_replicate, List.length_set, List.length_map, List.length_zipWith, List.length_take, List.length_append, List.length_cons, List.length_nil]; omega)) ?_ | refine g_c (by assumption) ?_ | rw [bne_self_eq_false] | refine ⟨_, op_eqNilF rfl (ev_ok rfl) (ev_ok rfl) Tryz.underlying40, ?_⟩ | rw [t1] | rw [Int.toNat_natCast]); conv => whnf))
  refine SW_loopN hE (fun k => k) [0, 1, 2, 6, 9, 30, 31] [6, 9, 25] (fun m fr hp => ∃ i : Nat, m = r - i ∧ i ≤ r ∧ fr = [(0, iv r), (1, iv c), (2, .clo g [] [.atom p, .atom q]), (6, .ptr 6 0 0 0), (9, .ptr 9 0 0 0), (30, iv r), (31, iv (i : Nat))] ∧
    hp = [(6, zM), (9, bM r c 25), (25, fblk ((mk r c F).take (i * c) ++ List.replicate (r * c - i * c) 0))]) r ?_ ?_ ?_
  · kernel_rfl
  · exact ⟨0, rfl, Nat.zero_le _, rfl, by rw [Nat.zero_mul, List.take_zero]; rfl⟩
  rintro m _ _ ⟨i, rfl, hi, rfl, rfl⟩
  conv => whnf
  by_cases hlt : i < r
  · have t2 := dlt hlt
    have t3 := winc (i := i) (by omega)
    have hic : (i + 1) * c ≤ r * c := Nat.mul_le_mul_right c hlt
    rw [Nat.succ_mul] at hic
    have hlen := fill_len (d := (0 : Rat)) (show i * c ≤ r * c by omega) hz
    have o1 := m_rowM (a := (mk r c F).take (i * c) ++ List.replicate (r * c - i * c) 0) ⟨hr, hc, hlen⟩ hlt 25
    (repeat (first | (refine step_w1 rfl rfl ?_; conv => whnf) | (refine g_c1 (by assumption) rfl ?_; conv => whnf) | (rw [t2]; conv => whnf)))
    refine SW_loopN hE (fun k => k) [0, 1, 2, 6, 9, 10, 11, 30, 31, 37, 38] [6, 9, 25] (fun m fr hp => ∃ k : Nat, m = c - k ∧ k ≤ c ∧ fr = [(0, iv r), (1, iv c), (2, .clo g [] [.atom p, .atom q]), (6, .ptr 6 0 0 0), (9, .ptr 9 0 0 0), (10, iv (i : Nat)), (11, .slc 25 5 (i * c) c), (30, iv r), (31, iv (i : Nat)), (37, iv c), (38, iv (k : Nat))] ∧
      hp = [(6, zM), (9, bM r c 25), (25, fblk ((mk r c F).take (i * c + k) ++ List.replicate (r * c - (i * c + k)) 0))]) c ?_ ?_ ?_
    · kernel_rfl
    · exact ⟨0, rfl, Nat.zero_le _, rfl, rfl⟩
    rintro m _ _ ⟨k, rfl, hk, rfl, rfl⟩
    conv => whnf
    by_cases hlk : k < c
    · have t4 := dlt hlk
      have t5 := winc (i := k) (by omega)
      have hlen := fill_len (d := (0 : Rat)) (show i * c + k ≤ r * c by omega) hz
      have o2 := hf i k hlt hlk
      rw [← mk_el (f := F) hlt hlk] at o2
      (repeat ((first | refine step_w1 rfl rfl ?_ | refine step_oL (by first | omega | decide | (simp only [tiB5, tiB95, tiB3, tiB2, tiB9, tiB38, tiB74, tiB25, tiB41, tiB36, tiB30, tiB4, tiB70, tiB72, tiB164, tiB27, tiB62, tiB32, dlen, List.length_replicate, List.length_set, List.length_map, List.length_zipWith, List.length_take, List.length_append, List.length_cons, List.length_nil]; omega)) ?_ | refine step_oA (by first | omega | decide | (simp only [tiB5, tiB95, tiB3, tiB2, tiB9, tiB38, tiB74, tiB25, tiB41, tiB36, tiB30, tiB4, tiB70, tiB72, tiB164, tiB27, tiB62, tiB32, dlen, List.length_replicate, List.length_set, List.length_map, List.length_zipWith, List.length_take, List.length_append, List.length_cons, List.length_nil]; omega)) ?_ | refine g_c (by assumption) ?_ | rw [t4] | rw [t5] | rw [Int.toNat_natCast]); conv => whnf))
      refine ⟨c - (k + 1), fun k => k, [0, 1, 2, 6, 9, 10, 11, 30, 31, 37, 38], [6, 9, 25], by omega, by kernel_rfl, k + 1, rfl, hlk, rfl, ?_⟩
      rw [show i * c + (k + 1) = i * c + k + 1 from rfl, fblk, ← fill_set (e := 0) (show i * c + k < r * c by omega) hz]
      rfl
    · have t4 := dge hlk
      obtain rfl : k = c := by omega
      (repeat (first | (refine step_w2 rfl rfl ?_; conv => whnf) | (rw [t4]; conv => whnf) | (rw [t3]; conv => whnf)))
      refine ⟨r - (i + 1), fun k => k, [0, 1, 2, 6, 9, 30, 31], [6, 9, 25], by omega, by kernel_rfl, i + 1, rfl, hlt, rfl, ?_⟩
      rw [Nat.succ_mul]
      rfl
  · have t2 := dge hlt
    obtain rfl : i = r := by omega
    rw [fill_all hz]
    (repeat (first | (refine step_w2 rfl rfl ?_; conv => whnf) | (rw [t2]; conv => whnf)))
    (first | exact Recast.refl _ | exact Frz.recast (Recast.refl _) rfl | (refine Frz.one rfl rfl ?_; skip) | (refine Frz.tup ?_; (repeat (first | exact FrzC.keyless rfl | exact FrzL.nil | refine FrzL.cons ?_ ?_ | (refine FrzC.fracs rfl ?_; (first | rfl | omega | (simp <;> fail) | (simp <;> omega))) | refine FrzC.agg ?_))))
theorem m_Make3 {r c : Nat} (hr : r ≤ 2048) (hc : c ≤ 2048) (F : Nat → Nat → Rat) (g : FuncId) (p q s : Pred)
    (hf : ∀ i k, i < r → k < c → CallOK Tryz.prog g ([] ++ ([iv (i : Nat), iv (k : Nat)] ++ [.atom p, .atom q, .atom s])) [] (.frac (F i k)) [] []) :
    CallOK Tryz.prog 14 [iv r, iv c, .clo g [] [.atom p, .atom q, .atom s]] [] (.tup [mA r c (mk r c F), iv 0]) [] [] := by
  have k1 := m_sides r c
  rw [sides_of (by omega)] at k1
  have hz : (mk r c F).length = r * c := mk_len ..
  have hrc : r * c ≤ 2048 * 2048 := Nat.mul_le_mul hr hc
  have t1 : IntKind.i64.wrap ((r : Int) * (c : Int)) = ((r * c : Nat) : Int) := by rw [← Int.natCast_mul, wrap_i64 (by omega) (by omega)]
  refine callF (Z := []) tabOK mixedOK Tryz.func14 rfl (by kernel_rfl) (by first | rfl | (simp [keylessL, keyless, keylessL_map, *]; done)) (by first | rfl | (simp [keylessL, keyless, keylessL_map, *]; done)) (by kernel_rfl) rfl ?_
  intro w0 ρ0 hE
  conv => whnf
  (repeat ((first | refine step_w2 rfl rfl ?_ | refine step_oA (by first | omega | decide | (simp only [tiB5, tiB95, tiB3, tiB2, tiB9, tiB38, tiB74, tiB25, tiB41, tiB36, tiB30, tiB4, tiB70, tiB72, tiB164, tiB27, tiB62, tiB32, dlen, List.length_replicate, List.length_set, List.length_map, List.length_zipWith, List.length_take, List.length_append, List.length_cons, List.length_nil]; omega)) ?_ | refine g_c (by assumption) ?_ | rw [bne_self_eq_false] | refine ⟨_, op_eqNilF rfl (ev_ok rfl) (ev_ok rfl) Tryz.underlying40, ?_⟩ | rw [t1] | rw [Int.toNat_natCast]); conv => whnf))
  refine SW_loopN hE (fun k => k) [0, 1, 2, 6, 9, 30, 31] [6, 9, 25] (fun m fr hp => ∃ i : Nat, m = r - i ∧ i ≤ r ∧ fr = [(0, iv r), (1, iv c), (2, .clo g [] [.atom p, .atom q, .atom s]), (6, .ptr 6 0 0 0), (9, .ptr 9 0 0 0), (30, iv r), (31, iv (i : Nat))] ∧
    hp = [(6, zM), (9, bM r c 25), (25, fblk ((mk r c F).take (i * c) ++ List.replicate (r * c - i * c) 0))]) r ?_ ?_ ?_
  · kernel_rfl
  · exact ⟨0, rfl, Nat.zero_le _, rfl, by rw [Nat.zero_mul, List.take_zero]; rfl⟩
  rintro m _ _ ⟨i, rfl, hi, rfl, rfl⟩
  conv => whnf
  by_cases hlt : i < r
  · have t2 := dlt hlt
    have t3 := winc (i := i) (by omega)
    have hic : (i + 1) * c ≤ r * c := Nat.mul_le_mul_right c hlt
    rw [Nat.succ_mul] at hic
    have hlen := fill_len (d := (0 : Rat)) (show i * c ≤ r * c by omega) hz
    have o1 := m_rowM (a := (mk r c F).take (i * c) ++ List.replicate (r * c - i * c) 0) ⟨hr, hc, hlen⟩ hlt 25
    (repeat (first | (refine step_w1 rfl rfl ?_; conv => whnf) | (refine g_c1 (by assumption) rfl ?_; conv => whnf) | (rw [t2]; conv => whnf)))
    refine SW_loopN hE (fun k => k) [0, 1, 2, 6, 9, 10, 11, 30, 31, 37, 38] [6, 9, 25] (fun m fr hp => ∃ k : Nat, m = c - k ∧ k ≤ c ∧ fr = [(0, iv r), (1, iv c), (2, .clo g [] [.atom p, .atom q, .atom s]), (6, .ptr 6 0 0 0), (9, .ptr 9 0 0 0), (10, iv (i : Nat)), (11, .slc 25 5 (i * c) c), (30, iv r), (31, iv (i : Nat)), (37, iv c), (38, iv (k : Nat))] ∧
      hp = [(6, zM), (9, bM r c 25), (25, fblk ((mk r c F).take (i * c + k) ++ List.replicate (r * c - (i * c + k)) 0))]) c ?_ ?_ ?_
    · kernel_rfl
    · exact ⟨0, rfl, Nat.zero_le _, rfl, rfl⟩
    rintro m _ _ ⟨k, rfl, hk, rfl, rfl⟩
    conv => whnf
    by_cases hlk : k < c
    · have t4 := dlt hlk
      have t5 := winc (i := k) (by omega)
      have hlen := fill_len (d := (0 : Rat)) (show i * c + k ≤ r * c by omega) hz
      have o2 := hf i k hlt hlk
      rw [← mk_el (f := F) hlt hlk] at o2
      (repeat ((first | refine step_w1 rfl rfl ?_ | refine step_oL (by first | omega | decide | (simp only [tiB5, tiB95, tiB3, tiB2, tiB9, tiB38, tiB74, tiB25, tiB41, tiB36, tiB30, tiB4, tiB70, tiB72, tiB164, tiB27, tiB62, tiB32, dlen, List.length_replicate, List.length_set, List.length_map, List.length_zipWith, List.length_take, List.length_append, List.length_cons, List.length_nil]; omega)) ?_ | refine step_oA (by first | omega | decide | (simp only [tiB5, tiB95, tiB3, tiB2, tiB9, tiB38, tiB74, tiB25, tiB41, tiB36, tiB30, tiB4, tiB70, tiB72, tiB164, tiB27, tiB62, tiB32, dlen, List.length_replicate, List.length_set, List.length_map, List.length_zipWith, List.length_take, List.length_append, List.length_cons, List.length_nil]; omega)) ?_ | refine g_c (by assumption) ?_ | rw [t4] | rw [t5] | rw [Int.toNat_natCast]); conv => whnf))
      refine ⟨c - (k + 1), fun k => k, [0, 1, 2, 6, 9, 10, 11, 30, 31, 37, 38], [6, 9, 25], by omega, by kernel_rfl, k + 1, rfl, hlk, rfl, ?_⟩
      rw [show i * c + (k + 1) = i * c + k + 1 from rfl, fblk, ← fill_set (e := 0) (show i * c + k < r * c by omega) hz]
      rfl
    · have t4 := dge hlk
      obtain rfl : k = c := by omega
      (repeat (first | (refine step_w2 rfl rfl ?_; conv => whnf) | (rw [t4]; conv => whnf) | (rw [t3]; conv => whnf)))
      refine ⟨r - (i + 1), fun k => k, [0, 1, 2, 6, 9, 30, 31], [6, 9, 25], by omega, by kernel_rfl, i + 1, rfl, hlt, rfl, ?_⟩
      rw [Nat.succ_mul]
      rfl
  · have t2 := dge hlt
    obtain rfl : i = r := by omega
    rw [fill_all hz]
    (repeat (first | (refine step_w2 rfl rfl ?_; conv => whnf) | (rw [t2]; conv => whnf)))
    (first | exact Recast.refl _ | exact Frz.recast (Recast.refl _) rfl | (refine Frz.one rfl rfl ?_; skip) | (refine Frz.tup ?_; (repeat (first | exact FrzC.keyless rfl | exact FrzL.nil | refine FrzL.cons ?_ ?_ | (refine FrzC.fracs rfl ?_; (first | rfl | omega | (simp <;> fail) | (simp <;> omega))) | refine FrzC.agg ?_))))
end Go.Proofs.YtkpfineikahgfaaGreatDoor

namespace Go.Proofs.YtkpfineikahgfaaGreatDoor
open Go.Sx
set_option linter.unusedSimpArgs false
set_option linter.unusedVariables false
set_option maxRecDepth 100000
set_option maxHeartbeats 4000000

theorem delta_eq (i k : Nat) : delta i k = if i = k then ((1 : Int) : Rat) else 0 := by unfold delta; split <;> simp
theorem m_One1 (i k : Nat) (hi : i ≤ 2048) (hk : k ≤ 2048) : CallOK Tryz.prog 88 ([] ++ ([iv (i : Nat), iv (k : Nat)] ++ [])) [] (.frac (delta i k)) [] [] := by
  have k1 := c_fInt 1 (by decide) (by decide)
  rw [delta_eq]
  refine callV (Z := []) tabOK mixedOK Tryz.func88 rfl (by kernel_rfl) rfl rfl (by kernel_rfl) rfl ?_
  intro W0 w0 ρ0 hE
  conv => whnf
  by_cases h : i = k
  · have t1 : ((i : Int) != (k : Int)) = false := by rw [h]; exact bne_self_eq_false _
    rw [if_pos h]
    (repeat (first | (refine step_w2 rfl rfl ?_; conv => whnf) | (refine g_c (by assumption) ?_; conv => whnf) | (rw [t1]; conv => whnf))); (first | exact Recast.refl _ | exact Frz.recast (Recast.refl _) rfl | (refine Frz.one rfl rfl ?_; skip) | (refine Frz.tup ?_; skip))
  · have t1 : ((i : Int) != (k : Int)) = true := bne_iff_ne.2 (by omega)
    rw [if_neg h]
    (repeat (first | (refine step_w1 rfl rfl ?_; conv => whnf) | (rw [t1]; conv => whnf))); (first | exact Recast.refl _ | exact Frz.recast (Recast.refl _) rfl | (refine Frz.one rfl rfl ?_; skip) | (refine Frz.tup ?_; skip))
theorem m_One (n : Nat) (hn : n ≤ 2048) : CallOK Tryz.prog 19 [iv n] [] (.tup [mA n n (mone n), iv 0]) [] [] := by
  have k1 := m_Make0 hn hn delta 88 (fun i k hi hk => m_One1 i k (by omega) (by omega))
  refine callV (Z := []) tabOK mixedOK Tryz.func19 rfl (by kernel_rfl) rfl rfl (by kernel_rfl) rfl ?_
  intro W0 w0 ρ0 hE
  conv => whnf
  (repeat (first | (refine g_c (by assumption) ?_; conv => whnf))); (first | exact Recast.refl _ | exact Frz.recast (Recast.refl _) rfl | (refine Frz.one rfl rfl ?_; skip) | (refine Frz.tup ?_; skip))

theorem m_Turn1 {r c : Nat} {a : List Rat} (ha : OKM r c a) (i k : Nat) (hi : i < c) (hk : k < r) : CallOK Tryz.prog 156 ([] ++ ([iv (i : Nat), iv (k : Nat)] ++ [ptrA (mC r c a)])) [] (.frac (el a c k i)) [] [] := by
  have k1 := m_at ha hk hi
  refine callV (Z := []) tabOK mixedOK Tryz.func156 rfl (by kernel_rfl) rfl rfl (by kernel_rfl) rfl ?_
  intro W0 w0 ρ0 hE
  conv => whnf
  (repeat (first | (refine g_c (by assumption) ?_; conv => whnf) | (refine g_o (op_loadA rfl (ev_ok rfl) (tgt rfl) rfl (Nat.succ_ne_zero _) rfl) ?_; conv => whnf))); (first | exact Recast.refl _ | exact Frz.recast (Recast.refl _) rfl | (refine Frz.one rfl rfl ?_; skip) | (refine Frz.tup ?_; skip))
theorem m_Turn {r c : Nat} {a : List Rat} (ha : OKM r c a) : CallOK Tryz.prog 57 [mA r c a] [] (.tup [mA c r (mturn r c a), iv 0]) [] [] := by
  have k0 := m_Check0 ha
  have k1 := m_Make1 ha.c ha.r _ 156 (ptrP (mC r c a)) (fun i k hi hk => m_Turn1 ha i k hi hk)
  refine callV (Z := [1]) tabOK mixedOK Tryz.func57 rfl (by kernel_rfl) rfl rfl (by kernel_rfl) rfl ?_
  intro W0 w0 ρ0 hE
  conv => whnf
  (repeat ((first | refine step_w2 rfl rfl ?_ | refine g_c (by assumption) ?_ | rw [bne_self_eq_false] | refine g_o (op_loadA rfl (ev_ok rfl) (tgt rfl) rfl (Nat.succ_ne_zero _) rfl) ?_ | refine g_o (op_fieldA rfl (ev_ok rfl) (tgt rfl) rfl rfl (Nat.succ_ne_zero _) rfl) ?_ | refine g_o (op_makeFunc rfl rfl rfl) ?_); conv => whnf)); (first | exact Recast.refl _ | exact Frz.recast (Recast.refl _) rfl | (refine Frz.one rfl rfl ?_; skip) | (refine Frz.tup ?_; skip))

end Go.Proofs.YtkpfineikahgfaaGreatDoor

namespace Go.Proofs.YtkpfineikahgfaaGreatDoor
open Go.Sx
set_option linter.unusedSimpArgs false
set_option linter.unusedVariables false
set_option maxRecDepth 100000
set_option maxHeartbeats 4000000

theorem m_Mul1 {r s t A B S : Nat} {a b : List Rat} (ha : OKM r s a) (hb : OKM s t b) (sa : Sm A a) (sb : Sm B b) (hS : s ≤ S) (h : A + B + (2 + S * (A + B)) ≤ 1073741824) (i k : Nat) (hi : i < r) (hk : k < t) :
    CallOK Tryz.prog 173 ([] ++ ([iv (i : Nat), iv (k : Nat)] ++ [ptrA (mC r s a), ptrA (mC s t b)])) [] (.frac (sumR s fun p => el a s i p * el b t p k)) [] [] := by
  have hs := ha.c
  refine callV (Z := []) tabOK mixedOK Tryz.func173 rfl (by kernel_rfl) rfl rfl (by kernel_rfl) rfl ?_
  intro W0 w0 ρ0 hE
  conv => whnf
  (repeat (first | (refine g_o (op_loadA rfl (ev_ok rfl) (tgt rfl) rfl (Nat.succ_ne_zero _) rfl) ?_; conv => whnf) | (refine g_o (op_fieldA rfl (ev_ok rfl) (tgt rfl) rfl rfl (Nat.succ_ne_zero _) rfl) ?_; conv => whnf)))
  refine SW_loopN hE (fun k => k) [0, 1, 2, 3, 6, 7, 11, 12] [6, 7] (fun m fr hp => ∃ (p : Nat) (q : Rat), m = s - p ∧ p ≤ s ∧ q = sumR p (fun p => el a s i p * el b t p k) ∧ fs q ≤ 2 + p * (A + B) ∧ fr = [(0, iv (i : Nat)), (1, iv (k : Nat)), (2, ptrA (mC r s a)), (3, ptrA (mC s t b)), (6, .ptr 6 0 0 0), (7, .ptr 7 0 0 0), (11, iv s), (12, iv (p : Nat))] ∧ hp = [(6, ⟨38, true, .one [.frac 0]⟩), (7, ⟨38, true, .one [.frac q]⟩)]) s ?_ ?_ ?_
  · kernel_rfl
  · exact ⟨0, 0, rfl, Nat.zero_le _, rfl, by rw [fs_zero]; omega, rfl, rfl⟩
  rintro m _ _ ⟨p, q, rfl, hp, hq, hfs, rfl, rfl⟩
  conv => whnf
  by_cases hlt : p < s
  · have t1 := dlt hlt
    have t2 := winc (i := p) (by omega)
    have o1 := m_at ha hi hlt
    have o2 := m_at hb hlt hk
    have b1 := el_sm sa ha.n hi hlt
    have b2 := el_sm sb hb.n hlt hk
    have b3 := fs_mul (el a s i p) (el b t p k)
    have b4 := Nat.mul_le_mul_right (A + B) (show p ≤ S by omega)
    have o3 := f_Mul (el a s i p) (el b t p k) (by omega)
    have o4 := f_Add q (el a s i p * el b t p k) (by omega)
    have b5 := fs_add q (el a s i p * el b t p k)
    have e1 : sumR (p + 1) (fun p => el a s i p * el b t p k) = q + el a s i p * el b t p k := by rw [hq]; rfl
    have e2 : fs (q + el a s i p * el b t p k) ≤ 2 + (p + 1) * (A + B) := by rw [Nat.succ_mul]; omega
    clear hq hfs b1 b2 b3 b4 b5
    generalize q + el a s i p * el b t p k = q1 at *
    (repeat ((first | refine step_w1 rfl rfl ?_ | refine step_i (by kernel_rfl) ?_ | refine g_c (by assumption) ?_ | refine g_o (op_loadA rfl (ev_ok rfl) (tgt rfl) rfl (Nat.succ_ne_zero _) rfl) ?_ | rw [t1] | rw [t2]); conv => whnf))
    exact ⟨s - (p + 1), fun k => k, [0, 1, 2, 3, 6, 7, 11, 12], [6, 7], by omega, by kernel_rfl, p + 1, q1, rfl, hlt, e1.symm, e2, rfl, rfl⟩
  · have t1 := dge hlt
    have hP : p = s := by omega
    subst hP
    rw [← hq]
    (repeat (first | (refine step_w2 rfl rfl ?_; conv => whnf) | (rw [t1]; conv => whnf))); (first | exact Recast.refl _ | exact Frz.recast (Recast.refl _) rfl | (refine Frz.one rfl rfl ?_; skip) | (refine Frz.tup ?_; skip))
theorem m_Mul {r s t A B : Nat} (S : Nat) {a b : List Rat} (ha : OKM r s a) (hb : OKM s t b) (sa : Sm A a) (sb : Sm B b) (hS : s ≤ S) (h : A + B + (2 + S * (A + B)) ≤ 1073741824) :
    CallOK Tryz.prog 70 [mA r s a, mA s t b] [] (.tup [mA r t (mmul r s t a b), iv 0]) [] [] := by
  have k0 := m_all2 ha hb
  have k1 := m_Make2 ha.r hb.c _ 173 (ptrP (mC r s a)) (ptrP (mC s t b)) (m_Mul1 ha hb sa sb hS h)
  refine callV (Z := [2, 3, 9]) tabOK mixedOK Tryz.func70 rfl (by kernel_rfl) rfl rfl (by kernel_rfl) rfl ?_
  intro W0 w0 ρ0 hE
  conv => whnf
  (repeat ((first | refine step_w2 rfl rfl ?_ | refine g_c (by assumption) ?_ | rw [bne_self_eq_false] | refine g_o (op_loadA rfl (ev_ok rfl) (tgt rfl) rfl (Nat.succ_ne_zero _) rfl) ?_ | refine g_o (op_fieldA rfl (ev_ok rfl) (tgt rfl) rfl rfl (Nat.succ_ne_zero _) rfl) ?_ | refine g_o (op_makeFunc rfl rfl rfl) ?_); conv => whnf)); (first | exact Recast.refl _ | exact Frz.recast (Recast.refl _) rfl | (refine Frz.one rfl rfl ?_; skip) | (refine Frz.tup ?_; skip))

theorem row_dot {r c i : Nat} {a v : List Rat} (ha : a.length = r * c) (hv : v.length = c) (hi : i < r) : vdot (rowL a c i) v = (mapply r c a v).getD i 0 := by
  rw [vdot_sum (rowL_len hi ha) hv, mapply_get hi]
  exact sum_congr c fun k hk => by rw [rowL_get hk]
theorem Sm_row {a : List Rat} {r c i A : Nat} (sa : Sm A a) (ha : a.length = r * c) (hi : i < r) : Sm A (rowL a c i) := by
  intro k hk
  rw [rowL_len hi ha] at hk
  rw [rowL_get hk]; exact el_sm sa ha hi hk
theorem m_Apply {r c A B : Nat} (C : Nat) {a v : List Rat} (ha : OKM r c a) (hv : v.length = c) (sa : Sm A a) (sv : Sm B v) (hC : c ≤ C) (h : A + B + (2 + C * (A + B)) ≤ 1073741824) :
    CallOK Tryz.prog 77 [mA r c a, fvec v] [] (.tup [fvec (mapply r c a v), iv 0]) [] [] := by
  have hr := ha.r
  have hc := ha.c
  have k0 := m_all1 ha
  have k1 := m_short [v] (by simp) (by simp; omega)
  rw [show shortF [v] = 0 from by simp [shortF]; omega] at k1
  have t0 : ((v.length : Int) != (c : Int)) = false := by rw [hv]; exact bne_self_eq_false _
  have hz : (mapply r c a v).length = r := mapply_len
  refine callF (Z := [2, 11, 17]) tabOK mixedOK Tryz.func77 rfl (by kernel_rfl) (by first | rfl | (simp [keylessL, keyless, keylessL_map, *]; done)) (by first | rfl | (simp [keylessL, keyless, keylessL_map, *]; done)) (by kernel_rfl) rfl ?_
  intro w0 ρ0 hE
  conv => whnf
  (repeat ((first | refine step_w2 rfl rfl ?_ | refine step_oA (by first | omega | decide | (simp only [tiB5, tiB95, tiB3, tiB2, tiB9, tiB38, tiB74, tiB25, tiB41, tiB36, tiB30, tiB4, tiB70, tiB72, tiB164, tiB27, tiB62, tiB32, dlen, List.length_replicate, List.length_set, List.length_map, List.length_zipWith, List.length_take, List.length_append, List.length_cons, List.length_nil]; omega)) ?_ | refine g_c (by assumption) ?_ | rw [bne_self_eq_false] | refine g_o (op_lenM rfl rfl rfl (ev_ok rfl) (tgt rfl) rfl) ?_ | refine g_o (op_loadA rfl (ev_ok rfl) (tgt rfl) rfl (Nat.succ_ne_zero _) rfl) ?_ | refine g_o (op_fieldA rfl (ev_ok rfl) (tgt rfl) rfl rfl (Nat.succ_ne_zero _) rfl) ?_ | rw [t0] | rw [Int.toNat_natCast]); conv => whnf))
  refine SW_loopN hE (fun k => k) [1, 2, 8, 31, 32] [29] (fun m fr hp => ∃ i : Nat, m = r - i ∧ i ≤ r ∧ fr = [(1, fvec v), (2, ptrA (mC r c a)), (8, .slc 29 5 0 r), (31, iv r), (32, iv (i : Nat))] ∧ hp = [(29, fblk ((mapply r c a v).take i ++ List.replicate (r - i) 0))]) r ?_ ?_ ?_
  · kernel_rfl
  · exact ⟨0, rfl, Nat.zero_le _, rfl, rfl⟩
  rintro m _ _ ⟨i, rfl, hi, rfl, rfl⟩
  have hlen := fill_len (d := (0 : Rat)) hi hz
  conv => whnf
  by_cases hlt : i < r
  · have t1 := dlt hlt
    have t2 := winc (i := i) (by omega)
    have o1 := m_rowV ha hlt
    have l1 := rowL_len hlt ha.n
    have s1 := Sm_row sa ha.n hlt
    have hs : fsL (vmul (rowL a c i) v) ≤ _ := fsL_Sm (Sm_zip fs_mul s1 sv (l1.trans hv.symm))
    rw [zip_len l1 hv] at hs
    have hC2 := Nat.mul_le_mul_right (A + B) hC
    have o2 := v_Dot (rowL a c i) v (l1.trans hv.symm) (by omega) (Fit_Sm s1 sv (l1.trans hv.symm) (by omega)) (by omega)
    rw [row_dot ha.n hv hlt] at o2
    clear hs hC2 s1
    (repeat ((first | refine step_w1 rfl rfl ?_ | refine step_oL (by first | omega | decide | (simp only [tiB5, tiB95, tiB3, tiB2, tiB9, tiB38, tiB74, tiB25, tiB41, tiB36, tiB30, tiB4, tiB70, tiB72, tiB164, tiB27, tiB62, tiB32, dlen, List.length_replicate, List.length_set, List.length_map, List.length_zipWith, List.length_take, List.length_append, List.length_cons, List.length_nil]; omega)) ?_ | refine step_oA (by first | omega | decide | (simp only [tiB5, tiB95, tiB3, tiB2, tiB9, tiB38, tiB74, tiB25, tiB41, tiB36, tiB30, tiB4, tiB70, tiB72, tiB164, tiB27, tiB62, tiB32, dlen, List.length_replicate, List.length_set, List.length_map, List.length_zipWith, List.length_take, List.length_append, List.length_cons, List.length_nil]; omega)) ?_ | refine g_c (by assumption) ?_ | refine g_o (op_loadA rfl (ev_ok rfl) (tgt rfl) rfl (Nat.succ_ne_zero _) rfl) ?_ | rw [t1] | rw [t2] | rw [Int.toNat_natCast] | rw [Nat.zero_add]); conv => whnf))
    refine ⟨r - (i + 1), fun k => k, [1, 2, 8, 31, 32], [29], by omega, by kernel_rfl, i + 1, rfl, hlt, rfl, ?_⟩
    rw [fblk, ← fill_set (e := 0) hlt hz]
    rfl
  · have t1 := dge hlt
    have hI : i = r := by omega
    subst hI
    rw [fill_all hz]
    (repeat (first | (refine step_w2 rfl rfl ?_; conv => whnf) | (rw [t1]; conv => whnf)))
    (first | exact Recast.refl _ | exact Frz.recast (Recast.refl _) rfl | (refine Frz.one rfl rfl ?_; skip) | (refine Frz.tup ?_; (repeat (first | exact FrzC.keyless rfl | exact FrzL.nil | refine FrzL.cons ?_ ?_ | (refine FrzC.fracs rfl ?_; (first | rfl | omega | (simp <;> fail) | (simp <;> omega)))))))

theorem fs_dot {a b : List Rat} {A B n N : Nat} (ha : Sm A a) (hb : Sm B b) (h1 : a.length = n) (h2 : b.length = n) (hn : n ≤ N) : fs (vdot a b) ≤ 2 + N * (A + B) := by
  have := fs_vdot ha hb h1 h2
  have := Nat.mul_le_mul_right (A + B) hn
  omega
theorem Sm_apply {r c A B C : Nat} {a v : List Rat} (ha : a.length = r * c) (hv : v.length = c) (sa : Sm A a) (sv : Sm B v) (hC : c ≤ C) : Sm (2 + C * (A + B)) (mapply r c a v) := by
  intro i hi
  rw [mapply_len] at hi
  rw [← row_dot ha hv hi]
  exact fs_dot (Sm_row sa ha hi) sv (rowL_len hi ha) hv hC
theorem m_Form {r c A B D : Nat} (C : Nat) {a v w : List Rat} (ha : OKM r c a) (hv : v.length = r) (hw : w.length = c) (sa : Sm A a) (sv : Sm D v) (sw : Sm B w) (hC : c ≤ C) (hR : r ≤ C) (h : A + B + (2 + C * (A + B)) ≤ 1073741824)
    (h2 : D + (2 + C * (A + B)) + C * (D + (2 + C * (A + B))) + 2 ≤ 1073741824) :
    CallOK Tryz.prog 79 [mA r c a, fvec v, fvec w] [] (.tup [.frac (mform r c a v w), iv 0]) [] [] := by
  have hr := ha.r
  have hc := ha.c
  have k0 := m_Check0 ha
  have k1 := m_short [v, w] (by simp) (by simp; omega)
  rw [show shortF [v, w] = 0 from by simp [shortF]; omega] at k1
  have k2 := m_Apply C ha hw sa sw hC h
  have s2 := Sm_apply ha.n hw sa sw hC
  have hml : (mapply r c a w).length = r := mapply_len
  have hs : fsL (vmul v (mapply r c a w)) ≤ _ := fsL_Sm (Sm_zip fs_mul sv s2 (hv.trans hml.symm))
  rw [zip_len hv hml] at hs
  have hC2 := Nat.mul_le_mul_right (D + (2 + C * (A + B))) hR
  have k3 := v_Dot v (mapply r c a w) (hv.trans hml.symm) (by omega) (Fit_Sm sv s2 (hv.trans hml.symm) (by omega)) (by omega)
  have t0 : ((v.length : Int) != (r : Int)) = false := by rw [hv]; exact bne_self_eq_false _
  have t1 : ((w.length : Int) != (c : Int)) = false := by rw [hw]; exact bne_self_eq_false _
  clear hs hC2 s2 h2 h
  refine callV (Z := [3, 20]) tabOK mixedOK Tryz.func79 rfl (by kernel_rfl) rfl rfl (by kernel_rfl) rfl ?_
  intro W0 w0 ρ0 hE
  conv => whnf
  (repeat ((first | refine step_w1 rfl rfl ?_ | refine step_w2 rfl rfl ?_ | refine g_c (by assumption) ?_ | refine g_o (op_pickF rfl (ev_ok rfl) (ev_ok rfl)) ?_ | rw [bne_self_eq_false] | refine g_o (op_lenM rfl rfl rfl (ev_ok rfl) (tgt rfl) rfl) ?_ | refine g_o (op_loadA rfl (ev_ok rfl) (tgt rfl) rfl (Nat.succ_ne_zero _) rfl) ?_ | refine g_o (op_fieldA rfl (ev_ok rfl) (tgt rfl) rfl rfl (Nat.succ_ne_zero _) rfl) ?_ | rw [t0] | rw [t1]); conv => whnf)); (first | exact Recast.refl _ | exact Frz.recast (Recast.refl _) rfl | (refine Frz.one rfl rfl ?_; skip) | (refine Frz.tup ?_; skip))

theorem m_Equal (a b : List Rat) (ha : a.length < 1099511627776) (hb : b.length < 1099511627776) : CallOK Tryz.prog 161 [fvec a, fvec b] [] (.val (.bool (decide (a = b)))) [] [] := by
  refine callV (Z := []) tabOK mixedOK Tryz.func161 rfl (by kernel_rfl) rfl rfl (by kernel_rfl) rfl ?_
  intro W0 w0 ρ0 hE
  conv => whnf
  by_cases hab : a.length = b.length
  · have t0 : ((a.length : Int) != (b.length : Int)) = false := by rw [hab]; exact bne_self_eq_false _
    (repeat (first | (refine step_w2 rfl rfl ?_; conv => whnf) | (refine g_o (op_lenM rfl rfl rfl (ev_ok rfl) (tgt rfl) rfl) ?_; conv => whnf) | (rw [t0]; conv => whnf)))
    refine SW_loopN hE (fun k => k) [0, 1, 4, 11, 12, 13] [] (fun m fr hp => ∃ i, m = a.length - i ∧ i ≤ a.length ∧ a.take i = b.take i ∧ fr = [(0, fvec a), (1, fvec b), (4, .val (.bool false)), (11, fvec a), (12, .val (.int .i64 (a.length : Nat))), (13, .val (.int .i64 (i : Nat)))] ∧ hp = []) a.length ?_ ?_ ?_
    · kernel_rfl
    · exact ⟨0, rfl, Nat.zero_le _, rfl, rfl, rfl⟩
    rintro m _ _ ⟨i, rfl, hi, ht, rfl, rfl⟩
    conv => whnf
    by_cases hlt : i < a.length
    · have t1 := dlt hlt
      have t2 := winc (i := i) (by omega)
      by_cases hv : a.getD i 0 = b.getD i 0
      · have t3 : (!decide (a.getD i 0 = b.getD i 0)) = false := by rw [decide_eq_true hv]; rfl
        (repeat ((first | refine step_w1 rfl rfl ?_ | refine step_w2 rfl rfl ?_ | refine step_i (by kernel_rfl) ?_ | refine g_o (op_indexN (α := Rat) (d := 0) rfl (ev_ok rfl) (ev_ok rfl) (tgt rfl) rfl (tgt rfl) rfl (by omega)) ?_ | refine g_o (op_loadA rfl (ev_ok rfl) (tgt rfl) rfl (Nat.succ_ne_zero _) rfl) ?_ | refine ⟨_, op_neAgg tabOK goodOK rfl (ev_ok rfl) (ev_ok rfl) rfl rfl rfl rfl (q_same _ _) q_guard, ?_⟩ | rw [t1] | rw [t3] | rw [t2]); conv => whnf))
        exact ⟨a.length - (i + 1), fun k => k, [0, 1, 4, 11, 12, 13], [], by omega, by kernel_rfl, i + 1, rfl, hlt, by rw [take_snoc a i hlt, take_snoc b i (by omega), ht, hv], rfl, rfl⟩
      · have t3 : (!decide (a.getD i 0 = b.getD i 0)) = true := by rw [decide_eq_false hv]; rfl
        have e : decide (a = b) = false := decide_eq_false (fun h => hv (by rw [h]))
        rw [e]
        (repeat ((first | refine step_w1 rfl rfl ?_ | refine step_i (by kernel_rfl) ?_ | refine g_o (op_indexN (α := Rat) (d := 0) rfl (ev_ok rfl) (ev_ok rfl) (tgt rfl) rfl (tgt rfl) rfl (by omega)) ?_ | refine g_o (op_loadA rfl (ev_ok rfl) (tgt rfl) rfl (Nat.succ_ne_zero _) rfl) ?_ | refine ⟨_, op_neAgg tabOK goodOK rfl (ev_ok rfl) (ev_ok rfl) rfl rfl rfl rfl (q_same _ _) q_guard, ?_⟩ | rw [t1] | rw [t3]); conv => whnf)); (first | exact Recast.refl _ | exact Frz.recast (Recast.refl _) rfl | (refine Frz.one rfl rfl ?_; skip) | (refine Frz.tup ?_; skip))
    · have t1 := dge hlt
      have hI : i = a.length := by omega
      have e : decide (a = b) = true := decide_eq_true (by rw [hI, List.take_length] at ht; rw [ht, hab, List.take_length])
      rw [e]
      (repeat (first | (refine step_w2 rfl rfl ?_; conv => whnf) | (rw [t1]; conv => whnf))); (first | exact Recast.refl _ | exact Frz.recast (Recast.refl _) rfl | (refine Frz.one rfl rfl ?_; skip) | (refine Frz.tup ?_; skip))
  · have t0 : ((a.length : Int) != (b.length : Int)) = true := bne_iff_ne.2 (by omega)
    have e : decide (a = b) = false := decide_eq_false (fun h => hab (by rw [h]))
    rw [e]
    (repeat (first | (refine step_w1 rfl rfl ?_; conv => whnf) | (refine g_o (op_lenM rfl rfl rfl (ev_ok rfl) (tgt rfl) rfl) ?_; conv => whnf) | (rw [t0]; conv => whnf))); (first | exact Recast.refl _ | exact Frz.recast (Recast.refl _) rfl | (refine Frz.one rfl rfl ?_; skip) | (refine Frz.tup ?_; skip))
/-- Whether two matrices are equal. -/
def sameF (r c s t : Int) (a b : List Rat) : Bool := r == s && c == t && decide (a = b)
theorem m_Same (r c s t : Int) (a b : List Rat) (ha : a.length < 1099511627776) (hb : b.length < 1099511627776) : CallOK Tryz.prog 60 [mA r c a, mA s t b] [] (.val (.bool (sameF r c s t a b))) [] [] := by
  have k1 := m_Equal a b ha hb
  unfold sameF
  refine callV (Z := []) tabOK mixedOK Tryz.func60 rfl (by kernel_rfl) rfl rfl (by kernel_rfl) rfl ?_
  intro W0 w0 ρ0 hE
  conv => whnf
  cases h1 : (r == s)
  · (repeat (first | (refine step_w2 rfl rfl ?_; conv => whnf) | (refine g_o (op_pickF rfl (ev_ok rfl) (ev_ok rfl)) ?_; conv => whnf))); (first | exact Recast.refl _ | exact Frz.recast (Recast.refl _) rfl | (refine Frz.one rfl rfl ?_; skip) | (refine Frz.tup ?_; skip))
  · cases h2 : (c == t)
    · (repeat ((first | refine step_w1 rfl rfl ?_ | refine step_w2 rfl rfl ?_ | refine g_o (op_pickT rfl (ev_ok rfl) (ev_ok rfl)) ?_ | refine g_o (op_pickF rfl (ev_ok rfl) (ev_ok rfl)) ?_ | rw [h2]); conv => whnf)); (first | exact Recast.refl _ | exact Frz.recast (Recast.refl _) rfl | (refine Frz.one rfl rfl ?_; skip) | (refine Frz.tup ?_; skip))
    · (repeat ((first | refine step_w1 rfl rfl ?_ | refine g_c (by assumption) ?_ | refine g_o (op_pickT rfl (ev_ok rfl) (ev_ok rfl)) ?_ | rw [h2]); conv => whnf)); (first | exact Recast.refl _ | exact Frz.recast (Recast.refl _) rfl | (refine Frz.one rfl rfl ?_; skip) | (refine Frz.tup ?_; skip))
theorem m_Symmetric {r c : Nat} {a : List Rat} (ha : OKM r c a) : CallOK Tryz.prog 82 [mA r c a] [] (.val (.bool (sameF r c c r a (mturn r c a)))) [] [] := by
  have k1 := m_Turn ha
  have k2 := m_Same r c c r a (mturn r c a) (by have := ha.small; omega) (by rw [mk_len]; have := Nat.mul_le_mul ha.c ha.r; omega)
  refine callV (Z := []) tabOK mixedOK Tryz.func82 rfl (by kernel_rfl) rfl rfl (by kernel_rfl) rfl ?_
  intro W0 w0 ρ0 hE
  conv => whnf
  (repeat (first | (refine step_w1 rfl rfl ?_; conv => whnf) | (refine g_c (by assumption) ?_; conv => whnf) | (refine g_o (op_pickT rfl (ev_ok rfl) (ev_ok rfl)) ?_; conv => whnf))); (first | exact Recast.refl _ | exact Frz.recast (Recast.refl _) rfl | (refine Frz.one rfl rfl ?_; skip) | (refine Frz.tup ?_; skip))
theorem m_Sum {r c : Nat} {a : List Rat} (ha : OKM r c a) (h : fsL a + 2 ≤ 1073741824) : CallOK Tryz.prog 20 [mA r c a] [] (.frac (a.foldl (· + ·) 0)) [] [] := by
  have k1 := m_Check0 ha
  have k2 := f_Sum a (by have := ha.small; omega) h
  refine callV (Z := []) tabOK mixedOK Tryz.func20 rfl (by kernel_rfl) rfl rfl (by kernel_rfl) rfl ?_
  intro W0 w0 ρ0 hE
  conv => whnf
  (repeat (first | (refine step_w2 rfl rfl ?_; conv => whnf) | (refine g_c (by assumption) ?_; conv => whnf))); (first | exact Recast.refl _ | exact Frz.recast (Recast.refl _) rfl | (refine Frz.one rfl rfl ?_; skip) | (refine Frz.tup ?_; skip))
end Go.Proofs.YtkpfineikahgfaaGreatDoor

namespace Go.Proofs.YtkpfineikahgfaaGreatDoor
open Go.Sx
set_option linter.unusedSimpArgs false
set_option linter.unusedVariables false
set_option maxRecDepth 100000
set_option maxHeartbeats 4000000

/-- mats.Of, of as many integers as the sides say. -/
theorem m_Of (r c : Nat) (l : List Int) (hr : r ≤ 2048) (hc : c ≤ 2048) (hl : l.length = r * c) (h : ∀ x ∈ l, -9223372036854775808 ≤ x ∧ x < 9223372036854775808) : CallOK Tryz.prog 76 [iv r, iv c, ivec .i64 l] [] (.tup [mA r c (ofInts l), iv 0]) [] [] := by
  have hb := Nat.mul_le_mul hr hc
  have k1 := v_Of l (by omega) (fun i hi => h _ (getD_mem hi))
  have k0 := m_Check0 (a := ofInts l) ⟨hr, hc, by simpa [ofInts] using hl⟩
  refine callV (Z := []) tabOK mixedOK Tryz.func76 rfl (by kernel_rfl) rfl rfl (by kernel_rfl) rfl ?_
  intro W0 w0 ρ0 hE
  conv => whnf
  (repeat (first | (refine step_w2 rfl rfl ?_; conv => whnf) | (refine g_c (by assumption) ?_; conv => whnf))); (first | exact Recast.refl _ | exact Frz.recast (Recast.refl _) rfl | (refine Frz.one rfl rfl ?_; skip) | (refine Frz.tup ?_; skip))
theorem m_OfE (r c : Int) (l : List Int) (hl : l.length < 1099511627776) (h : ∀ x ∈ l, -9223372036854775808 ≤ x ∧ x < 9223372036854775808) (hE : checkF r c l.length ≠ 0) : CallOK Tryz.prog 76 [iv r, iv c, ivec .i64 l] [] (.tup [mA 0 0 [], iv (checkF r c l.length)]) [] [] := by
  have k1 := v_Of l hl (fun i hi => h _ (getD_mem hi))
  have hz : (ofInts l).length = l.length := by simp [ofInts]
  have k0 := m_Check r c (ofInts l) (by omega)
  rw [hz] at k0
  have t1 : (checkF r c l.length != 0) = true := bne_iff_ne.2 hE
  refine callF (Z := []) tabOK mixedOK Tryz.func76 rfl (by kernel_rfl) (by first | rfl | (simp [keylessL, keyless, keylessL_map, *]; done)) (by first | rfl | (simp [keylessL, keyless, keylessL_map, *]; done)) (by kernel_rfl) rfl ?_
  intro w0 ρ0 hE
  conv => whnf
  (repeat (first | (refine step_w1 rfl rfl ?_; conv => whnf) | (refine g_c (by assumption) ?_; conv => whnf) | (rw [t1]; conv => whnf))); (first | exact Recast.refl _ | exact Frz.recast (Recast.refl _) rfl | (refine Frz.one rfl rfl ?_; skip) | (refine Frz.tup ?_; (repeat (first | exact FrzC.keyless rfl | exact FrzL.nil | refine FrzL.cons ?_ ?_ | exact FrzC.nilS | refine FrzC.agg ?_))))
end Go.Proofs.YtkpfineikahgfaaGreatDoor
