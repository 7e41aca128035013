/- VecsPlays returns true for every input and leaves its arguments as they were: the row, and the card that ties its tables to the program's text. -/
import Derived.Test.YtgodfkgocbppgaaGreatDoorCards
import Derived.Test.YtgodfkgocbppgaaGreatDoorTie
import Derived.WalkKit
import Derived.ProofKit
import Derived.OpenShut
import Derived.Deep.DeepHandedRow
import Derived.Lib.LaidTab
import Derived.Test.YtgodfkgocbppgaaGreatDoorQLVecsPlays4
namespace Go.Proofs.YtgodfkgocbppgaaGreatDoor
open Go.Sx
set_option linter.unusedSimpArgs false
set_option linter.unusedVariables false
set_option maxRecDepth 100000
set_option maxHeartbeats 4000000

theorem r12_Scale (c : Rat) (a : List Rat) (hl : a.length ≤ 2048) (h : ∀ i, i < a.length → fs c + fs (a.getD i 0) ≤ 100000000) : CallOK Tryz.prog 42 [fF c, fFs a] [] (fFs (vscale c a)) [] [] := by
  have hz : (vscale c a).length = a.length := zip_len rfl rfl
  refine callF (Z := [2]) tabOK mixedOK Tryz.func42 rfl (by kernel_rfl) (by first | rfl | (simp [keylessL, keyless, keylessL_map, *]; done)) (by first | rfl | (simp [keylessL, keyless, keylessL_map, *]; done)) (by kernel_rfl) rfl ?_
  intro w0 ρ0 hE
  conv => whnf
  skip
  refine SWx_adopt (t := 5) (k := 2001) (s := 3) (blk := fFblk []) rfl rfl rfl ?_
  refine SW_loopS hE (fun k => k) [1, 2, 5, 6] [2001] (fun m fr hp => ∃ i : Nat, m = a.length - i ∧ i ≤ a.length ∧ fr = [(1, fFs a), (2, ptrA [zZ c.num, nN (c.den - 1)]), (5, .slc 2001 3 0 i), (6, .val (.int .i64 (i : Nat)))] ∧ hp = [(2001, fFblk ((vscale c a).take i))]) a.length ?_ ?_ ?_
  · kernel_rfl
  · exact ⟨0, rfl, Nat.zero_le _, rfl, rfl⟩
  rintro m _ _ ⟨i, rfl, hi, rfl, rfl⟩
  have hlt0 : ((((vscale c a).take i)).map fF).length = i := by rw [List.length_map, List.length_take]; omega
  by_cases hlt : i < a.length
  · have t1 := dlt hlt
    have t2 := winc (i := i) (by omega)
    have k1 := r3_Mul c (a.getD i 0) (h i hlt)
    rw [← get_scale (c := c) (a := a) rfl hlt] at k1
    refine SWx.of hE ?_
    conv => whnf
    (repeat ((first | refine step_w1 rfl rfl ?_ | refine step_i (by kernel_rfl) ?_ | refine step_oA (by first | omega | decide | (simp only [tiB5, tiB23, tiB3, tiB2, tiB9, tiB41, tiB72, tiB29, tiB30, tiB39, tiB33, tiB4, tiB68, tiB70, dlen, List.length_replicate, List.length_set, List.length_map, List.length_zipWith, List.length_take, List.length_append, List.length_cons, List.length_nil]; omega)) ?_ | refine g_c (by assumption) ?_ | refine g_o (op_lenM rfl rfl rfl (ev_ok rfl) (tgt rfl) rfl) ?_ | refine g_o (op_indexN (α := Rat) (d := 0) rfl (ev_ok rfl) (ev_ok rfl) (tgt rfl) rfl (tgt rfl) rfl (by omega)) ?_ | refine g_o (op_loadA rfl (ev_ok rfl) (tgt rfl) rfl (Nat.succ_ne_zero _) rfl) ?_ | rw [t1] | rw [t2]); conv => whnf))
    refine ⟨a.length - (i + 1), renBy [(21, 2001)], [1, 2, 5, 6], [21], by omega, by kernel_rfl, i + 1, rfl, hlt, rfl, ?_⟩
    rw [take_map_snoc (by rw [hz]; exact hlt)]
    rfl
  · have t1 := dge hlt
    have hI : i = a.length := by omega
    subst hI
    have hall : (vscale c a).take a.length = vscale c a := List.take_of_length_le (by omega)
    rw [hall]
    refine SWx_freezeM 5 2001 (fun _ h => h) (fun _ => rfl) rfl rfl hz.symm ?_
    refine SWx.of hE ?_
    conv => whnf
    (repeat (first | (refine step_w2 rfl rfl ?_; conv => whnf) | (refine g_o (op_lenM rfl rfl rfl (ev_ok rfl) (tgt rfl) rfl) ?_; conv => whnf) | (rw [t1]; conv => whnf))); (first | exact Recast.refl _ | exact Frz.recast (Recast.refl _) rfl | (refine Frz.one rfl rfl ?_; skip) | (refine Frz.tup ?_; skip))

abbrev zblkF : Blk := ⟨72, true, .one [.val (.bool false), .val (.slice none 0 0), .val (.slice none 0 0)]⟩
abbrev oblkF (q : Rat) : Blk := ⟨72, true, .one [zZ q.num, nN (q.den - 1)]⟩
theorem r12_Dot (a b : List Rat) (B : Nat) (hab : a.length = b.length) (hl : a.length ≤ 2048) (h : ∀ i, i < a.length → fs (a.getD i 0) + fs (b.getD i 0) ≤ B) (hB : B + (2 + a.length * B) ≤ 100000000) : CallOK Tryz.prog 46 [fFs a, fFs b] [] (fF (vdot a b)) [] [] := by
  have k0 := r3_Int 0 (by decide) (by decide)
  rw [show ((0 : Int) : Rat) = 0 from rfl] at k0
  have hz : (vmul a b).length = a.length := zip_len rfl hab.symm
  refine callV (Z := []) tabOK mixedOK Tryz.func46 rfl (by kernel_rfl) rfl rfl (by kernel_rfl) rfl ?_
  intro W0 w0 ρ0 hE
  conv => whnf
  (repeat (first | (refine g_c (by assumption) ?_; conv => whnf)))
  refine SW_loopN hE (fun k => k) [0, 1, 4, 5, 6] [4, 5] (fun m fr hp => ∃ (i : Nat) (s : Rat), m = a.length - i ∧ i ≤ a.length ∧ s = ((vmul a b).take i).foldl (· + ·) 0 ∧ fs s ≤ 2 + i * B ∧ fr = [(0, fFs a), (1, fFs b), (4, .ptr 4 0 0 0), (5, .ptr 5 0 0 0), (6, .val (.int .i64 (i : Nat)))] ∧ hp = [(4, zblkF), (5, oblkF s)]) a.length ?_ ?_ ?_
  · kernel_rfl
  · exact ⟨0, 0, rfl, Nat.zero_le _, rfl, by rw [fs_zero]; omega, rfl, rfl⟩
  rintro m _ _ ⟨i, s, rfl, hi, hs, hfs, rfl, rfl⟩
  conv => whnf
  by_cases hlt : i < a.length
  · have t1 := dlt hlt
    have t2 := winc (i := i) (by omega)
    have hib : i < b.length := by omega
    have hBi := h i hlt
    have him : i * B ≤ a.length * B := Nat.mul_le_mul_right _ hi
    have hBB : B ≤ 100000000 := by omega
    have k1 := r3_Mul (a.getD i 0) (b.getD i 0) (by omega)
    have hm := fs_mul (a.getD i 0) (b.getD i 0)
    have k2 := r3_Add s (a.getD i 0 * b.getD i 0) (by omega)
    have hs2 : s + a.getD i 0 * b.getD i 0 = ((vmul a b).take (i + 1)).foldl (· + ·) 0 := by
      rw [foldl_take (vmul a b) i (by omega), zip_get (d1 := 0) (d2 := 0) hlt hib, hs]
    have hfa := fs_add s (a.getD i 0 * b.getD i 0)
    (repeat ((first | refine step_w1 rfl rfl ?_ | refine step_i (by kernel_rfl) ?_ | refine g_c (by assumption) ?_ | refine g_o (op_lenM rfl rfl rfl (ev_ok rfl) (tgt rfl) rfl) ?_ | refine g_o (op_indexN (α := Rat) (d := 0) rfl (ev_ok rfl) (ev_ok rfl) (tgt rfl) rfl (tgt rfl) rfl (by omega)) ?_ | refine g_o (op_loadA rfl (ev_ok rfl) (tgt rfl) rfl (Nat.succ_ne_zero _) rfl) ?_ | rw [t1] | rw [t2]); conv => whnf))
    refine ⟨a.length - (i + 1), fun k => k, [0, 1, 4, 5, 6], [4, 5], by omega, by kernel_rfl, i + 1, s + a.getD i 0 * b.getD i 0, rfl, hlt, hs2, ?_, rfl, rfl⟩
    rw [Nat.succ_mul]; omega
  · have t1 := dge hlt
    have hI : i = a.length := by omega
    subst hI
    have e : vdot a b = s := by rw [hs, List.take_of_length_le (by omega)]; rfl
    rw [e]
    (repeat (first | (refine step_w2 rfl rfl ?_; conv => whnf) | (refine g_o (op_lenM rfl rfl rfl (ev_ok rfl) (tgt rfl) rfl) ?_; conv => whnf) | (rw [t1]; conv => whnf)))
    exact Recast.refl _

theorem r12_Max (l : List Rat) (B : Nat) (hl : l.length ≤ 2048) (hB : 2 ≤ B) (hB2 : B + B ≤ 100000000) (h : ∀ i, i < l.length → fs (l.getD i 0) ≤ B) : CallOK Tryz.prog 47 [fFs l] [] (fF (vmax l)) [] [] := by
  have k0 := r3_Int 0 (by decide) (by decide)
  rw [show ((0 : Int) : Rat) = 0 from rfl] at k0
  refine callV (Z := []) tabOK mixedOK Tryz.func47 rfl (by kernel_rfl) rfl rfl (by kernel_rfl) rfl ?_
  intro W0 w0 ρ0 hE
  conv => whnf
  (repeat (first | (refine g_c (by assumption) ?_; conv => whnf)))
  refine SW_loopN hE (fun k => k) [0, 2, 3, 4] [2, 3] (fun m fr hp => ∃ (i : Nat) (q : Rat), m = l.length - i ∧ i ≤ l.length ∧ vmaxF (l.drop i) q = vmax l ∧ fs q ≤ B ∧ fr = [(0, fFs l), (2, .ptr 2 0 0 0), (3, .ptr 3 0 0 0), (4, .val (.int .i64 (i : Nat)))] ∧ hp = [(2, zblkF), (3, oblkF q)]) l.length ?_ ?_ ?_
  · kernel_rfl
  · exact ⟨0, 0, rfl, Nat.zero_le _, rfl, by rw [fs_zero]; exact hB, rfl, rfl⟩
  rintro m _ _ ⟨i, q, rfl, hi, hv, hq, rfl, rfl⟩
  conv => whnf
  by_cases hlt : i < l.length
  · have t1 := dlt hlt
    have t2 := winc (i := i) (by omega)
    have hx := h i hlt
    have hd : l.drop i = l.getD i 0 :: l.drop (i + 1) := by rw [List.drop_eq_getElem_cons hlt, List.getD_eq_getElem?_getD, List.getElem?_eq_getElem hlt]; rfl
    rw [hd, vmaxF] at hv
    generalize hxe : l.getD i 0 = x at *
    obtain ⟨b1, b2⟩ := tl_fs (q := x) (Nat.le_refl _)
    have k1 := r3_Sign x (by omega)
    have k2 := r3_Neg x (by omega)
    have hfx : fs (rabs x) ≤ B := by rw [fs_abs]; exact hx
    have k3 := r3_Cmp (rabs x) q (by omega)
    by_cases hneg : x.num < 0
    · have t3 : decide (x.num.sign < 0) = true := decide_eq_true (Int.sign_neg_iff.2 hneg)
      have er : rabs x = -x := if_pos hneg
      rw [← er] at k2
      by_cases hc : 0 < (rabs x - q).num.sign
      · have t4 : decide ((rabs x - q).num.sign > 0) = true := decide_eq_true hc
        rw [if_pos hc] at hv
        (repeat ((first | refine step_w1 rfl rfl ?_ | refine g_c (by assumption) ?_ | refine g_o (op_lenM rfl rfl rfl (ev_ok rfl) (tgt rfl) rfl) ?_ | refine g_o (op_indexN (α := Rat) (d := 0) rfl (ev_ok rfl) (ev_ok rfl) (tgt rfl) rfl (tgt rfl) rfl (by omega)) ?_ | refine g_o (op_loadA rfl (ev_ok rfl) (tgt rfl) rfl (Nat.succ_ne_zero _) rfl) ?_ | rw [hxe] | rw [t1] | rw [t3] | rw [t4] | rw [t2]); conv => whnf))
        exact ⟨l.length - (i + 1), fun k => k, [0, 2, 3, 4], [2, 3], by omega, by kernel_rfl, i + 1, rabs x, rfl, hlt, hv, hfx, rfl, rfl⟩
      · have t4 : decide ((rabs x - q).num.sign > 0) = false := decide_eq_false hc
        rw [if_neg hc] at hv
        (repeat ((first | refine step_w1 rfl rfl ?_ | refine step_w2 rfl rfl ?_ | refine g_c (by assumption) ?_ | refine g_o (op_lenM rfl rfl rfl (ev_ok rfl) (tgt rfl) rfl) ?_ | refine g_o (op_indexN (α := Rat) (d := 0) rfl (ev_ok rfl) (ev_ok rfl) (tgt rfl) rfl (tgt rfl) rfl (by omega)) ?_ | refine g_o (op_loadA rfl (ev_ok rfl) (tgt rfl) rfl (Nat.succ_ne_zero _) rfl) ?_ | rw [hxe] | rw [t1] | rw [t3] | rw [t4] | rw [t2]); conv => whnf))
        exact ⟨l.length - (i + 1), fun k => k, [0, 2, 3, 4], [2, 3], by omega, by kernel_rfl, i + 1, q, rfl, hlt, hv, hq, rfl, rfl⟩
    · have t3 : decide (x.num.sign < 0) = false := decide_eq_false (fun h => hneg (Int.sign_neg_iff.1 h))
      have er : rabs x = x := if_neg hneg
      rw [er] at k3 hv hfx
      by_cases hc : 0 < (x - q).num.sign
      · have t4 : decide ((x - q).num.sign > 0) = true := decide_eq_true hc
        rw [if_pos hc] at hv
        (repeat ((first | refine step_w1 rfl rfl ?_ | refine step_w2 rfl rfl ?_ | refine g_c (by assumption) ?_ | refine g_o (op_lenM rfl rfl rfl (ev_ok rfl) (tgt rfl) rfl) ?_ | refine g_o (op_indexN (α := Rat) (d := 0) rfl (ev_ok rfl) (ev_ok rfl) (tgt rfl) rfl (tgt rfl) rfl (by omega)) ?_ | refine g_o (op_loadA rfl (ev_ok rfl) (tgt rfl) rfl (Nat.succ_ne_zero _) rfl) ?_ | rw [hxe] | rw [t1] | rw [t3] | rw [t4] | rw [t2]); conv => whnf))
        exact ⟨l.length - (i + 1), fun k => k, [0, 2, 3, 4], [2, 3], by omega, by kernel_rfl, i + 1, x, rfl, hlt, hv, hfx, rfl, rfl⟩
      · have t4 : decide ((x - q).num.sign > 0) = false := decide_eq_false hc
        rw [if_neg hc] at hv
        (repeat ((first | refine step_w1 rfl rfl ?_ | refine step_w2 rfl rfl ?_ | refine g_c (by assumption) ?_ | refine g_o (op_lenM rfl rfl rfl (ev_ok rfl) (tgt rfl) rfl) ?_ | refine g_o (op_indexN (α := Rat) (d := 0) rfl (ev_ok rfl) (ev_ok rfl) (tgt rfl) rfl (tgt rfl) rfl (by omega)) ?_ | refine g_o (op_loadA rfl (ev_ok rfl) (tgt rfl) rfl (Nat.succ_ne_zero _) rfl) ?_ | rw [hxe] | rw [t1] | rw [t3] | rw [t4] | rw [t2]); conv => whnf))
        exact ⟨l.length - (i + 1), fun k => k, [0, 2, 3, 4], [2, 3], by omega, by kernel_rfl, i + 1, q, rfl, hlt, hv, hq, rfl, rfl⟩
  · have t1 := dge hlt
    have hI : i = l.length := by omega
    rw [hI, List.drop_length, vmaxF] at hv
    rw [← hv]
    (repeat (first | (refine step_w2 rfl rfl ?_; conv => whnf) | (refine g_o (op_lenM rfl rfl rfl (ev_ok rfl) (tgt rfl) rfl) ?_; conv => whnf) | (rw [t1]; conv => whnf)))
    exact Recast.refl _

def jn (l : List Rat) : List UInt8 := Lib.join ((l.map tQ).map (·.data.toList)) [32]
theorem jn_snoc (l : List Rat) (q : Rat) (h : l ≠ []) : jn (l ++ [q]) = jn l ++ [32] ++ (tQ q).data.toList := by
  cases l with
  | nil => exact absurd rfl h
  | cons x r => simp [jn, Lib.join_cons, Lib.joinTail]
theorem jn_one (q : Rat) : jn ([] ++ [q]) = (tQ q).data.toList := by simp [jn, Lib.join_one]
theorem jn_len {a : List Rat} {B : Nat} (hl : a.length ≤ 2048) (h : ∀ i, i < a.length → fs (a.getD i 0) ≤ B) (hB : B ≤ 100000000) (i : Nat) : (jn (a.take i)).length ≤ 140737488355328 :=
  tV_join (B := B) (by rw [List.length_take]; omega) (fun k hk => by
    rw [List.length_take] at hk
    rw [List.getD_eq_getElem?_getD, List.getElem?_take, if_pos (by omega), ← List.getD_eq_getElem?_getD]
    exact h k (by omega)) (by omega)
theorem app_l (l : List UInt8) (s : ByteArray) : (⟨l.toArray⟩ : ByteArray) ++ s = ⟨(l ++ s.data.toList).toArray⟩ := by
  apply ByteArray.ext
  rw [ByteArray.data_append]
  apply Array.ext'
  simp
theorem size_l (l : List UInt8) : (⟨l.toArray⟩ : ByteArray).size = l.length := by show l.toArray.size = _; simp
theorem r12_Text (a : List Rat) (B : Nat) (hl : a.length ≤ 2048) (h : ∀ i, i < a.length → fs (a.getD i 0) ≤ B) (hB : B ≤ 100000000) : CallOK Tryz.prog 48 [fFs a] [] (.val (.string (tV a))) [] [] := by
  have htv : tV a = ⟨((91 :: jn a) ++ [93]).toArray⟩ := by
    apply ByteArray.ext
    show (("[".toUTF8 ++ ⟨(jn a).toArray⟩ : ByteArray) ++ "]".toUTF8).data = _
    rw [ByteArray.data_append, ByteArray.data_append]
    apply Array.ext'
    have e1 : "[".toByteArray.data.toList = [91] := by decide +kernel
    have e2 : "]".toByteArray.data.toList = [93] := by decide +kernel
    simp [e1, e2]
  rw [htv]
  refine callV (Z := []) tabOK mixedOK Tryz.func48 rfl (by kernel_rfl) rfl rfl (by kernel_rfl) rfl ?_
  intro W0 w0 ρ0 hE
  conv => whnf
  skip
  refine SW_loopN hE (fun k => k) [0, 3, 4] [] (fun m fr hp => ∃ i : Nat, m = a.length - i ∧ i ≤ a.length ∧ fr = [(0, fFs a), (3, dS (91 :: jn (a.take i))), (4, .val (.int .i64 (i : Nat)))] ∧ hp = []) a.length ?_ ?_ ?_
  · kernel_rfl
  · exact ⟨0, rfl, Nat.zero_le _, rfl, rfl⟩
  rintro m _ _ ⟨i, rfl, hi, rfl, rfl⟩
  have hjl := jn_len hl h hB i
  have hsz := size_l (91 :: jn (a.take i))
  rw [List.length_cons] at hsz
  conv => whnf
  by_cases hlt : i < a.length
  · have t1 := dlt hlt
    have t2 := winc (i := i) (by omega)
    have hx := h i hlt
    have k1 := r3_Text (a.getD i 0) (by omega)
    have hq := tQ_size (a.getD i 0)
    have hts := take_snoc a i hlt
    obtain ⟨x, hxe⟩ : ∃ x, a.getD i 0 = x := ⟨_, rfl⟩
    rw [hxe] at hx k1 hq hts
    by_cases h0 : 0 < i
    · have t3 : decide ((i : Int) > 0) = true := decide_eq_true (by omega)
      have e1 := app_l (91 :: jn (a.take i)) ⟨#[32]⟩
      have e2 := app_l ((91 :: jn (a.take i)) ++ [32]) (tQ x)
      have hne : a.take i ≠ [] := fun h => by have := congrArg List.length h; rw [List.length_take, List.length_nil] at this; omega
      have ej : (91 :: jn (a.take i)) ++ [32] ++ (tQ x).data.toList = 91 :: jn (a.take (i + 1)) := by rw [hts, jn_snoc _ _ hne]; simp
      have h32 : (⟨#[32]⟩ : ByteArray).size = 1 := rfl
      have o1 : (⟨(91 :: jn (a.take i)).toArray⟩ : ByteArray).size + (⟨#[32]⟩ : ByteArray).size ≤ 9223372036854775807 := by omega
      have hsz2 := size_l ((91 :: jn (a.take i)) ++ [32])
      rw [List.length_append, List.length_cons, List.length_singleton] at hsz2
      have o2 : (⟨((91 :: jn (a.take i)) ++ [32]).toArray⟩ : ByteArray).size + (tQ x).size ≤ 9223372036854775807 := by omega
      have e1' : (⟨(91 :: jn (a.take i)).toArray⟩ : ByteArray) ++ (⟨#[32]⟩ : ByteArray) = ⟨((91 :: jn (a.take i)) ++ [32]).toArray⟩ := e1
      rw [ej] at e2
      clear e1 ej hts
      (repeat ((first | refine step_w1 rfl rfl ?_ | refine step_oM (by first | omega | decide | (simp only [tiB5, tiB23, tiB3, tiB2, tiB9, tiB41, tiB72, tiB29, tiB30, tiB39, tiB33, tiB4, tiB68, tiB70, dlen, List.length_replicate, List.length_set, List.length_map, List.length_zipWith, List.length_take, List.length_append, List.length_cons, List.length_nil]; omega)) ?_ | refine g_c (by assumption) ?_ | refine g_o (op_lenM rfl rfl rfl (ev_ok rfl) (tgt rfl) rfl) ?_ | refine g_o (op_indexN (α := Rat) (d := 0) rfl (ev_ok rfl) (ev_ok rfl) (tgt rfl) rfl (tgt rfl) rfl (by omega)) ?_ | refine g_o (op_loadA rfl (ev_ok rfl) (tgt rfl) rfl (Nat.succ_ne_zero _) rfl) ?_ | rw [t1] | rw [t3] | rw [hxe] | rw [e1'] | rw [e2] | rw [t2]); conv => whnf))
      exact ⟨a.length - (i + 1), fun k => k, [0, 3, 4], [], by omega, by kernel_rfl, i + 1, rfl, hlt, rfl, rfl⟩
    · have t3 : decide ((i : Int) > 0) = false := decide_eq_false (by omega)
      obtain rfl : i = 0 := by omega
      have e2 := app_l (91 :: jn (a.take 0)) (tQ x)
      have ej : (91 :: jn (a.take 0)) ++ (tQ x).data.toList = 91 :: jn (a.take (0 + 1)) := by
        rw [hts, List.take_zero, jn_one]; rfl
      rw [ej] at e2
      have o2 : (⟨(91 :: jn (a.take 0)).toArray⟩ : ByteArray).size + (tQ x).size ≤ 9223372036854775807 := by omega
      clear ej hts
      (repeat ((first | refine step_w1 rfl rfl ?_ | refine step_w2 rfl rfl ?_ | refine step_oM (by first | omega | decide | (simp only [tiB5, tiB23, tiB3, tiB2, tiB9, tiB41, tiB72, tiB29, tiB30, tiB39, tiB33, tiB4, tiB68, tiB70, dlen, List.length_replicate, List.length_set, List.length_map, List.length_zipWith, List.length_take, List.length_append, List.length_cons, List.length_nil]; omega)) ?_ | refine g_c (by assumption) ?_ | refine g_o (op_lenM rfl rfl rfl (ev_ok rfl) (tgt rfl) rfl) ?_ | refine g_o (op_indexN (α := Rat) (d := 0) rfl (ev_ok rfl) (ev_ok rfl) (tgt rfl) rfl (tgt rfl) rfl (by omega)) ?_ | refine g_o (op_loadA rfl (ev_ok rfl) (tgt rfl) rfl (Nat.succ_ne_zero _) rfl) ?_ | rw [t1] | rw [t3] | rw [hxe] | rw [e2] | rw [t2] | rw [Nat.zero_add]); conv => whnf))
      exact ⟨a.length - (0 + 1), fun k => k, [0, 3, 4], [], by omega, by kernel_rfl, 0 + 1, rfl, hlt, rfl, rfl⟩
  · have t1 := dge hlt
    have hI : i = a.length := by omega
    subst hI
    rw [List.take_length] at *
    have e1 : (⟨(91 :: jn a).toArray⟩ : ByteArray) ++ (⟨#[93]⟩ : ByteArray) = ⟨((91 :: jn a) ++ [93]).toArray⟩ := app_l (91 :: jn a) ⟨#[93]⟩
    have h93 : (⟨#[93]⟩ : ByteArray).size = 1 := rfl
    have o1 : (⟨(91 :: jn a).toArray⟩ : ByteArray).size + (⟨#[93]⟩ : ByteArray).size ≤ 9223372036854775807 := by omega
    rw [← e1]
    (repeat ((first | refine step_w2 rfl rfl ?_ | refine step_oM (by first | omega | decide | (simp only [tiB5, tiB23, tiB3, tiB2, tiB9, tiB41, tiB72, tiB29, tiB30, tiB39, tiB33, tiB4, tiB68, tiB70, dlen, List.length_replicate, List.length_set, List.length_map, List.length_zipWith, List.length_take, List.length_append, List.length_cons, List.length_nil]; omega)) ?_ | refine g_o (op_lenM rfl rfl rfl (ev_ok rfl) (tgt rfl) rfl) ?_ | rw [t1]); conv => whnf)); (first | exact Recast.refl _ | exact Frz.recast (Recast.refl _) rfl | (refine Frz.one rfl rfl ?_; skip) | (refine Frz.tup ?_; skip))
end Go.Proofs.YtgodfkgocbppgaaGreatDoor

namespace Go.Proofs.YtgodfkgocbppgaaGreatDoor
open Go.Sx
set_option linter.unusedSimpArgs false
set_option linter.unusedVariables false
set_option maxRecDepth 100000
set_option maxHeartbeats 4000000

def dv (l : List UInt8) : Nat := l.foldl (fun a c => 10 * a + (c.toNat - 48)) 0
theorem u8_digit {d : Nat} (h : d < 10) : (UInt8.ofNat (48 + d)).toNat = 48 + d := by
  rw [UInt8.toNat_ofNat']; omega
theorem dv_dec : ∀ n, dv (Lib.decDigits n) = n := by
  intro n
  induction n using Nat.strongRecOn with
  | _ n ih =>
    by_cases h : n < 10
    · rw [dec_lt h, dv, List.foldl_cons, List.foldl_nil, u8_digit h]; omega
    · have := ih (n / 10) (by omega)
      rw [dv] at this
      rw [dec_big (by omega), dv, List.foldl_append, this, List.foldl_cons, List.foldl_nil, u8_digit (by omega)]; omega
theorem dec_inj {a b : Nat} (h : Lib.decDigits a = Lib.decDigits b) : a = b := by rw [← dv_dec a, h, dv_dec]
theorem dec_chars : ∀ n, ∀ c ∈ Lib.decDigits n, 48 ≤ c.toNat ∧ c.toNat ≤ 57 := by
  intro n
  induction n using Nat.strongRecOn with
  | _ n ih =>
    intro c hc
    by_cases h : n < 10
    · rw [dec_lt h, List.mem_singleton] at hc
      rw [hc, u8_digit h]; omega
    · rw [dec_big (by omega)] at hc
      rcases List.mem_append.1 hc with hc | hc
      · exact ih (n / 10) (by omega) c hc
      · rw [List.mem_singleton.1 hc, u8_digit (by omega)]; omega
theorem sep_inj {s : UInt8} : ∀ {a b c d : List UInt8}, s ∉ a → s ∉ b → a ++ s :: c = b ++ s :: d → a = b ∧ c = d
  | [], [], c, d, _, _, h => by simpa using h
  | [], y :: b, c, d, _, hb, h => by
    simp only [List.nil_append, List.cons_append, List.cons.injEq] at h
    exact absurd (h.1 ▸ List.mem_cons_self ..) hb
  | x :: a, [], c, d, ha, _, h => by
    simp only [List.nil_append, List.cons_append, List.cons.injEq] at h
    exact absurd (h.1 ▸ List.mem_cons_self ..) ha
  | x :: a, y :: b, c, d, ha, hb, h => by
    simp only [List.cons_append, List.cons.injEq] at h
    obtain ⟨h1, h2⟩ := sep_inj (fun hm => ha (List.mem_cons_of_mem _ hm)) (fun hm => hb (List.mem_cons_of_mem _ hm)) h.2
    exact ⟨by rw [h.1, h1], h2⟩
def zl (z : Int) : List UInt8 := if z < 0 then 45 :: Lib.decDigits z.natAbs else Lib.decDigits z.natAbs
def ql (q : Rat) : List UInt8 := if q.den = 1 then zl q.num else zl q.num ++ 47 :: Lib.decDigits q.den
theorem tN_l (n : Nat) : (tN n).data.toList = Lib.decDigits n := by rw [tN_eq]
theorem tZ_l (z : Int) : (tZ z).data.toList = zl z := by
  unfold tZ zl
  split
  · rw [ByteArray.data_append, Array.toList_append, tN_l]
    rw [show "-".toUTF8.data.toList = [45] by decide +kernel]; rfl
  · exact tN_l _
theorem tQ_l (q : Rat) : (tQ q).data.toList = ql q := by
  unfold tQ ql
  split
  · exact tZ_l _
  · rw [ByteArray.data_append, ByteArray.data_append, Array.toList_append, Array.toList_append, tZ_l, tN_l]
    rw [show "/".toUTF8.data.toList = [47] by decide +kernel, List.append_assoc]; rfl
theorem zl_no {z : Int} {c : UInt8} (hc : c ∈ zl z) : c.toNat = 45 ∨ 48 ≤ c.toNat := by
  unfold zl at hc
  split at hc
  · rcases List.mem_cons.1 hc with rfl | hc
    · exact .inl rfl
    · exact .inr (dec_chars _ c hc).1
  · exact .inr (dec_chars _ c hc).1
theorem zl_inj {a b : Int} (h : zl a = zl b) : a = b := by
  unfold zl at h
  split at h <;> split at h
  · simp only [List.cons.injEq, true_and] at h
    have := dec_inj h; omega
  · exfalso
    have := dec_chars b.natAbs 45 (h ▸ List.mem_cons_self ..)
    exact absurd this.1 (by decide)
  · exfalso
    have := dec_chars a.natAbs 45 (h ▸ List.mem_cons_self ..)
    exact absurd this.1 (by decide)
  · have := dec_inj h; omega
theorem zl_47 (z : Int) : (47 : UInt8) ∉ zl z := fun h => by
  rcases zl_no h with g | g
  · exact absurd g (by decide)
  · exact absurd g (by decide)
theorem ql_inj {a b : Rat} (h : ql a = ql b) : a = b := by
  unfold ql at h
  split at h <;> split at h
  · exact Rat.ext (zl_inj h) (by omega)
  · exact absurd (h ▸ List.mem_append_right _ (List.mem_cons_self ..)) (zl_47 a.num)
  · exact absurd (h ▸ List.mem_append_right _ (List.mem_cons_self ..)) (zl_47 b.num)
  · obtain ⟨h1, h2⟩ := sep_inj (zl_47 _) (zl_47 _) h
    exact Rat.ext (zl_inj h1) (dec_inj h2)
theorem ql_32 (q : Rat) : (32 : UInt8) ∉ ql q := fun h => by
  have hz : ∀ z, (32 : UInt8) ∉ zl z := fun z h => by
    rcases zl_no h with g | g
    · exact absurd g (by decide)
    · exact absurd g (by decide)
  unfold ql at h
  split at h
  · exact hz _ h
  · rcases List.mem_append.1 h with h | h
    · exact hz _ h
    · rcases List.mem_cons.1 h with h | h
      · exact absurd h (by decide)
      · exact absurd (dec_chars _ _ h).1 (by decide)
theorem jn_cons (a b : Rat) (r : List Rat) : jn (a :: b :: r) = ql a ++ 32 :: jn (b :: r) := by
  rw [← tQ_l]; simp [jn, Lib.join_cons, Lib.joinTail]
theorem jn_inj : ∀ {x y : List Rat}, x.length = y.length → jn x = jn y → x = y
  | [], [], _, _ => rfl
  | [a], [b], _, h => by
    have h1 := jn_one a
    have h2 := jn_one b
    rw [List.nil_append, tQ_l] at h1 h2
    rw [ql_inj (h1.symm.trans (h.trans h2))]
  | a :: a2 :: r, b :: b2 :: r', hl, h => by
    rw [jn_cons, jn_cons] at h
    obtain ⟨h1, h2⟩ := sep_inj (ql_32 a) (ql_32 b) h
    rw [ql_inj h1, jn_inj (by simpa using hl) h2]
  | [], _ :: _, hl, _ => by simp at hl
  | _ :: _, [], hl, _ => by simp at hl
  | [_], _ :: _ :: _, hl, _ => by simp at hl
  | _ :: _ :: _, [_], hl, _ => by simp at hl
theorem tV_eq (a : List Rat) : tV a = ⟨((91 :: jn a) ++ [93]).toArray⟩ := by
  apply ByteArray.ext
  show (("[".toUTF8 ++ ⟨(jn a).toArray⟩ : ByteArray) ++ "]".toUTF8).data = _
  rw [ByteArray.data_append, ByteArray.data_append]
  apply Array.ext'
  have e1 : "[".toByteArray.data.toList = [91] := by decide +kernel
  have e2 : "]".toByteArray.data.toList = [93] := by decide +kernel
  simp [e1, e2]
theorem tV_inj {x y : List Rat} (hl : x.length = y.length) (h : (tV x).data = (tV y).data) : x = y := by
  rw [tV_eq, tV_eq] at h
  have h := congrArg Array.toList h
  simp only [List.cons_append, List.cons.injEq, true_and] at h
  exact jn_inj hl (List.append_cancel_right h)
end Go.Proofs.YtgodfkgocbppgaaGreatDoor

namespace Go.Proofs.YtgodfkgocbppgaaGreatDoor
open Go.Sx
set_option linter.unusedSimpArgs false
set_option linter.unusedVariables false
set_option maxRecDepth 100000
set_option maxHeartbeats 8000000

theorem vmaxF_is : ∀ (l : List Rat) (m : Rat), vmaxF l m = m ∨ ∃ x ∈ l, vmaxF l m = rabs x
  | [], m => .inl rfl
  | y :: l, m => by
    rw [vmaxF]
    rcases vmaxF_is l (if 0 < (rabs y - m).num.sign then rabs y else m) with h | ⟨x, hx, h⟩
    · rw [h]; split
      · exact .inr ⟨y, List.mem_cons_self .., rfl⟩
      · exact .inl rfl
    · exact .inr ⟨x, List.mem_cons_of_mem _ hx, h⟩
theorem fs_vmax {l : List Rat} {B : Nat} (h : Sm B l) (hB : 2 ≤ B) : fs (vmax l) ≤ B := by
  rcases vmaxF_is l 0 with g | ⟨x, hx, g⟩
  · unfold vmax; rw [g, fs_zero]; exact hB
  · obtain ⟨i, hi, rfl⟩ := mem_getD hx 0
    unfold vmax; rw [g, fs_abs]; exact h i hi
theorem s_max {l : List Rat} {B n : Nat} (h : Sm B l) (hl : l.length = n) (hn : n ≤ 2048) (hB : 2 ≤ B) (h2 : B + B ≤ 1073741824) : CallOK Tryz.prog 28 [fvec l] [] (.frac (vmax l)) [] [] :=
  v_Max l (by omega) B hB h2 h

end Go.Proofs.YtgodfkgocbppgaaGreatDoor

namespace Go.Proofs.YtgodfkgocbppgaaGreatDoor
open Go.Sx
set_option linter.unusedSimpArgs false
set_option linter.unusedVariables false
set_option maxRecDepth 100000
set_option maxHeartbeats 8000000

theorem c_R (l : List (Int × Int)) (hl : l.length < 1048576) (h : ∀ q ∈ l, qOK q) : CallOK Tryz.prog 33 [mvec 2 qA l] [] (fFs (l.map qV)) [] [] := by
  have hz : (l.map qV).length = l.length := by simp
  refine callF (Z := []) tabOK mixedOK Tryz.func33 rfl (by kernel_rfl) (by first | rfl | (simp [keylessL, keyless, keylessL_map, *]; done)) (by first | rfl | (simp [keylessL, keyless, keylessL_map, *]; done)) (by kernel_rfl) rfl ?_
  intro w0 ρ0 hE
  conv => whnf
  skip
  refine SWx_adopt (t := 3) (k := 2001) (s := 3) (blk := fFblk []) rfl rfl rfl ?_
  refine SW_loopS hE (fun k => k) [0, 3, 4] [2001] (fun m fr hp => ∃ i : Nat, m = l.length - i ∧ i ≤ l.length ∧ fr = [(0, mvec 2 qA l), (3, .slc 2001 3 0 i), (4, .val (.int .i64 (i : Nat)))] ∧ hp = [(2001, fFblk ((l.map qV).take i))]) l.length ?_ ?_ ?_
  · kernel_rfl
  · exact ⟨0, rfl, Nat.zero_le _, rfl, rfl⟩
  rintro m _ _ ⟨i, rfl, hi, rfl, rfl⟩
  have hlt0 : ((((l.map qV).take i)).map fF).length = i := by rw [List.length_map, List.length_take]; omega
  by_cases hlt : i < l.length
  · have u1 := dlt hlt
    have u2 := winc (i := i) (by omega)
    have k1 := r_QRef (l.getD i (0, 0)) (h _ (getD_mem hlt))
    rw [← map_get (f := qV) (e := 0) hlt] at k1
    refine SWx.of hE ?_
    conv => whnf
    (repeat ((first | refine step_w1 rfl rfl ?_ | refine And.intro (by first | decide | omega | (simp only [tiB5, tiB23, tiB3, tiB2, tiB9, tiB41, tiB72, tiB29, tiB30, tiB39, tiB33, tiB4, tiB68, tiB70, dlen, List.length_replicate, List.length_set, List.length_map, List.length_zipWith, List.length_take, List.length_append, List.length_cons, List.length_nil]; omega)) ?_ | refine g_c (by assumption) ?_ | refine g_o (op_lenM rfl rfl rfl (ev_ok rfl) (tgt rfl) rfl) ?_ | refine g_o (op_loadA rfl (ev_ok rfl) (tgt rfl) rfl (Nat.succ_ne_zero _) rfl) ?_ | refine g_o (op_indexN (α := Int × Int) (d := (0, 0)) rfl (ev_ok rfl) (ev_ok rfl) (tgt rfl) rfl (tgt rfl) rfl (by omega)) ?_ | rw [u1] | rw [u2]); conv => whnf))
    refine ⟨l.length - (i + 1), renBy [(18, 2001)], [0, 3, 4], [18], by omega, by kernel_rfl, i + 1, rfl, hlt, rfl, ?_⟩
    rw [take_map_snoc (by rw [hz]; exact hlt)]
    rfl
  · have u1 := dge hlt
    have hI : i = l.length := by omega
    subst hI
    have hall : (l.map qV).take l.length = l.map qV := List.take_of_length_le (by omega)
    rw [hall]
    refine SWx_freezeM 3 2001 (fun _ h => h) (fun _ => rfl) rfl rfl hz.symm ?_
    refine SWx.of hE ?_
    conv => whnf
    (repeat (first | (refine step_w2 rfl rfl ?_; conv => whnf) | (refine g_o (op_lenM rfl rfl rfl (ev_ok rfl) (tgt rfl) rfl) ?_; conv => whnf) | (rw [u1]; conv => whnf))); (first | exact Recast.refl _ | exact Frz.recast (Recast.refl _) rfl | (refine Frz.one rfl rfl ?_; skip) | (refine Frz.tup ?_; skip))
theorem c_Rt {l : List (Int × Int)} (h : ∀ q ∈ l, qOK q) {n : Nat} (hn : n ≤ 2048) : CallOK Tryz.prog 33 [mvec 2 qA (l.take n)] [] (fFs ((l.take n).map qV)) [] [] :=
  c_R (l.take n) (by rw [List.length_take]; omega) (fun q hq => h q (List.mem_of_mem_take hq))
theorem r_is (a : List Rat) (B : Nat) (hl : a.length ≤ 2048) (h : Sm B a) (hB : B ≤ 100000000) : CallOK Tryz.prog 39 [fvec a, .val (.int .i64 0), fFs a] [] (.val (.bool true)) [] [] := by
  have k1 := t_VecG a B hl h (by omega)
  have k2 := r12_Text a B hl h hB
  refine callV (Z := []) tabOK mixedOK Tryz.func39 rfl (by kernel_rfl) rfl rfl (by kernel_rfl) rfl ?_
  intro W0 w0 ρ0 hE
  conv => whnf
  (repeat ((first | refine step_w1 rfl rfl ?_ | refine g_c (by assumption) ?_ | refine g_o (op_pickT rfl (ev_ok rfl) (ev_ok rfl)) ?_ | rw [beq_self_eq_true] | refine g_o (op_lenM rfl rfl rfl (ev_ok rfl) (tgt rfl) rfl) ?_); conv => whnf)); (first | exact Recast.refl _ | exact Frz.recast (Recast.refl _) rfl | (refine Frz.one rfl rfl ?_; skip) | (refine Frz.tup ?_; skip))

theorem axpy_add {p : Rat} {x y : List Rat} {n : Nat} (hx : x.length = n) (hy : y.length = n) : vadd (vscale p x) y = vaxpy p x y :=
  vec_ext (zip_len (zip_len hx hx) hy) (zip_len hx hy) fun i hi => by
    rw [get_add (zip_len hx hx) hy hi, get_scale hx hi]
    exact (zip_get (f := fun x y => p * x + y) (by omega) (by omega)).symm

theorem c_Plays (c : Int × Int) (la lb : List (Int × Int)) (hc : qOK c) (hoa : ∀ q ∈ la, qOK q) (hob : ∀ q ∈ lb, qOK q) :
    CallOK Tryz.prog 7 [qA c, mvec 2 qA la, mvec 2 qA lb] [] (.val (.bool true)) [] [] := by
  have kw := l_works
  refine callV (Z := [3]) tabOK mixedOK Tryz.func7 rfl (by kernel_rfl) rfl rfl (by kernel_rfl) rfl ?_
  intro W0 w0 ρ0 hE
  conv => whnf
  by_cases h1 : la.length > 30
  · have t1 : Hid (decide ((la.length : Int) > 30) = true) := show decide ((la.length : Int) > 30) = true from decide_eq_true (by omega)
    (repeat ((first | refine step_w1 rfl rfl ?_ | refine step_w2 rfl rfl ?_ | refine g_c (by assumption) ?_ | refine g_o (op_pickT rfl (ev_ok rfl) (ev_ok rfl)) ?_ | refine g_o (op_lenM rfl rfl rfl (ev_ok rfl) (tgt rfl) rfl) ?_ | rw [t1.out]); conv => whnf)); (first | exact Recast.refl _ | exact Frz.recast (Recast.refl _) rfl | (refine Frz.one rfl rfl ?_; skip) | (refine Frz.tup ?_; skip))
  have t1 : Hid (decide ((la.length : Int) > 30) = false) := show decide ((la.length : Int) > 30) = false from decide_eq_false (by omega)
  by_cases h2 : lb.length > 30
  · have t2 : Hid (decide ((lb.length : Int) > 30) = true) := show decide ((lb.length : Int) > 30) = true from decide_eq_true (by omega)
    (repeat ((first | refine step_w1 rfl rfl ?_ | refine g_c (by assumption) ?_ | refine g_o (op_pickF rfl (ev_ok rfl) (ev_ok rfl)) ?_ | refine g_o (op_lenM rfl rfl rfl (ev_ok rfl) (tgt rfl) rfl) ?_ | rw [t1.out] | rw [t2.out]); conv => whnf)); (first | exact Recast.refl _ | exact Frz.recast (Recast.refl _) rfl | (refine Frz.one rfl rfl ?_; skip) | (refine Frz.tup ?_; skip))
  have t2 : Hid (decide ((lb.length : Int) > 30) = false) := show decide ((lb.length : Int) > 30) = false from decide_eq_false (by omega)
  have kc := l_cut la lb (by omega) (by omega)
  generalize hn : min la.length lb.length = n at kc
  have n30 : n ≤ 30 := by omega
  have nla : n ≤ la.length := by omega
  have nlb : n ≤ lb.length := by omega
  have n2 : n ≤ 2048 := by omega
  clear hn
  have hx := len_take (l := la) nla
  have hy := len_take (l := lb) nlb
  have k1 := c_Vt hoa n2
  have k2 := c_Vt hob n2
  have k3 := c_Rt hoa n2
  have k4 := c_Rt hob n2
  have sx := Sm_take hoa n
  have sy := Sm_take hob n
  have k5 := c_QOf c hc
  have k6 := r_QRef c hc
  have fp := fs_qV hc
  generalize qV c = p at *
  generalize (la.take n).map qV = x at *
  generalize (lb.take n).map qV = y at *
  have hxy : x.length = y.length := hx.trans hy.symm
  have hxl : x.length ≤ 2048 := by omega
  have hxl2 : x.length < 1099511627776 := by omega
  have hyl2 : y.length < 1099511627776 := by omega
  have hf := Fit_Sm sx sy hxy (show 130 + 130 ≤ 1073741824 by decide)
  have hf8 : ∀ i, i < x.length → fs (x.getD i 0) + fs (y.getD i 0) ≤ 260 := fun i hi => by have := sx i hi; have := sy i (by omega); omega
  have hfs : ∀ i, i < x.length → fs p + fs (x.getD i 0) ≤ 260 := fun i hi => by have := sx i hi; omega
  have o1 := v_Add x y hxy hxl hf
  have o2 := v_Sub x y hxy hxl hf
  have o3 := v_Scale p x hxl (fun i hi => Nat.le_trans (hfs i hi) (by decide))
  have o4 := v_Axpy p x y hxy hxl (fun i hi => by have := sx i hi; have := sy i (by omega); omega)
  have hs : fsL (vmul x y) ≤ _ := fsL_Sm (Sm_zip fs_mul sx sy hxy)
  rw [zip_len hx hy] at hs
  have o5 := v_Dot x y hxy hxl hf (by omega)
  have r1 := r12_Add x y hxy hxl (fun i hi => Nat.le_trans (hf8 i hi) (by decide))
  have r2 := r12_Sub x y hxy hxl (fun i hi => Nat.le_trans (hf8 i hi) (by decide))
  have r3 := r12_Scale p x hxl (fun i hi => Nat.le_trans (hfs i hi) (by decide))
  have ssc : Sm 260 (vscale p x) := Sm_scale fp sx
  have hsc : (vscale p x).length = n := zip_len hx hx
  have r4 := r12_Add (vscale p x) y (hsc.trans hy.symm) (by omega) (fun i hi => by have := ssc i hi; have := sy i (by omega); omega)
  rw [axpy_add hx hy] at r4
  have hxB : x.length * 260 ≤ 30 * 260 := Nat.mul_le_mul_right _ (by omega)
  have r5 := r12_Dot x y 260 hxy hxl hf8 (by omega)
  have r6 := r12_Max x 130 hxl (by decide) (by decide) sx
  have sax : Sm 390 (vaxpy p x y) := fun i hi => by
    rw [List.length_zipWith] at hi
    rw [zip_get (d1 := 0) (d2 := 0) (by omega) (by omega)]
    have h1 := fs_add (p * x.getD i 0) (y.getD i 0)
    have h2 := fs_mul p (x.getD i 0)
    have := sx i (by omega); have := sy i (by omega); omega
  have i1 := r_is (vadd x y) 260 (by rw [zip_len hx hy]; exact n2) (Sm_zip fs_add sx sy hxy) (by decide)
  have i2 := r_is (vsub x y) 260 (by rw [zip_len hx hy]; exact n2) (Sm_zip fs_sub sx sy hxy) (by decide)
  have i3 := r_is (vscale p x) 260 (by rw [hsc]; exact n2) ssc (by decide)
  have i4 := r_is (vaxpy p x y) 390 (by rw [zip_len hx hy]; exact n2) sax (by decide)
  have bd := fs_vdot sx sy hx hy
  have bd2 : fs (vdot x y) ≤ 10000 := by
    have : n * (130 + 130) ≤ 30 * (130 + 130) := Nat.mul_le_mul_right _ n30
    omega
  have bm := fs_vmax sx (by decide)
  have o6 := s_max sx hx n2 (by decide) (by decide)
  have o7 := t_FracG (vdot x y) (by omega)
  have o8 := r3_Text (vdot x y) (by omega)
  have o9 := t_FracG (vmax x) (by omega)
  have o10 := r3_Text (vmax x) (by omega)
  have o11 := v_Same x y hxl2 hyl2
  have o12 := r12_Text x 130 hxl sx (by decide)
  have o13 := r12_Text y 130 (by omega) sy (by decide)
  have q1 : Hid ((decide (x = y) == ((tV x).toList == (tV y).toList)) = true) := show (decide (x = y) == ((tV x).toList == (tV y).toList)) = true from by
    rw [beq_iff_eq, Bool.eq_iff_iff, decide_eq_true_iff, beq_iff_eq]
    constructor
    · rintro rfl; rfl
    · intro h
      rw [ByteArray.toList_eq, ByteArray.toList_eq] at h
      exact tV_inj hxy (Array.ext' h)
  clear hx hy sx sy fp hf hf8 hfs hs ssc hsc hxB sax bd bd2 bm hxy hxl hxl2 hyl2
  generalize vadd x y = v1 at *
  generalize vsub x y = v2 at *
  generalize vscale p x = v3 at *
  generalize vaxpy p x y = v4 at *
  generalize vdot x y = v5 at *
  generalize vmax x = v6 at *
  (repeat ((first | refine step_w1 rfl rfl ?_ | refine step_w2 rfl rfl ?_ | refine step_i (by kernel_rfl) ?_ | refine g_c (by assumption) ?_ | refine g_o (op_pickT rfl (ev_ok rfl) (ev_ok rfl)) ?_ | refine g_o (op_pickF rfl (ev_ok rfl) (ev_ok rfl)) ?_ | rw [beq_self_eq_true] | refine g_o (op_lenM rfl rfl rfl (ev_ok rfl) (tgt rfl) rfl) ?_ | refine g_o (op_loadA rfl (ev_ok rfl) (tgt rfl) rfl (Nat.succ_ne_zero _) rfl) ?_ | rw [t1.out] | rw [t2.out] | rw [q1.out]); conv => whnf)); (first | exact Recast.refl _ | exact Frz.recast (Recast.refl _) rfl | (refine Frz.one rfl rfl ?_; skip) | (refine Frz.tup ?_; skip))

theorem law_VecsPlays (a0 : Int × Int) (a1 a2 : List (Int × Int)) (w0 : ((Lit.int .i64 a0.1).wf = true) ∧ ((Lit.int .u32 a0.2).wf = true)) (w1 : QWf a1) (w2 : QWf a2) :
    CallOK Tryz.prog 7 [qA a0, mvec 2 qA a1, mvec 2 qA a2] [] (.val (.bool true)) [] [] :=
  c_Plays a0 a1 a2 (qOK_one w0) (qOK_of w1) (qOK_of w2)
end Go.Proofs.YtgodfkgocbppgaaGreatDoor

namespace Go.Proofs.YtgodfkgocbppgaaGreatDoor.vecsPlays
open Go.ChangeShapes Go.WideShapes Go.ChangeAt Go.RowKit Go.Sx
set_option maxRecDepth 100000
set_option linter.unusedSimpArgs false

theorem own : ownKnob Tryz.prog.godebug = none := by kernel_rfl
theorem laidOut : laidOutB Tryz.prog = true := by kernel_rfl
theorem params : Tryz.f7.params.toList.all (fun t => Tryz.prog.readableRec t && decide (t < Tryz.prog.types.size)) = true := by kernel_rfl
theorem gTab0 : Tryz.prog.globalNamed "math/bits.deBruijn32tab" = some 3 := by kernel_rfl
theorem gTabType0 : (Tryz.prog.globals[3]?).map (·.type) = some 207 := by kernel_rfl
theorem cellsA0 : Tryz.prog.cellsOf 207 = 32 := by kernel_rfl
theorem cellsE0 : Tryz.prog.cellsOf 5 = 1 := by kernel_rfl
theorem gTab1 : Tryz.prog.globalNamed "math/bits.deBruijn64tab" = some 4 := by kernel_rfl
theorem gTabType1 : (Tryz.prog.globals[4]?).map (·.type) = some 208 := by kernel_rfl
theorem cellsA1 : Tryz.prog.cellsOf 208 = 64 := by kernel_rfl
theorem cellsE1 : Tryz.prog.cellsOf 5 = 1 := by kernel_rfl
theorem gTab2 : Tryz.prog.globalNamed "internal/strconv.uint64pow10" = some 1 := by kernel_rfl
theorem gTabType2 : (Tryz.prog.globals[1]?).map (·.type) = some 203 := by kernel_rfl
theorem cellsA2 : Tryz.prog.cellsOf 203 = 20 := by kernel_rfl
theorem cellsE2 : Tryz.prog.cellsOf 33 = 1 := by kernel_rfl
/-- What the row's list gives: the tables' cells hold their numbers. -/
theorem table {W : World} (h : laidMetH Tryz.prog Rows.vecsPlaysRow.laid W) : TabsW W := by
  intro g kd l hm
  have h0 : laidMet Tryz.prog Rows.vecsPlaysRow.laid W := h
  have ht0 : Lib.TabIs Tryz.prog W "math/bits.deBruijn32tab" .u8 [0, 1, 28, 2, 29, 14, 24, 3, 30, 22, 20, 15, 25, 17, 4, 8, 31, 27, 13, 23, 21, 19, 16, 7, 26, 12, 18, 6, 11, 5, 10, 9] := Lib.tabIs_of_head gTab0 gTabType0 Tryz.underlying207 Tryz.underlying5 cellsE0 cellsA0 h0
  have h1 := laid_tail h0
  have ht1 : Lib.TabIs Tryz.prog W "math/bits.deBruijn64tab" .u8 [0, 1, 56, 2, 57, 49, 28, 3, 61, 58, 42, 50, 38, 29, 17, 4, 62, 47, 59, 36, 45, 43, 51, 22, 53, 39, 33, 30, 24, 18, 12, 5, 63, 55, 48, 27, 60, 41, 37, 16, 46, 35, 44, 21, 52, 32, 23, 11, 54, 26, 40, 15, 34, 20, 31, 10, 25, 14, 19, 9, 13, 8, 7, 6] := Lib.tabIs_of_head gTab1 gTabType1 Tryz.underlying208 Tryz.underlying5 cellsE1 cellsA1 h1
  have h2 := laid_tail h1
  have ht2 : Lib.TabIs Tryz.prog W "internal/strconv.uint64pow10" .u64 [1, 10, 100, 1000, 10000, 100000, 1000000, 10000000, 100000000, 1000000000, 10000000000, 100000000000, 1000000000000, 10000000000000, 100000000000000, 1000000000000000, 10000000000000000, 100000000000000000, 1000000000000000000, 10000000000000000000] := Lib.tabIs_of_head gTab2 gTabType2 Tryz.underlying203 Tryz.underlying33 cellsE2 cellsA2 h2
  simp only [globTabs, List.mem_cons, List.not_mem_nil, or_false, Prod.mk.injEq] at hm
  rcases hm with ⟨rfl, rfl, rfl⟩ | ⟨rfl, rfl, rfl⟩ | ⟨rfl, rfl, rfl⟩
  · refine ⟨by simp, fun j x hx => by rw [ht0.cell gTab0 j (List.getElem?_eq_some_iff.1 hx).1, List.getD_eq_getElem?_getD, hx]; rfl, ?_⟩
    exact tab_heap gTab0 ht0
  · refine ⟨by simp, fun j x hx => by rw [ht1.cell gTab1 j (List.getElem?_eq_some_iff.1 hx).1, List.getD_eq_getElem?_getD, hx]; rfl, ?_⟩
    exact tab_heap gTab1 ht1
  · refine ⟨by simp, fun j x hx => by rw [ht2.cell gTab2 j (List.getElem?_eq_some_iff.1 hx).1, List.getD_eq_getElem?_getD, hx]; rfl, ?_⟩
    exact tab_heap gTab2 ht2

/-- The contract, over values. -/
theorem called (a0 : (Int) × (Int)) (a1 : List ((Int) × (Int))) (a2 : List ((Int) × (Int))) (w0 : ((Lit.int .i64 a0.1).wf = true) ∧ ((Lit.int .u32 a0.2).wf = true)) (w1 : (a1).length ≤ maxLen ∧ ∀ x ∈ a1, ((Lit.int .i64 x.1).wf = true) ∧ ((Lit.int .u32 x.2).wf = true)) (w2 : (a2).length ≤ maxLen ∧ ∀ x ∈ a2, ((Lit.int .i64 x.1).wf = true) ∧ ((Lit.int .u32 x.2).wf = true)) : CallOK Tryz.prog 7 [(ag2 (iel .i64) (iel .u32)) a0, (mvec 2 (ag2 (iel .i64) (iel .u32))) a1, (mvec 2 (ag2 (iel .i64) (iel .u32))) a2] [] (.val (.bool true)) [] [] := law_VecsPlays a0 a1 a2 w0 w1 w2

theorem contract (H : Type) (enc : TypeId × Value → H) (W : World) (base : Nat) (args : Array Value) (ds gs : List (DataW H)) (before : List MemPlace)
    (hval : ∀ (j : Nat) t v, Tryz.f7.params[j]? = some t → args[j]? = some v → Value.okWide Tryz.prog W .any base t v)
    (hW : DataW.Whole enc Tryz.prog Tryz.f7.params.toList Rows.vecsPlaysSpec.vars false W args.toList ds gs before) (hL : laidMetH Tryz.prog Rows.vecsPlaysRow.laid W) :
    Calls Tryz.prog 7 args W fun e W' => ∃ v, e = .returned v ∧ Rows.vecsPlaysSpec.post enc Tryz.prog Tryz.f7 false true false false W args v W' := by
  have hW' := hW
  obtain ⟨p, q, hA0, hV, rfl, hfz, hnd⟩ := hW
  have hA : DataW.TrodAll enc Tryz.prog W 0 (fun _ => true) true Tryz.f7.params.toList args.toList ds p := hA0
  rw [Tryz.params7] at hA hval
  obtain ⟨v0, vs0, d0, ds0, p0, q0, hargs, rfl, rfl, h0, r0⟩ := trodAll_cons hA
  obtain ⟨v1, vs1, d1, ds1, p1, q1, rfl, rfl, rfl, h1, r1⟩ := trodAll_cons r0
  obtain ⟨v2, vs2, d2, ds2, p2, q2, rfl, rfl, rfl, h2, r2⟩ := trodAll_cons r1
  obtain ⟨rfl, rfl, rfl⟩ := trodAll_nil r2
  obtain rfl : args = #[v0, v1, v2] := by cases args; simp_all
  obtain ⟨rfl, rfl⟩ := trodVars_none hV
  have hg := table hL
  obtain ⟨n0, t0⟩ := h0
  obtain ⟨a0, w0, c0⟩ := (show Opens enc Tryz.prog hg 25 (ag2 (iel .i64) (iel .u32)) (fun a => ((Lit.int .i64 a.1).wf = true) ∧ ((Lit.int .u32 a.2).wf = true)) from Opens.struct2 Tryz.underlying25 rfl (by kernel_rfl) (by kernel_rfl) (Opens.int Tryz.underlying2) (Opens.int Tryz.underlying23)) _ _ _ t0
  have e0 : mkV ((ag2 (iel .i64) (iel .u32)) a0) v0.cells.toList = v0 := by obtain ⟨cs, hc, _⟩ := okWide_struct Tryz.underlying25 (hval 0 25 v0 rfl rfl); exact mkV_agg rfl hc
  obtain ⟨n1, t1⟩ := h1
  obtain ⟨a1, w1, c1⟩ := (show Opens enc Tryz.prog hg 22 (mvec 2 (ag2 (iel .i64) (iel .u32))) (fun a => (a).length ≤ maxLen ∧ ∀ x ∈ a, ((Lit.int .i64 x.1).wf = true) ∧ ((Lit.int .u32 x.2).wf = true)) from Opens.slice (w := 2) Tryz.underlying22 (by kernel_rfl) (by decide) (fun _ => rfl) (Opens.struct2 Tryz.underlying25 rfl (by kernel_rfl) (by kernel_rfl) (Opens.int Tryz.underlying2) (Opens.int Tryz.underlying23))) _ _ _ t1
  have e1 : mkV ((mvec 2 (ag2 (iel .i64) (iel .u32))) a1) v1.cells.toList = v1 := by obtain ⟨_, _, _, rfl⟩ := okWide_slice Tryz.underlying22 (hval 1 22 v1 rfl rfl); exact mkV_one rfl (by simp [Value.cells])
  obtain ⟨n2, t2⟩ := h2
  obtain ⟨a2, w2, c2⟩ := (show Opens enc Tryz.prog hg 22 (mvec 2 (ag2 (iel .i64) (iel .u32))) (fun a => (a).length ≤ maxLen ∧ ∀ x ∈ a, ((Lit.int .i64 x.1).wf = true) ∧ ((Lit.int .u32 x.2).wf = true)) from Opens.slice (w := 2) Tryz.underlying22 (by kernel_rfl) (by decide) (fun _ => rfl) (Opens.struct2 Tryz.underlying25 rfl (by kernel_rfl) (by kernel_rfl) (Opens.int Tryz.underlying2) (Opens.int Tryz.underlying23))) _ _ _ t2
  have e2 : mkV ((mvec 2 (ag2 (iel .i64) (iel .u32))) a2) v2.cells.toList = v2 := by obtain ⟨_, _, _, rfl⟩ := okWide_slice Tryz.underlying22 (hval 2 22 v2 rfl rfl); exact mkV_one rfl (by simp [Value.cells])
  have hz : HasZ (allRho hg) [(ag2 (iel .i64) (iel .u32)) a0, (mvec 2 (ag2 (iel .i64) (iel .u32))) a1, (mvec 2 (ag2 (iel .i64) (iel .u32))) a2] [v0.cells.toList, v1.cells.toList, v2.cells.toList] := by simp only [HasZ]; exact ⟨_, _, rfl, c0, _, _, rfl, c1, _, _, rfl, c2, rfl⟩
  have hr := law_runA ⟨Tryz.f7, Tryz.func7, rfl, by kernel_rfl⟩ (called a0 a1 a2 w0 w1 w2) hg hz
  simp only [List.zipWith_cons_cons, List.zipWith_nil_left, List.zipWith_nil_right, e0, e1, e2] at hr
  refine hr.mono fun e W' ⟨he, hb⟩ => ?_
  subst he
  exact ⟨_, rfl, law_post laidOut params rfl rfl Tryz.underlying4 hW' ⟨rfl, rfl, rfl⟩ hb⟩

/-- A world for the witness: the settled one, the tables holding what their texts lay. -/
noncomputable def laidWorld (os : Os) : World :=
  { World.holding Tryz.prog os ⟨#[], #[], []⟩ with heap := ((World.holding Tryz.prog os ⟨#[], #[], []⟩).heap |>.modify 3 (fun | .cells _ t frozen => .cells #[.int .u8 0, .int .u8 1, .int .u8 28, .int .u8 2, .int .u8 29, .int .u8 14, .int .u8 24, .int .u8 3, .int .u8 30, .int .u8 22, .int .u8 20, .int .u8 15, .int .u8 25, .int .u8 17, .int .u8 4, .int .u8 8, .int .u8 31, .int .u8 27, .int .u8 13, .int .u8 23, .int .u8 21, .int .u8 19, .int .u8 16, .int .u8 7, .int .u8 26, .int .u8 12, .int .u8 18, .int .u8 6, .int .u8 11, .int .u8 5, .int .u8 10, .int .u8 9] t frozen | o => o) |>.modify 4 (fun | .cells _ t frozen => .cells #[.int .u8 0, .int .u8 1, .int .u8 56, .int .u8 2, .int .u8 57, .int .u8 49, .int .u8 28, .int .u8 3, .int .u8 61, .int .u8 58, .int .u8 42, .int .u8 50, .int .u8 38, .int .u8 29, .int .u8 17, .int .u8 4, .int .u8 62, .int .u8 47, .int .u8 59, .int .u8 36, .int .u8 45, .int .u8 43, .int .u8 51, .int .u8 22, .int .u8 53, .int .u8 39, .int .u8 33, .int .u8 30, .int .u8 24, .int .u8 18, .int .u8 12, .int .u8 5, .int .u8 63, .int .u8 55, .int .u8 48, .int .u8 27, .int .u8 60, .int .u8 41, .int .u8 37, .int .u8 16, .int .u8 46, .int .u8 35, .int .u8 44, .int .u8 21, .int .u8 52, .int .u8 32, .int .u8 23, .int .u8 11, .int .u8 54, .int .u8 26, .int .u8 40, .int .u8 15, .int .u8 34, .int .u8 20, .int .u8 31, .int .u8 10, .int .u8 25, .int .u8 14, .int .u8 19, .int .u8 9, .int .u8 13, .int .u8 8, .int .u8 7, .int .u8 6] t frozen | o => o) |>.modify 1 (fun | .cells _ t frozen => .cells #[.int .u64 1, .int .u64 10, .int .u64 100, .int .u64 1000, .int .u64 10000, .int .u64 100000, .int .u64 1000000, .int .u64 10000000, .int .u64 100000000, .int .u64 1000000000, .int .u64 10000000000, .int .u64 100000000000, .int .u64 1000000000000, .int .u64 10000000000000, .int .u64 100000000000000, .int .u64 1000000000000000, .int .u64 10000000000000000, .int .u64 100000000000000000, .int .u64 1000000000000000000, .int .u64 10000000000000000000] t frozen | o => o)) }
theorem laid_met (os : Os) : laidMet Tryz.prog Rows.vecsPlaysRow.laid ((laidWorld os).forCall (fun _ _ => 0) ⟨#[], #[.agg #[.int .i64 0, .int .u32 0], .slice none 0 0, .slice none 0 0], []⟩).memory :=
  laidMet_of_run' 8 (by kernel_rfl) (by kernel_rfl)
theorem reads (os : Os) {H : Type} (enc : TypeId × Value → H) : ∃ places, DataW.whole enc Tryz.prog ((laidWorld os).forCall (fun _ _ => 0) ⟨#[], #[.agg #[.int .i64 0, .int .u32 0], .slice none 0 0, .slice none 0 0], []⟩).memory Tryz.f7.params.toList Rows.vecsPlaysSpec.vars false #[.agg #[.int .i64 0, .int .u32 0], .slice none 0 0, .slice none 0 0].toList 8 = some ([.agg [.lit (.int .i64 0), .lit (.int .u32 0)], .nil, .nil], [], places) :=
  ⟨[], by kernel_rfl⟩

theorem lifted (os : Os) (started : os.Started) (H : Type) (enc : TypeId × Value → H) (F : Stop.Interp) :
    ReturnsInHanded {} Tryz.checked os 7 .any ((OpenSpec.ofChange Rows.vecsPlaysSpec).preRow enc Tryz.prog Tryz.f7 Rows.vecsPlaysRow.domain false Rows.vecsPlaysRow.laid) (((OpenSpec.ofChange Rows.vecsPlaysSpec).at F).post enc Tryz.prog Tryz.f7 false true false false) := by
  obtain ⟨places, hx⟩ := reads os enc
  refine returnsInHanded_of_row (C := Tryz.checked) (s := OpenSpec.ofChange Rows.vecsPlaysSpec) own started (by kernel_rfl) Tryz.func7
    (witness_row_at (enc := enc) (C := Tryz.checked) false (laidWorld os) #[.agg #[.int .i64 0, .int .u32 0], .slice none 0 0, .slice none 0 0] rfl (by kernel_rfl) (by kernel_rfl) (by kernel_rfl)
      (OpenSpec.preRow_of_cond 8 hx (by kernel_rfl) (fun k hk => by cases hk) (by kernel_rfl) (laid_met os))) ?_
  intro W base args ds gs before hval hW _ _ _ hL _ _
  exact contract H enc W base args ds gs before hval hW hL

theorem said : Rows.VecsPlaysSaid :=
  OpenClaim.holds_of_cond 7 Tryz.f7 rfl rfl rfl rfl rfl rfl rfl ⟨rfl, rfl, rfl, rfl, rfl⟩ rfl rfl rfl rfl rfl (by kernel_rfl) Tryz.func7 (by kernel_rfl)
    (of_decide_eq_true (by kernel_rfl)) (by unfold Func.isWrapper; first | (rw [if_pos (by decide +kernel)]; kernel_rfl) | (rw [if_neg (by decide +kernel)]; exact ⟨rfl, rfl⟩))
    (fun os started H enc _ F => by rw [OpenClaim.pre_eq_preRow]; exact lifted os started H enc F)

/-- No parameter wants a stand-in; the program's own looks are off. -/
theorem plain (f : FuncId) (fn : Func) (hf : Tryz.pinned.checked.prog.funcNamed "gusset/gussetlaw12.VecsPlays" = some f) (hfn : Tryz.pinned.checked.prog.funcs[f]? = some fn) :
    false = Tryz.pinned.checked.prog.looks [] ∧ ∀ (j : Nat) t, fn.params[j]? = some t → Tryz.pinned.checked.prog.wantsStandIn t = false := by
  obtain rfl : f = 7 := Option.some.inj ((show Tryz.prog.funcNamed "gusset/gussetlaw12.VecsPlays" = some 7 by kernel_rfl).symm.trans hf) |>.symm
  obtain rfl : fn = Tryz.f7 := (Option.some.inj (Tryz.func7.symm.trans hfn)).symm
  refine ⟨by kernel_rfl, fun j t ht => ?_⟩
  have hall : (Tryz.f7.params.toList.all fun t => !Tryz.prog.wantsStandIn t) = true := by kernel_rfl
  have := List.all_eq_true.1 hall t (by simpa using Array.mem_of_getElem? ht)
  exact (show Tryz.prog.wantsStandIn t = false by simpa using this)

/-- The card. -/
theorem card : Rows.VecsPlaysCardSaid :=
  Claim7.holds_tied_plain_at .later [] _ _ _ _ said (fun _ h => by cases h) (by kernel_rfl) (fun _ h => by cases h) vecsPlays_row_tie rfl ⟨rfl, rfl⟩ (by kernel_rfl) rfl plain (by kernel_rfl)
#print axioms card
end Go.Proofs.YtgodfkgocbppgaaGreatDoor.vecsPlays
