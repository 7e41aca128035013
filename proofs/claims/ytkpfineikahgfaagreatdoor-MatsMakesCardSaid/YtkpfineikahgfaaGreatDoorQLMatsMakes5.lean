/- The texts Kg, Kf, Kh, Ra, Rb, Rc, Rd, Aa, Re, Rf, Td, Te, Tf, Rg, Kk, Kl, Ki, Km, Kn, Ko, Kp, Kq, Kr, Ks, Kt, Ku, Kz. -/
import Derived.Test.YtkpfineikahgfaaGreatDoorQLMatsMakes4
namespace Go.Proofs.YtkpfineikahgfaaGreatDoor
open Go.Sx
set_option linter.unusedSimpArgs false
set_option linter.unusedVariables false
set_option maxRecDepth 100000
set_option maxHeartbeats 4000000

theorem c_IndexFunc (l : List Int) (g : FuncId) (p : Pred) (P : Int → Bool) (hl : l.length < 1099511627776) (hf : ∀ x ∈ l, CallOK Tryz.prog g ([] ++ ([iv x] ++ [.atom p])) [] (.val (.bool (P x))) [] []) :
    CallOK Tryz.prog 193 [ivec .i64 l, .clo g [] [.atom p]] [] (iv (if l.any P then (l.findIdx P : Nat) else -1)) [] [] := by
  refine callV (Z := []) tabOK mixedOK Tryz.func193 rfl (by kernel_rfl) rfl rfl (by kernel_rfl) rfl ?_
  intro W0 w0 ρ0 hE
  conv => whnf
  (repeat (first | (refine g_o (op_lenM rfl rfl rfl (ev_ok rfl) (tgt rfl) rfl) ?_; conv => whnf)))
  refine SW_loopN hE (fun k => k) [0, 1, 7, 8] [] (fun m fr hp => ∃ i : Nat, m = l.length - i ∧ i ≤ l.length ∧ (∀ j, j < i → P (l.getD j 0) = false) ∧ fr = [(0, ivec .i64 l), (1, .clo g [] [.atom p]), (7, iv (l.length : Nat)), (8, iv (i : Nat))] ∧ hp = []) l.length ?_ ?_ ?_
  · kernel_rfl
  · exact ⟨0, rfl, Nat.zero_le _, (fun j hj => by omega), rfl, rfl⟩
  rintro m _ _ ⟨i, rfl, hi, hs, rfl, rfl⟩
  conv => whnf
  by_cases hlt : i < l.length
  · have t1 := dlt hlt
    have t2 := winc (i := i) (by omega)
    have o1 := hf _ (getD_mem (d := 0) hlt)
    cases hP : P (l.getD i 0)
    · rw [hP] at o1
      (repeat ((first | refine step_w1 rfl rfl ?_ | refine step_w2 rfl rfl ?_ | refine g_c (by assumption) ?_ | refine g_o (op_loadA rfl (ev_ok rfl) (tgt rfl) rfl (Nat.succ_ne_zero _) rfl) ?_ | refine g_o (op_indexN (α := Int) (d := 0) rfl (ev_ok rfl) (ev_ok rfl) (tgt rfl) rfl (tgt rfl) rfl (by omega)) ?_ | rw [t1] | rw [t2]); conv => whnf))
      refine ⟨l.length - (i + 1), fun k => k, [0, 1, 7, 8], [], by omega, by kernel_rfl, i + 1, rfl, hlt, ?_, rfl, rfl⟩
      intro j hj
      by_cases hji : j = i
      · rw [hji]; exact hP
      · exact hs j (by omega)
    · rw [hP] at o1
      have e1 : l.any P = true := any_at (d := 0) hlt hP
      have e2 : l.findIdx P = i := by
        rw [List.findIdx_eq hlt]
        refine ⟨by rw [List.getD_eq_getElem?_getD, List.getElem?_eq_getElem hlt] at hP; exact hP, fun j hj => ?_⟩
        have := hs j hj
        rw [List.getD_eq_getElem?_getD, List.getElem?_eq_getElem (by omega)] at this
        exact this
      rw [if_pos e1, e2]
      (repeat ((first | refine step_w1 rfl rfl ?_ | refine g_c (by assumption) ?_ | refine g_o (op_loadA rfl (ev_ok rfl) (tgt rfl) rfl (Nat.succ_ne_zero _) rfl) ?_ | refine g_o (op_indexN (α := Int) (d := 0) rfl (ev_ok rfl) (ev_ok rfl) (tgt rfl) rfl (tgt rfl) rfl (by omega)) ?_ | rw [t1]); conv => whnf)); (first | exact Recast.refl _ | exact Frz.recast (Recast.refl _) rfl | (refine Frz.one rfl rfl ?_; skip) | (refine Frz.tup ?_; skip))
  · have t1 := dge hlt
    have hI : i = l.length := by omega
    subst hI
    have e1 : l.any P = false := any_no 0 hs
    rw [if_neg (by rw [e1]; exact Bool.false_ne_true)]
    (repeat (first | (refine step_w2 rfl rfl ?_; conv => whnf) | (rw [t1]; conv => whnf))); (first | exact Recast.refl _ | exact Frz.recast (Recast.refl _) rfl | (refine Frz.one rfl rfl ?_; skip) | (refine Frz.tup ?_; skip))
theorem c_ContainsFunc (l : List Int) (g : FuncId) (p : Pred) (P : Int → Bool) (hl : l.length < 1099511627776) (hf : ∀ x ∈ l, CallOK Tryz.prog g ([] ++ ([iv x] ++ [.atom p])) [] (.val (.bool (P x))) [] []) :
    CallOK Tryz.prog 174 [ivec .i64 l, .clo g [] [.atom p]] [] (.val (.bool (l.any P))) [] [] := by
  have k1 := c_IndexFunc l g p P hl hf
  refine callV (Z := []) tabOK mixedOK Tryz.func174 rfl (by kernel_rfl) rfl rfl (by kernel_rfl) rfl ?_
  intro W0 w0 ρ0 hE
  conv => whnf
  cases h : l.any P
  · rw [if_neg (by rw [h]; exact Bool.false_ne_true)] at k1
    (repeat (first | (refine g_c (by assumption) ?_; conv => whnf))); (first | exact Recast.refl _ | exact Frz.recast (Recast.refl _) rfl | (refine Frz.one rfl rfl ?_; skip) | (refine Frz.tup ?_; skip))
  · rw [if_pos h] at k1
    have t1 : decide (((l.findIdx P : Nat) : Int) ≥ 0) = true := decide_eq_true (by omega)
    (repeat (first | (refine g_c (by assumption) ?_; conv => whnf) | (rw [t1]; conv => whnf))); (first | exact Recast.refl _ | exact Frz.recast (Recast.refl _) rfl | (refine Frz.one rfl rfl ?_; skip) | (refine Frz.tup ?_; skip))

/-- Whether an index is out of range. -/
abbrev outF (n : Nat) (i : Int) : Bool := !decide (0 ≤ i ∧ i < (n : Int))
abbrev mpart (c : Nat) (a : List Rat) (rows cols : List Int) : List Rat := mk rows.length cols.length fun i k => el a c (rows.getD i 0).toNat (cols.getD k 0).toNat
theorem m_Part {r c : Nat} {a : List Rat} (ha : OKM r c a) (rows cols : List Int) (hr : rows.length ≤ 2048) (hc : cols.length ≤ 2048) (h1 : ∀ x ∈ rows, 0 ≤ x ∧ x < r) (h2 : ∀ x ∈ cols, 0 ≤ x ∧ x < c) :
    CallOK Tryz.prog 71 [mA r c a, ivec .i64 rows, ivec .i64 cols] [] (.tup [mA rows.length cols.length (mpart c a rows cols), iv 0]) [] [] := by
  have k0 := m_Check0 ha
  have k1 := m_sides rows.length cols.length
  rw [sides_of (by omega)] at k1
  have ka := c_ContainsFunc rows 175 (ptrP (mC r c a)) (outF r) (by omega) (fun x _ => by
    have k1 := m_has x r
    refine callV (Z := []) tabOK mixedOK Tryz.func175 rfl (by kernel_rfl) rfl rfl (by kernel_rfl) rfl ?_
    intro W0 w0 ρ0 hE
    conv => whnf
    (repeat (first | (refine g_c (by assumption) ?_; conv => whnf) | (refine g_o (op_loadA rfl (ev_ok rfl) (tgt rfl) rfl (Nat.succ_ne_zero _) rfl) ?_; conv => whnf) | (refine g_o (op_fieldA rfl (ev_ok rfl) (tgt rfl) rfl rfl (Nat.succ_ne_zero _) rfl) ?_; conv => whnf))); (first | exact Recast.refl _ | exact Frz.recast (Recast.refl _) rfl | (refine Frz.one rfl rfl ?_; skip) | (refine Frz.tup ?_; skip)))
  have kb := c_ContainsFunc cols 177 (ptrP (mC r c a)) (outF c) (by omega) (fun x _ => by
    have k1 := m_has x c
    refine callV (Z := []) tabOK mixedOK Tryz.func177 rfl (by kernel_rfl) rfl rfl (by kernel_rfl) rfl ?_
    intro W0 w0 ρ0 hE
    conv => whnf
    (repeat (first | (refine g_c (by assumption) ?_; conv => whnf) | (refine g_o (op_loadA rfl (ev_ok rfl) (tgt rfl) rfl (Nat.succ_ne_zero _) rfl) ?_; conv => whnf) | (refine g_o (op_fieldA rfl (ev_ok rfl) (tgt rfl) rfl rfl (Nat.succ_ne_zero _) rfl) ?_; conv => whnf))); (first | exact Recast.refl _ | exact Frz.recast (Recast.refl _) rfl | (refine Frz.one rfl rfl ?_; skip) | (refine Frz.tup ?_; skip)))
  have e1 : rows.any (outF r) = false := any_no 0 fun i hi => by rw [outF, decide_eq_true (h1 _ (getD_mem hi))]; rfl
  have e2 : cols.any (outF c) = false := any_no 0 fun i hi => by rw [outF, decide_eq_true (h2 _ (getD_mem hi))]; rfl
  rw [e1] at ka
  rw [e2] at kb
  have k2 := m_Make3 hr hc (fun i k => el a c (rows.getD i 0).toNat (cols.getD k 0).toNat) 178 (ptrP (mC r c a)) (ptrP [ivec .i64 rows]) (ptrP [ivec .i64 cols]) (fun i k hi hk => by
    have g1 := h1 _ (getD_mem (d := 0) hi)
    have g2 := h2 _ (getD_mem (d := 0) hk)
    have o1 := m_at ha (i := (rows.getD i 0).toNat) (k := (cols.getD k 0).toNat) (by omega) (by omega)
    rw [Int.toNat_of_nonneg g1.1, Int.toNat_of_nonneg g2.1] at o1
    refine callV (Z := []) tabOK mixedOK Tryz.func178 rfl (by kernel_rfl) rfl rfl (by kernel_rfl) rfl ?_
    intro W0 w0 ρ0 hE
    conv => whnf
    (repeat ((first | refine step_i (by kernel_rfl) ?_ | refine g_c (by assumption) ?_ | refine g_o (op_loadA rfl (ev_ok rfl) (tgt rfl) rfl (Nat.succ_ne_zero _) rfl) ?_ | refine g_o (op_indexN (α := Int) (d := 0) rfl (ev_ok rfl) (ev_ok rfl) (tgt rfl) rfl (tgt rfl) rfl (by omega)) ?_); conv => whnf)); (first | exact Recast.refl _ | exact Frz.recast (Recast.refl _) rfl | (refine Frz.one rfl rfl ?_; skip) | (refine Frz.tup ?_; skip)))
  refine callV (Z := [3, 4, 5]) tabOK mixedOK Tryz.func71 rfl (by kernel_rfl) rfl rfl (by kernel_rfl) rfl ?_
  intro W0 w0 ρ0 hE
  conv => whnf
  (repeat ((first | refine step_w1 rfl rfl ?_ | refine step_w2 rfl rfl ?_ | refine g_c (by assumption) ?_ | refine g_o (op_pickF rfl (ev_ok rfl) (ev_ok rfl)) ?_ | rw [bne_self_eq_false] | refine g_o (op_lenM rfl rfl rfl (ev_ok rfl) (tgt rfl) rfl) ?_ | refine g_o (op_loadA rfl (ev_ok rfl) (tgt rfl) rfl (Nat.succ_ne_zero _) rfl) ?_ | refine g_o (op_makeFunc rfl rfl rfl) ?_); conv => whnf)); (first | exact Recast.refl _ | exact Frz.recast (Recast.refl _) rfl | (refine Frz.one rfl rfl ?_; skip) | (refine Frz.tup ?_; skip))
/-- The text of a matrix. -/
def rowsL (r c : Nat) (a : List Rat) : List (List Rat) := (List.range r).map (rowL a c)
def tM (r c : Nat) (a : List Rat) : ByteArray := ⟨(Lib.join (((rowsL r c a).map tV).map (·.data.toList)) [32]).toArray⟩
theorem rowsL_get {r c i : Nat} {a : List Rat} (hi : i < r) : (rowsL r c a).getD i [] = rowL a c i := by simp [rowsL, List.getD_eq_getElem?_getD, hi]
theorem rowsL_len (r c : Nat) (a : List Rat) : (rowsL r c a).length = r := by simp [rowsL]
theorem tV_size {a : List Rat} {B : Nat} (h : ∀ i, i < a.length → fs (a.getD i 0) ≤ B) : (tV a).data.toList.length ≤ 2 + a.length * (2 * B + 5) := by
  have h1 := join_size ((a.map tQ).map (·.data.toList)) (2 * B + 4) (by
    intro x hx
    obtain ⟨s, hs, rfl⟩ := List.mem_map.1 hx
    obtain ⟨q, hq, rfl⟩ := List.mem_map.1 hs
    obtain ⟨i, hi, rfl⟩ := mem_getD hq 0
    have h1 := tQ_size (a.getD i 0)
    have h2 := h i hi
    have : (tQ (a.getD i 0)).data.toList.length = (tQ (a.getD i 0)).size := Array.length_toList
    show (tQ (a.getD i 0)).data.toList.length ≤ _
    omega)
  rw [List.length_map, List.length_map] at h1
  have e1 : "[".toByteArray.data.toList.length = 1 := by decide +kernel
  have e2 : "]".toByteArray.data.toList.length = 1 := by decide +kernel
  unfold tV
  rw [ByteArray.data_append, ByteArray.data_append, Array.toList_append, Array.toList_append, List.length_append, List.length_append]
  show "[".toByteArray.data.toList.length + (Lib.join ((a.map tQ).map (·.data.toList)) [32]).length + "]".toByteArray.data.toList.length ≤ _
  rw [e1, e2]
  rw [show 2 * B + 4 + 1 = 2 * B + 5 from rfl] at h1
  omega
theorem rows_sm {r c B : Nat} {a : List Rat} (ha : a.length = r * c) (sa : Sm B a) {l : List Rat} (h : l ∈ rowsL r c a) : l.length = c ∧ Sm B l := by
  obtain ⟨i, hi, rfl⟩ := List.mem_map.1 h
  have hi' := List.mem_range.1 hi
  exact ⟨rowL_len hi' ha, Sm_row sa ha hi'⟩
theorem tM_join {r c B : Nat} {a : List Rat} (ha : OKM r c a) (sa : Sm B a) (hB : B ≤ 1000000) : (Lib.join (((rowsL r c a).map tV).map (·.data.toList)) [32]).length ≤ 140737488355328 := by
  refine Nat.le_trans (join_size _ (2 + 2048 * (2 * B + 5)) ?_) ?_
  · intro x hx
    obtain ⟨s, hs, rfl⟩ := List.mem_map.1 hx
    obtain ⟨l, hl, rfl⟩ := List.mem_map.1 hs
    obtain ⟨h1, h2⟩ := rows_sm ha.n sa hl
    refine Nat.le_trans (tV_size h2) ?_
    have := Nat.mul_le_mul_right (2 * B + 5) (show l.length ≤ 2048 by rw [h1]; exact ha.c)
    omega
  · rw [List.length_map, List.length_map, rowsL_len]
    have := Nat.mul_le_mul_right (2 + 2048 * (2 * B + 5) + 1) ha.r
    omega
theorem app_snocS {l : List ByteArray} {i : Nat} {d : ByteArray} (h : i < l.length) : (⟨9, true, .seq 1 ((l.take (i + 1)).map sel)⟩ : Blk) = ⟨9, true, .seq 1 (List.take i ((l.take i).map sel) ++ List.take 1 (List.drop 0 [sel (l.getD i d)]))⟩ := by
  have hl : ((l.take i).map sel).length = i := by rw [List.length_map, List.length_take]; omega
  have e : l.take (i + 1) = l.take i ++ [l.getD i d] := by rw [List.take_add_one, List.getD_eq_getElem?_getD, List.getElem?_eq_getElem h]; rfl
  rw [e, List.map_append, List.take_of_length_le (l := (l.take i).map sel) (by omega)]; rfl
abbrev sblkM (l : List ByteArray) : Blk := ⟨9, true, .seq 1 (l.map sel)⟩
theorem m_Text {r c B : Nat} {a : List Rat} (ha : OKM r c a) (sa : Sm B a) (hB : B ≤ 1000000) : CallOK Tryz.prog 80 [mA r c a] [] (.val (.string (tM r c a))) [] [] := by
  have k0 := m_Check0 ha
  have hr := ha.r
  have la := rowsL_len r c a
  have hz : ((rowsL r c a).map tV).length = r := by rw [List.length_map, rowsL_len]
  have kj := t_Join ((rowsL r c a).map tV) (by omega) (tM_join ha sa hB)
  refine callF (Z := [1]) tabOK mixedOK Tryz.func80 rfl (by kernel_rfl) (by first | rfl | (simp [keylessL, keyless, keylessL_map, *]; done)) (by first | rfl | (simp [keylessL, keyless, keylessL_map, *]; done)) (by kernel_rfl) rfl ?_
  intro w0 ρ0 hE
  conv => whnf
  (repeat ((first | refine step_w2 rfl rfl ?_ | refine g_c (by assumption) ?_ | rw [bne_self_eq_false] | refine g_o (op_loadA rfl (ev_ok rfl) (tgt rfl) rfl (Nat.succ_ne_zero _) rfl) ?_ | refine g_o (op_fieldA rfl (ev_ok rfl) (tgt rfl) rfl rfl (Nat.succ_ne_zero _) rfl) ?_); conv => whnf))
  refine SWx_adopt (t := 3) (k := 2001) (s := 1) (blk := sblkM []) rfl rfl rfl ?_
  refine SW_loopS hE (fun k => k) [1, 3, 9, 10] [2001] (fun m fr hp => ∃ i : Nat, m = r - i ∧ i ≤ r ∧ fr = [(1, ptrA (mC r c a)), (3, .slc 2001 1 0 i), (9, iv r), (10, iv (i : Nat))] ∧ hp = [(2001, sblkM (((rowsL r c a).map tV).take i))]) r ?_ ?_ ?_
  · kernel_rfl
  · exact ⟨0, rfl, Nat.zero_le _, rfl, rfl⟩
  rintro m _ _ ⟨i, rfl, hi, rfl, rfl⟩
  have hlt0 : ((((rowsL r c a).map tV).take i).map sel).length = i := by rw [List.length_map, List.length_take]; omega
  by_cases hlt : i < r
  · have t1 := dlt hlt
    have t2 := winc (i := i) (by omega)
    have o1 := m_rowV ha hlt
    have l1 := rowL_len hlt ha.n
    have o2 := t_VecG (rowL a c i) B (by have := ha.c; omega) (Sm_row sa ha.n hlt) (by omega)
    have hget : ((rowsL r c a).map tV).getD i ByteArray.empty = tV (rowL a c i) := by rw [map_get (d := []) (by rw [rowsL_len]; exact hlt), rowsL_get hlt]
    have e1 := app_snocS (l := (rowsL r c a).map tV) (d := ByteArray.empty) (i := i) (by omega)
    rw [hget] at e1
    refine SWx.of hE ?_
    conv => whnf
    (repeat ((first | refine step_w1 rfl rfl ?_ | refine step_oA (by first | omega | decide | (simp only [tiB5, tiB95, tiB3, tiB2, tiB9, tiB38, tiB74, tiB25, tiB41, tiB36, tiB30, tiB4, tiB70, tiB72, tiB164, tiB27, tiB62, tiB32, dlen, List.length_replicate, List.length_set, List.length_map, List.length_zipWith, List.length_take, List.length_append, List.length_cons, List.length_nil]; omega)) ?_ | refine g_c (by assumption) ?_ | refine g_o (op_loadA rfl (ev_ok rfl) (tgt rfl) rfl (Nat.succ_ne_zero _) rfl) ?_ | rw [t1] | rw [t2]); conv => whnf))
    refine ⟨r - (i + 1), renBy [(19, 2001)], [1, 3, 9, 10], [19], by omega, by kernel_rfl, i + 1, rfl, hlt, rfl, ?_⟩
    rw [sblkM, e1]; rfl
  · have t1 := dge hlt
    obtain rfl : i = r := by omega
    rw [List.take_of_length_le (by omega)]
    refine SWx_freezeM 3 2001 (fun _ h => h) (fun _ => rfl) rfl rfl hz.symm ?_
    refine SWx.of hE ?_
    conv => whnf
    (repeat (first | (refine step_w2 rfl rfl ?_; conv => whnf) | (refine g_c (by assumption) ?_; conv => whnf) | (rw [t1]; conv => whnf))); (first | exact Recast.refl _ | exact Frz.recast (Recast.refl _) rfl | (refine Frz.one rfl rfl ?_; skip) | (refine Frz.tup ?_; skip))
end Go.Proofs.YtkpfineikahgfaaGreatDoor

namespace Go.Sx
set_option linter.unusedSimpArgs false
set_option linter.unusedVariables false
theorem addKey_RR {E : Env} {k : Nat} {blk : Blk} {fr : List (Nat × SV)} {hp : List (Nat × Blk)} (hk : find hp k = none) (he : blk.data.empty) {a : Act} {w : World} (hR : RR E (fn fr hp) a w) :
    RR E (fn fr ((k, blk) :: hp)) a w := by
  obtain ⟨ρ, hext, hfx, hR⟩ := hR
  have hkn : ρ.key k = none := by
    cases hx : ρ.key k with
    | none => rfl
    | some x =>
      obtain ⟨b, hb⟩ := hR.hp.dom k x hx
      simp only [fn, LV.blk, hk] at hb
      cases hb
  have hblk : ∀ j b, (fn fr ((k, blk) :: hp) (.k j)).blk = some b → (j = k ∧ b = blk) ∨ (j ≠ k ∧ (fn fr hp (.k j)).blk = some b) := by
    intro j b hb
    simp only [fn, LV.blk, find] at hb ⊢
    cases hj : Nat.beq k j with
    | true => rw [hj] at hb; simp only [Option.some.injEq] at hb; exact .inl ⟨(Nat.eq_of_beq_eq_true hj).symm, hb.symm⟩
    | false => rw [hj] at hb; exact .inr ⟨by rintro rfl; simp [Nat.beq_refl] at hj, hb⟩
  have hne : ∀ j x, ρ.key j = some x → j ≠ k := fun j x hx h => by rw [h, hkn] at hx; cases hx
  refine ⟨ρ, hext, fun j hj => ?_, { defers := hR.defers, size := hR.size, fr := fun u sv hu => hR.fr u sv hu, pres := hR.pres, hp := ?_ }⟩
  · have := hfx j hj
    simp only [fn, LV.blk, find] at this ⊢
    cases hb : Nat.beq k j with
    | true => simp
    | false => exact this
  · constructor
    · intro j b hb
      rcases hblk j b hb with ⟨rfl, rfl⟩ | ⟨_, h1⟩
      · exact .inr (.inr ⟨hkn, he⟩)
      · exact hR.hp.blk j b h1
    · intro j j' x x' b b' hx hx' hn hxe hb hb'
      rcases hblk j b hb with ⟨h1, _⟩ | ⟨_, h1⟩
      · exact absurd h1 (hne j x hx)
      · rcases hblk j' b' hb' with ⟨h2, _⟩ | ⟨_, h2⟩
        · exact absurd h2 (hne j' x' hx')
        · exact hR.hp.sep j j' x x' b b' hx hx' hn hxe h1 h2
    · intro j b x hb hw hl hx
      rcases hblk j b hb with ⟨h1, _⟩ | ⟨_, h1⟩
      · exact absurd h1 (hne j x hx)
      · exact hR.hp.own j b x h1 hw hl hx
    · intro j x hx
      obtain ⟨b, hb⟩ := hR.hp.dom j x hx
      have := hne j x hx
      refine ⟨b, ?_⟩
      simp only [fn, LV.blk, find] at hb ⊢
      cases hj : Nat.beq k j with
      | true => exact absurd (Nat.eq_of_beq_eq_true hj).symm this
      | false => exact hb
    · exact hR.hp.imm
    · intro j b x hb hw hl hx
      rcases hblk j b hb with ⟨h1, _⟩ | ⟨_, h1⟩
      · exact absurd h1 (hne j x hx)
      · exact hR.hp.immw j b x h1 hw hl hx

theorem tst_tt {t : Bool} {A B : Prop} (h : t = true) (k : A) : (t = true → A) ∧ (t = false → B) := ⟨fun _ => k, fun h' => (by rw [h] at h'; cases h')⟩
theorem tst_ff {t : Bool} {A B : Prop} (h : t = false) (k : B) : (t = true → A) ∧ (t = false → B) := ⟨fun h' => (by rw [h] at h'; cases h'), fun _ => k⟩

/-- One value told in the words of another. -/
def Wk (c d : SV) : Prop := c.isOne = d.isOne ∧ ∀ ρ x, HasC ρ c x → HasC ρ d x
def WkL (l m : List SV) : Prop := (∀ z, List.zipWith mkV l z = List.zipWith mkV m z) ∧ ∀ ρ z, HasZ ρ l z → HasZ ρ m z
theorem Wk.refl {c : SV} : Wk c c := ⟨rfl, fun _ _ h => h⟩
theorem Wk.nil {w : Nat} {a : Option Addr} : Wk (.val (.slice a 0 0)) (vecA w []) := ⟨rfl, fun _ _ h => nil_vec h⟩
theorem WkL.nil : WkL [] [] := ⟨fun _ => rfl, fun _ _ h => h⟩
theorem WkL.cons {c d : SV} {l m : List SV} (h : Wk c d) (k : WkL l m) : WkL (c :: l) (d :: m) :=
  ⟨fun z => by cases z with
    | nil => rfl
    | cons x r => rw [List.zipWith_cons_cons, List.zipWith_cons_cons, k.1 r, mkV_eq h.1], fun ρ z hz => by
    simp only [HasZ] at hz ⊢
    obtain ⟨x, r, rfl, h1, h2⟩ := hz
    exact ⟨x, r, rfl, h.2 ρ x h1, k.2 ρ r h2⟩⟩
theorem Wk.agg {l m : List SV} (h : WkL l m) : Wk (.agg l) (.agg m) := ⟨rfl, fun ρ x hx => by
  simp only [HasC] at hx ⊢
  obtain ⟨z, h1, h2⟩ := hx
  exact ⟨z, h.2 ρ z h1, h2⟩⟩
theorem CallOK.wk {P : Program} {f : FuncId} {args args' : List SV} {fk : List (Nat × Blk)} {c : SV} {new upd : List (Nat × Blk)} (h : CallOK P f args' fk c new upd) (hw : WkL args args') : CallOK P f args fk c new upd := CallOK.args h hw.2 hw.1

end Go.Sx

namespace Go.Proofs.YtkpfineikahgfaaGreatDoor
open Go.Sx
set_option linter.unusedSimpArgs false
set_option linter.unusedVariables false
set_option maxRecDepth 100000
set_option maxHeartbeats 4000000

end Go.Proofs.YtkpfineikahgfaaGreatDoor

namespace Go.Proofs.YtkpfineikahgfaaGreatDoor
open Go.Sx
set_option linter.unusedSimpArgs false
set_option linter.unusedVariables false
set_option maxRecDepth 100000
set_option maxHeartbeats 4000000

def tdF : Nat → Nat → List Nat
  | 0, _ => []
  | f + 1, n => if n = 0 then [] else n % 10000 :: tdF f (n / 10000)
def tdW (n : Nat) : List Nat := tdF n n
/-- Words are 32 bits wide. -/
def W4 (xs : List Int) : Prop := ∀ i, 0 ≤ xs.getD i 0 ∧ xs.getD i 0 < 10000

theorem W4.set {xs : List Int} (h : W4 xs) {i : Nat} {v : Int} (h0 : 0 ≤ v) (h1 : v < 10000) : W4 (xs.set i v) := by
  intro j
  rw [getD_set]
  split
  · exact ⟨h0, h1⟩
  · exact h j

/-- The tdW as the machine has them. -/
def td (n : Nat) : List Int := (tdW n).map Int.ofNat

end Go.Proofs.YtkpfineikahgfaaGreatDoor

namespace Go.Proofs.YtkpfineikahgfaaGreatDoor
open Go.Sx
set_option linter.unusedSimpArgs false
set_option linter.unusedVariables false
set_option maxRecDepth 100000
set_option maxHeartbeats 4000000

end Go.Proofs.YtkpfineikahgfaaGreatDoor

namespace Go.Proofs.YtkpfineikahgfaaGreatDoor
open Go.Sx
set_option linter.unusedSimpArgs false
set_option linter.unusedVariables false
set_option maxRecDepth 100000
set_option maxHeartbeats 4000000

end Go.Proofs.YtkpfineikahgfaaGreatDoor

namespace Go.Proofs.YtkpfineikahgfaaGreatDoor
open Go.Sx
set_option linter.unusedSimpArgs false
set_option linter.unusedVariables false
set_option maxRecDepth 100000
set_option maxHeartbeats 4000000

end Go.Proofs.YtkpfineikahgfaaGreatDoor

namespace Go.Proofs.YtkpfineikahgfaaGreatDoor
open Go.Sx
set_option linter.unusedSimpArgs false
set_option linter.unusedVariables false
set_option maxRecDepth 100000
set_option maxHeartbeats 4000000

end Go.Proofs.YtkpfineikahgfaaGreatDoor

namespace Go.Proofs.YtkpfineikahgfaaGreatDoor
open Go.Sx
set_option linter.unusedSimpArgs false
set_option linter.unusedVariables false
set_option maxRecDepth 100000
set_option maxHeartbeats 4000000

section
variable {a b R d P F T lb : Nat}
end
end Go.Proofs.YtkpfineikahgfaaGreatDoor

namespace Go.Proofs.YtkpfineikahgfaaGreatDoor
open Go.Sx
set_option linter.unusedSimpArgs false
set_option linter.unusedVariables false
set_option maxRecDepth 100000
set_option maxHeartbeats 4000000

end Go.Proofs.YtkpfineikahgfaaGreatDoor

namespace Go.Proofs.YtkpfineikahgfaaGreatDoor
open Go.Sx
set_option linter.unusedSimpArgs false
set_option linter.unusedVariables false
set_option maxRecDepth 100000
set_option maxHeartbeats 4000000

end Go.Proofs.YtkpfineikahgfaaGreatDoor

namespace Go.Proofs.YtkpfineikahgfaaGreatDoor
open Go.Sx
set_option linter.unusedSimpArgs false
set_option linter.unusedVariables false
set_option maxRecDepth 100000
set_option maxHeartbeats 4000000

end Go.Proofs.YtkpfineikahgfaaGreatDoor

namespace Go.Proofs.YtkpfineikahgfaaGreatDoor
open Go.Sx
set_option linter.unusedSimpArgs false
set_option linter.unusedVariables false
set_option maxRecDepth 100000
set_option maxHeartbeats 4000000

end Go.Proofs.YtkpfineikahgfaaGreatDoor

namespace Go.Proofs.YtkpfineikahgfaaGreatDoor
open Go.Sx
set_option linter.unusedSimpArgs false
set_option linter.unusedVariables false
set_option maxRecDepth 100000
set_option maxHeartbeats 4000000

end Go.Proofs.YtkpfineikahgfaaGreatDoor

namespace Go.Proofs.YtkpfineikahgfaaGreatDoor
open Go.Sx
set_option linter.unusedSimpArgs false
set_option linter.unusedVariables false
set_option maxRecDepth 100000
set_option maxHeartbeats 4000000

end Go.Proofs.YtkpfineikahgfaaGreatDoor

namespace Go.Proofs.YtkpfineikahgfaaGreatDoor
open Go.Sx
set_option linter.unusedSimpArgs false
set_option linter.unusedVariables false
set_option maxRecDepth 100000
set_option maxHeartbeats 4000000

end Go.Proofs.YtkpfineikahgfaaGreatDoor

namespace Go.Proofs.YtkpfineikahgfaaGreatDoor
open Go.Sx
set_option linter.unusedSimpArgs false
set_option linter.unusedVariables false
set_option maxRecDepth 100000
set_option maxHeartbeats 4000000

abbrev m4 : List Rat := ofInts [1, 2, 3, 4]
theorem l_works13 : CallOK Tryz.prog 13 [] [] (.val (.bool true)) [] [] := by
  have h4 : OKM 2 2 m4 := ⟨by decide, by decide, rfl⟩
  have s4 : Sm 20 m4 := by unfold Sm; decide +kernel
  have st : Sm 20 (mturn 2 2 m4) := by unfold Sm; decide +kernel
  have sp : Sm 20 (mmul 2 2 2 m4 m4) := by unfold Sm; decide +kernel
  have s1 : Sm 20 (ofInts [1, -1]) := by unfold Sm; decide +kernel
  have s2 : Sm 20 (ofInts [1, 0]) := by unfold Sm; decide +kernel
  have s3 : Sm 20 (ofInts [0, 1]) := by unfold Sm; decide +kernel
  have o1 := m_Of 2 2 [1, 2, 3, 4] (by decide) (by decide) rfl (by decide)
  have o2 := m_Turn h4
  have o3 := m_Mul 2 h4 h4 s4 s4 (by decide) (by decide)
  have v1 := v_Of [1, -1] (by decide) (by decide)
  have v2 := v_Of [1, 0] (by decide) (by decide)
  have v3 := v_Of [0, 1] (by decide) (by decide)
  have o4 := m_Apply 2 h4 (v := ofInts [1, -1]) rfl s4 s1 (by decide) (by decide)
  have o5 := m_Form 2 h4 (v := ofInts [1, 0]) (w := ofInts [0, 1]) rfl rfl s4 s2 s3 (by decide) (by decide) (by decide) (by decide)
  have t1 := m_Text h4 s4 (by decide)
  have t2 := m_Text (r := 2) (c := 2) (B := 20) (a := mturn 2 2 m4) ⟨by decide, by decide, rfl⟩ st (by decide)
  have t3 := m_Text (r := 2) (c := 2) (B := 20) (a := mmul 2 2 2 m4 m4) ⟨by decide, by decide, rfl⟩ sp (by decide)
  have t4 := t_VecG (mapply 2 2 m4 (ofInts [1, -1])) 20 (by decide) (by decide +kernel) (by decide)
  have o6 := c_fInt 2 (by decide) (by decide)
  have o7 := m_OfE 2 2 [1] (by decide) (by decide) (by decide)
  have o8 := (m_OfE (-1) 2049 [] (by decide) (by decide) (by decide)).wk (args := [iv (-1), iv 2049, .val (.slice none 0 0)]) (by repeat (first | exact WkL.nil | refine WkL.cons ?_ ?_ | exact Wk.nil | exact Wk.refl | refine Wk.agg ?_))
  have o9 := (m_OfE 2049 0 [] (by decide) (by decide) (by decide)).wk (args := [iv 2049, iv 0, .val (.slice none 0 0)]) (by repeat (first | exact WkL.nil | refine WkL.cons ?_ ?_ | exact Wk.nil | exact Wk.refl | refine Wk.agg ?_))
  have o10 := (m_Of 0 3 [] (by decide) (by decide) rfl (by decide)).wk (args := [iv 0, iv 3, .val (.slice none 0 0)]) (by repeat (first | exact WkL.nil | refine WkL.cons ?_ ?_ | exact Wk.nil | exact Wk.refl | refine Wk.agg ?_))
  have o11 := m_Part h4 [1, 0] [1] (by decide) (by decide) (by decide) (by decide)
  have t5 := m_Text (a := mpart 2 m4 [1, 0] [1]) (r := 2) (c := 1) (B := 20) ⟨by decide, by decide, rfl⟩ (by unfold Sm; decide +kernel) (by decide)
  have o12 := m_Sum h4 (by decide +kernel)
  have o13 := c_fInt 10 (by decide) (by decide)
  have o14 := m_Symmetric h4
  have o15 := m_Symmetric (r := 0) (c := 3) (a := []) ⟨by decide, by decide, rfl⟩
  have e1 : sameF 2 2 2 2 m4 (mturn 2 2 m4) = false := by decide +kernel
  have e2 : sameF 0 3 3 0 [] (mturn 0 3 []) = false := by decide +kernel
  replace o14 : CallOK Tryz.prog 82 [mA 2 2 m4] [] (.val (.bool (sameF 2 2 2 2 m4 (mturn 2 2 m4)))) [] [] := o14
  replace o15 : CallOK Tryz.prog 82 [mA 0 3 []] [] (.val (.bool (sameF 0 3 3 0 [] (mturn 0 3 [])))) [] [] := o15
  rw [e1] at o14
  rw [e2] at o15
  have q1 : (!(tM 2 2 m4).toList == (ByteArray.mk #[91, 49, 32, 50, 93, 32, 91, 51, 32, 52, 93]).toList) = false := by decide +kernel
  have q2 : (!(tM 2 2 (mturn 2 2 m4)).toList == (ByteArray.mk #[91, 49, 32, 51, 93, 32, 91, 50, 32, 52, 93]).toList) = false := by decide +kernel
  have q3 : (!(tM 2 2 (mmul 2 2 2 m4 m4)).toList == (ByteArray.mk #[91, 55, 32, 49, 48, 93, 32, 91, 49, 53, 32, 50, 50, 93]).toList) = false := by decide +kernel
  have q4 : (!(tV (mapply 2 2 m4 (ofInts [1, -1]))).toList == (ByteArray.mk #[91, 45, 49, 32, 45, 49, 93]).toList) = false := by decide +kernel
  have q5 : (!decide (mform 2 2 m4 (ofInts [1, 0]) (ofInts [0, 1]) = ((2 : Int) : Rat))) = false := by decide +kernel
  have q6 : ((tM 2 1 (mpart 2 m4 [1, 0] [1])).toList == (ByteArray.mk #[91, 52, 93, 32, 91, 50, 93]).toList) = true := by decide +kernel
  have q7 : decide (List.foldl (· + ·) 0 m4 = ((10 : Int) : Rat)) = true := by decide +kernel
  refine callV (Z := [22, 39, 46, 48, 97, 115, 116]) tabOK mixedOK Tryz.func13 rfl (by kernel_rfl) rfl rfl (by kernel_rfl) rfl ?_
  intro W0 w0 ρ0 hE
  conv => whnf
  (repeat ((first | refine step_w1 rfl rfl ?_ | refine step_w2 rfl rfl ?_ | refine step_i (by kernel_rfl) ?_ | refine g_c (by assumption) ?_ | refine g_o (op_pickT rfl (ev_ok rfl) (ev_ok rfl)) ?_ | refine g_o (op_pickF rfl (ev_ok rfl) (ev_ok rfl)) ?_ | rw [beq_self_eq_true] | rw [bne_self_eq_false] | refine ⟨_, op_eqAgg tabOK goodOK rfl (ev_ok rfl) (ev_ok rfl) rfl rfl rfl rfl (q_same _ _) q_guard, ?_⟩ | refine ⟨_, op_neAgg tabOK goodOK rfl (ev_ok rfl) (ev_ok rfl) rfl rfl rfl rfl (q_same _ _) q_guard, ?_⟩ | rw [q1] | rw [q2] | rw [q3] | rw [q4] | rw [q5] | rw [q6] | rw [q7]); conv => whnf)); (first | exact Recast.refl _ | exact Frz.recast (Recast.refl _) rfl | (refine Frz.one rfl rfl ?_; skip) | (refine Frz.tup ?_; skip))
end Go.Proofs.YtkpfineikahgfaaGreatDoor

namespace Go.Proofs.YtkpfineikahgfaaGreatDoor
open Go.Sx
set_option linter.unusedSimpArgs false
set_option linter.unusedVariables false
set_option maxRecDepth 100000
set_option maxHeartbeats 8000000

end Go.Proofs.YtkpfineikahgfaaGreatDoor

namespace Go.Proofs.YtkpfineikahgfaaGreatDoor
open Go.Sx
set_option linter.unusedSimpArgs false
set_option linter.unusedVariables false
set_option maxRecDepth 100000
set_option maxHeartbeats 8000000

end Go.Proofs.YtkpfineikahgfaaGreatDoor

namespace Go.Proofs.YtkpfineikahgfaaGreatDoor
open Go.Sx
set_option linter.unusedSimpArgs false
set_option linter.unusedVariables false
set_option maxRecDepth 100000
set_option maxHeartbeats 8000000

end Go.Proofs.YtkpfineikahgfaaGreatDoor

namespace Go.Proofs.YtkpfineikahgfaaGreatDoor
open Go.Sx
set_option linter.unusedSimpArgs false
set_option linter.unusedVariables false
set_option maxRecDepth 100000
set_option maxHeartbeats 8000000

end Go.Proofs.YtkpfineikahgfaaGreatDoor

namespace Go.Proofs.YtkpfineikahgfaaGreatDoor
open Go.Sx
set_option linter.unusedSimpArgs false
set_option linter.unusedVariables false
set_option maxRecDepth 100000
set_option maxHeartbeats 40000000

theorem q_eq {a b : Rat} (h : a = b) : eqTy tab good 10 38 (fracCells a) (fracCells b) = some true := by rw [q_same, decide_eq_true h]
abbrev mblk (r c : Nat) (a : List Rat) : Blk := ⟨27, true, .one (mC r c a)⟩
end Go.Proofs.YtkpfineikahgfaaGreatDoor

namespace Go.Sx
set_option linter.unusedSimpArgs false
set_option linter.unusedVariables false
section
variable {P : Program} {o : Oper} {ft : List (Nat × SV)} {fk : List (Nat × Blk)}
/-- make([]F, n), never written again. -/
theorem op_makeF {t e : TypeId} {x y : Operand} {ti te : TI} {kl kc : IntKind} {n : Nat} (ho : o.op = .makeSlice t x y) (hx : EvOK ft x (.val (.int kl n))) (hy : EvOK ft y (.val (.int kc n)))
    (ht : TOK P t ti) (hk : ti.kind = .slc e) (he : TOK P e te) (hz : te.zero = [.frac 0]) (hs : te.size = 5) (hb : (te.bytes : Int) * n ≤ 281474976710656 ∧ (n : Int) ≤ 9223372036854775807) :
    OpOK P o ft fk (fvec (List.replicate n 0)) [] [] :=
  ok_value fun ρ a w hp => by
    have e1 := of_has_val (hx ρ a hp.hft)
    have e2 := of_has_val (hy ρ a hp.hft)
    have hu := ht.kind; rw [hk] at hu
    obtain ⟨i, z, i1, i2, i3, i4, i5, i6, i7, _⟩ := he.info
    have hrun := run_make (P := P) (w := w) t e i z hu i1 i4 kl kc n n (Int.natCast_nonneg _) (Int.le_refl _) (by rw [i3]; exact hb.1) hb.2
    have hzc : z.cells.toList = fracCells 0 := by rw [i5, hz]; rfl
    have hcells : madeCells z.cells (n * i.size) = ((List.replicate n (fracCells 0)).flatten).toArray := by
      have := madeCells_flat z.cells te.size i7 n
      rw [i2]
      apply Array.ext'
      rw [this, hzc]
    have hz2 : HasZ ρ (List.replicate n (SV.frac 0)) (List.replicate n (fracCells 0)) := by
      clear hrun hcells hb hx hy e1 e2
      induction n with
      | zero => simp [HasZ]
      | succ n ih => simp only [List.replicate_succ, HasZ]; exact ⟨_, _, rfl, rfl, ih⟩
    have hkl : keylessL (List.replicate n (SV.frac 0)) = true := by
      rw [← List.map_replicate (f := SV.frac)]
      exact keylessL_map (fun _ => rfl) _
    obtain ⟨ρ', hpost⟩ := vec_new (w := w) (e := e) (s := 5) (n := n) hp.imm hz2 hkl (fun x hx => by rw [(List.mem_replicate.1 hx).2]; rfl) (by simp)
    refine ⟨_, _, ρ', ?_, by rw [fvec, mvec, List.map_replicate]; exact hpost⟩
    simp only [execOp, ho, e1, e2, Sem.run_bind, hrun, Result.andThen_ok, Sem.run_pure, hcells, Int.toNat_natCast]
end
end Go.Sx
namespace Go.Proofs.YtkpfineikahgfaaGreatDoor
open Go.Sx
set_option linter.unusedSimpArgs false
set_option linter.unusedVariables false
set_option maxRecDepth 100000
set_option maxHeartbeats 8000000

end Go.Proofs.YtkpfineikahgfaaGreatDoor

namespace Go.Proofs.YtkpfineikahgfaaGreatDoor
open Go.Sx
set_option linter.unusedSimpArgs false
set_option linter.unusedVariables false
set_option maxRecDepth 100000
set_option maxHeartbeats 8000000

end Go.Proofs.YtkpfineikahgfaaGreatDoor

namespace Go.Sx
set_option linter.unusedSimpArgs false
set_option linter.unusedVariables false
theorem SWx_addKey {E : Env} (k : Nat) {blk : Blk} {c : Code} {K : Post'} {fr : List (Nat × SV)} {hp : List (Nat × Blk)} (hk : find hp k = none) (he : blk.data.empty) (hs : SWx E c K fr ((k, blk) :: hp)) : SWx E c K fr hp :=
  ⟨fun a w hR => hs.run a w (addKey_RR hk he hR)⟩
end Go.Sx
namespace Go.Proofs.YtkpfineikahgfaaGreatDoor
open Go.Sx
set_option linter.unusedSimpArgs false
set_option linter.unusedVariables false
set_option maxRecDepth 100000
set_option maxHeartbeats 40000000

abbrev zL (n : Nat) : List Rat := List.replicate n 0
theorem zL_len (n : Nat) : (zL n).length = n := List.length_replicate ..
end Go.Proofs.YtkpfineikahgfaaGreatDoor

namespace Go.Proofs.YtkpfineikahgfaaGreatDoor
open Go.Sx
set_option linter.unusedSimpArgs false
set_option linter.unusedVariables false
set_option maxRecDepth 100000
set_option maxHeartbeats 40000000

section
variable {R C : Nat} (hA : OKM R C (zL (R * C)))
include hA
end
end Go.Proofs.YtkpfineikahgfaaGreatDoor

namespace Go.Sx
set_option linter.unusedSimpArgs false
set_option linter.unusedVariables false
theorem op_eqNilNil {P : Program} {o : Oper} {ft : List (Nat × SV)} {fk : List (Nat × Blk)} {t t2 : TypeId} {x y : Operand} {p r : Array TypeId} {v : Bool} (ho : o.op = .binOp .eql t x y t2) (hx : EvOK ft x (.val .nilFunc)) (hy : EvOK ft y (.val .nilFunc)) (hu : P.underlying t = some (.func p r v)) : OpOK P o ft fk (.val (.bool true)) [] [] :=
  ok_pure fun ρ ac w hp => by
    have e1 := of_has_val (hx ρ ac hp.hft)
    have e2 := of_has_val (hy ρ ac hp.hft)
    have hq : ∀ d, (Op.equalIn (d + 1) t .nilFunc .nilFunc).run P w = .ok true w := fun d => by simp [Op.equalIn, run_underlying hu]
    have hq' : (Op.equal t .nilFunc .nilFunc).run P w = .ok true w := hq 9999
    refine ⟨_, ?_, has_val rfl⟩
    simp [execOp, ho, e1, e2, eqGuard, binOp, hq']
theorem NamesOK.three {q r m : Nat} {a b c : Blk} {σ : Nat → Nat} (h : σ q ≠ σ r) (h1 : σ m ≠ σ q) (h2 : σ m ≠ σ r) : NamesOK [(q, a), (r, b)] [(m, c)] σ where
  inj x y u v hx hy hn _ := by
    simp only [List.mem_cons, List.not_mem_nil, or_false, Prod.mk.injEq] at hx hy
    rcases hx with ⟨rfl, _⟩ | ⟨rfl, _⟩ <;> rcases hy with ⟨rfl, _⟩ | ⟨rfl, _⟩
    · exact absurd rfl hn
    · exact h
    · exact fun e => h e.symm
    · exact absurd rfl hn
  newInj x y hx hy hn := by
    simp only [keysOf, List.mem_cons, List.not_mem_nil, or_false] at hx hy
    exact absurd (hx.trans hy.symm) hn
  newOld x y hx hy := by
    simp only [keysOf, List.mem_cons, List.not_mem_nil, or_false] at hx hy
    subst hx
    rcases hy with rfl | rfl
    · exact h1
    · exact h2
end Go.Sx
namespace Go.Proofs.YtkpfineikahgfaaGreatDoor
open Go.Sx
set_option linter.unusedSimpArgs false
set_option linter.unusedVariables false
set_option maxRecDepth 100000
set_option maxHeartbeats 40000000

abbrev bblk (b : Bool) : Blk := ⟨4, true, .one [.val (.bool b)]⟩
abbrev nblk (n : Nat) : Blk := ⟨3, true, .one [iv n]⟩
abbrev capM (KA KB : Nat) (p : Pred) : List SV := [.ptr KA 0 0 0, .atom p, .ptr KB 0 0 0]
theorem m_MakeM {r c : Nat} (hr : r ≤ 2048) (hc : c ≤ 2048) (F : Nat → Nat → Rat) (g : FuncId) (p : Pred) (KA KB KN : Nat) (hd : KA ≠ KB ∧ KN ≠ KA ∧ KN ≠ KB)
    (hf : ∀ i k, i < r → k < c → CallOK Tryz.prog g ([] ++ ([iv (i : Nat), iv (k : Nat)] ++ capM 1001 1002 p)) [(1001, bblk true), (1002, nblk (i * c + k))] (.frac (F i k)) [] [(1001, bblk true), (1002, nblk (i * c + k + 1))]) :
    CallOK Tryz.prog 14 [iv r, iv c, .clo g [] (capM KA KB p)] [(KA, bblk true), (KB, nblk 0)] (.tup [.agg [iv r, iv c, .slc KN 5 0 (r * c)], iv 0]) [(KN, fblk (mk r c F))] [(KA, bblk true), (KB, nblk (r * c))] := by
  have k1 := m_sides r c
  rw [sides_of (by omega)] at k1
  have hz : (mk r c F).length = r * c := mk_len ..
  have hrc : r * c ≤ 2048 * 2048 := Nat.mul_le_mul hr hc
  have t1 : IntKind.i64.wrap ((r : Int) * (c : Int)) = ((r * c : Nat) : Int) := by rw [← Int.natCast_mul, wrap_i64 (by omega) (by omega)]
  refine callK (Z := []) tabOK mixedOK Tryz.func14 rfl (by kernel_rfl) (args := [iv r, iv c, .clo g [] (capM 1001 1002 p)]) (fk := [(1001, bblk true), (1002, nblk 0)]) (c := .tup [.agg [iv r, iv c, .slc 25 5 0 (r * c)], iv 0]) (new := [(25, fblk (mk r c F))]) (upd := [(1001, bblk true), (1002, nblk (r * c))]) (ShapeOK.of rfl rfl rfl rfl rfl rfl rfl rfl rfl rfl rfl) rfl (renBy [(1001, KA), (1002, KB), (25, KN)]) (NamesOK.three hd.1 hd.2.1 hd.2.2) ?_
  intro W0 w0 ρ0 hE
  conv => whnf
  (repeat ((first | refine step_w2 rfl rfl ?_ | refine step_oA (by first | omega | decide | (simp only [tiB5, tiB95, tiB3, tiB2, tiB9, tiB38, tiB74, tiB25, tiB41, tiB36, tiB30, tiB4, tiB70, tiB72, tiB164, tiB27, tiB62, tiB32, dlen, List.length_replicate, List.length_set, List.length_map, List.length_zipWith, List.length_take, List.length_append, List.length_cons, List.length_nil]; omega)) ?_ | refine g_c (by assumption) ?_ | rw [bne_self_eq_false] | refine ⟨_, op_eqNilF rfl (ev_ok rfl) (ev_ok rfl) Tryz.underlying40, ?_⟩ | rw [t1] | rw [Int.toNat_natCast]); conv => whnf))
  refine SW_loopN hE (fun k => k) [0, 1, 2, 6, 9, 30, 31] [6, 9, 25, 1001, 1002] (fun m fr hp => ∃ i : Nat, m = r - i ∧ i ≤ r ∧ fr = [(0, iv r), (1, iv c), (2, .clo g [] (capM 1001 1002 p)), (6, .ptr 6 0 0 0), (9, .ptr 9 0 0 0), (30, iv r), (31, iv (i : Nat))] ∧
    hp = [(6, zM), (9, bM r c 25), (25, fblk ((mk r c F).take (i * c) ++ List.replicate (r * c - i * c) 0)), (1001, bblk true), (1002, nblk (i * c))]) r ?_ ?_ ?_
  · kernel_rfl
  · exact ⟨0, rfl, Nat.zero_le _, rfl, by rw [Nat.zero_mul, List.take_zero]; rfl⟩
  rintro m _ _ ⟨i, rfl, hi, rfl, rfl⟩
  conv => whnf
  by_cases hlt : i < r
  · have t2 := dlt hlt
    have t3 := winc (i := i) (by omega)
    have hic : (i + 1) * c ≤ r * c := Nat.mul_le_mul_right c hlt
    rw [Nat.succ_mul] at hic
    have hlen := fill_len (d := (0 : Rat)) (show i * c ≤ r * c by omega) hz
    have o1 := m_rowM (a := (mk r c F).take (i * c) ++ List.replicate (r * c - i * c) 0) ⟨hr, hc, hlen⟩ hlt 25
    (repeat (first | (refine g_c1 (by assumption) rfl ?_; conv => whnf) | (refine tst_tt t2 ?_; conv => whnf) | (rw [t2]; conv => whnf)))
    refine SW_loopN hE (fun k => k) [0, 1, 2, 6, 9, 10, 11, 30, 31, 37, 38] [6, 9, 25, 1001, 1002] (fun m fr hp => ∃ k : Nat, m = c - k ∧ k ≤ c ∧ fr = [(0, iv r), (1, iv c), (2, .clo g [] (capM 1001 1002 p)), (6, .ptr 6 0 0 0), (9, .ptr 9 0 0 0), (10, iv (i : Nat)), (11, .slc 25 5 (i * c) c), (30, iv r), (31, iv (i : Nat)), (37, iv c), (38, iv (k : Nat))] ∧
      hp = [(6, zM), (9, bM r c 25), (25, fblk ((mk r c F).take (i * c + k) ++ List.replicate (r * c - (i * c + k)) 0)), (1001, bblk true), (1002, nblk (i * c + k))]) c ?_ ?_ ?_
    · kernel_rfl
    · exact ⟨0, rfl, Nat.zero_le _, rfl, rfl⟩
    rintro m _ _ ⟨k, rfl, hk, rfl, rfl⟩
    conv => whnf
    by_cases hlk : k < c
    · have t4 := dlt hlk
      have t5 := winc (i := k) (by omega)
      have hlen := fill_len (d := (0 : Rat)) (show i * c + k ≤ r * c by omega) hz
      have o2 := hf i k hlt hlk
      rw [← mk_el (f := F) hlt hlk] at o2
      (repeat ((first | refine step_oL (by first | omega | decide | (simp only [tiB5, tiB95, tiB3, tiB2, tiB9, tiB38, tiB74, tiB25, tiB41, tiB36, tiB30, tiB4, tiB70, tiB72, tiB164, tiB27, tiB62, tiB32, dlen, List.length_replicate, List.length_set, List.length_map, List.length_zipWith, List.length_take, List.length_append, List.length_cons, List.length_nil]; omega)) ?_ | refine step_oA (by first | omega | decide | (simp only [tiB5, tiB95, tiB3, tiB2, tiB9, tiB38, tiB74, tiB25, tiB41, tiB36, tiB30, tiB4, tiB70, tiB72, tiB164, tiB27, tiB62, tiB32, dlen, List.length_replicate, List.length_set, List.length_map, List.length_zipWith, List.length_take, List.length_append, List.length_cons, List.length_nil]; omega)) ?_ | refine ⟨[_, _], _, [], [_, _], (by assumption), two_fk rfl rfl, nil_new, two_upd (List.mem_cons_self ..) rfl rfl rfl (List.mem_cons_of_mem _ (List.mem_cons_self ..)) rfl rfl rfl, ?_⟩ | refine tst_tt t4 ?_ | rw [t4] | rw [t5] | rw [Int.toNat_natCast]); conv => whnf))
      refine ⟨c - (k + 1), fun k => k, [0, 1, 2, 6, 9, 10, 11, 30, 31, 37, 38], [6, 9, 25, 1001, 1002], by omega, by kernel_rfl, k + 1, rfl, hlk, rfl, ?_⟩
      rw [show i * c + (k + 1) = i * c + k + 1 from rfl, fblk, ← fill_set (e := 0) (show i * c + k < r * c by omega) hz]
      rfl
    · have t4 := dge hlk
      obtain rfl : k = c := by omega
      (repeat (first | (refine tst_ff t4 ?_; conv => whnf) | (rw [t4]; conv => whnf) | (rw [t3]; conv => whnf)))
      refine ⟨r - (i + 1), fun k => k, [0, 1, 2, 6, 9, 30, 31], [6, 9, 25, 1001, 1002], by omega, by kernel_rfl, i + 1, rfl, hlt, rfl, ?_⟩
      rw [Nat.succ_mul]
      rfl
  · have t2 := dge hlt
    obtain rfl : i = r := by omega
    rw [fill_all hz]
    (repeat (first | (refine tst_ff t2 ?_; conv => whnf)))
    exact ⟨Recast.refl _, (fun k b hm => by simp only [List.mem_singleton, Prod.mk.injEq] at hm; obtain ⟨rfl, rfl⟩ := hm; rfl), (fun k b hm => by
      simp only [List.mem_cons, List.not_mem_nil, or_false, Prod.mk.injEq] at hm
      rcases hm with ⟨rfl, rfl⟩ | ⟨rfl, rfl⟩ <;> rfl)⟩
theorem m_MakeE0 {r c : Int} (g : FuncId)  (h : sidesF r c ≠ 0) : CallOK Tryz.prog 14 [iv r, iv c, .clo g [] []] [] (.tup [mA 0 0 [], iv (sidesF r c)]) [] [] := by
  have k1 := m_sides r c
  have t1 : (sidesF r c != 0) = true := bne_iff_ne.2 h
  refine callF (Z := []) tabOK mixedOK Tryz.func14 rfl (by kernel_rfl) (by first | rfl | (simp [keylessL, keyless, keylessL_map, *]; done)) (by first | rfl | (simp [keylessL, keyless, keylessL_map, *]; done)) (by kernel_rfl) rfl ?_
  intro w0 ρ0 hE
  conv => whnf
  (repeat (first | (refine g_c (by assumption) ?_; conv => whnf) | (refine tst_tt t1 ?_; conv => whnf))); (first | exact Recast.refl _ | exact Frz.recast (Recast.refl _) rfl | (refine Frz.one rfl rfl ?_; skip) | (refine Frz.tup ?_; (repeat (first | exact FrzC.keyless rfl | exact FrzL.nil | refine FrzL.cons ?_ ?_ | exact FrzC.nilS | refine FrzC.agg ?_))))
theorem m_MakeE1 {r c : Int} (g : FuncId) (p : Pred) (h : sidesF r c ≠ 0) : CallOK Tryz.prog 14 [iv r, iv c, .clo g [] [.atom p]] [] (.tup [mA 0 0 [], iv (sidesF r c)]) [] [] := by
  have k1 := m_sides r c
  have t1 : (sidesF r c != 0) = true := bne_iff_ne.2 h
  refine callF (Z := []) tabOK mixedOK Tryz.func14 rfl (by kernel_rfl) (by first | rfl | (simp [keylessL, keyless, keylessL_map, *]; done)) (by first | rfl | (simp [keylessL, keyless, keylessL_map, *]; done)) (by kernel_rfl) rfl ?_
  intro w0 ρ0 hE
  conv => whnf
  (repeat (first | (refine g_c (by assumption) ?_; conv => whnf) | (refine tst_tt t1 ?_; conv => whnf))); (first | exact Recast.refl _ | exact Frz.recast (Recast.refl _) rfl | (refine Frz.one rfl rfl ?_; skip) | (refine Frz.tup ?_; (repeat (first | exact FrzC.keyless rfl | exact FrzL.nil | refine FrzL.cons ?_ ?_ | exact FrzC.nilS | refine FrzC.agg ?_))))
theorem m_MakeEM {r c : Int} (g : FuncId) (p : Pred) (KA KB : Nat) (a b : Blk) (ha : a = bblk true) (hb : b = nblk 0) (hd : KA ≠ KB) (h : sidesF r c ≠ 0) :
    CallOK Tryz.prog 14 [iv r, iv c, .clo g [] (capM KA KB p)] [(KA, a), (KB, b)] (.tup [.agg [iv 0, iv 0, .val (.slice none 0 0)], iv (sidesF r c)]) [] [(KA, a), (KB, b)] := by
  subst ha hb
  have k1 := m_sides r c
  have t1 : (sidesF r c != 0) = true := bne_iff_ne.2 h
  refine callK (Z := []) tabOK mixedOK Tryz.func14 rfl (by kernel_rfl) (args := [iv r, iv c, .clo g [] (capM 1001 1002 p)]) (fk := [(1001, bblk true), (1002, nblk 0)]) (c := .tup [.agg [iv 0, iv 0, .val (.slice none 0 0)], iv (sidesF r c)]) (new := []) (upd := [(1001, bblk true), (1002, nblk 0)]) (ShapeOK.of rfl rfl rfl rfl rfl rfl rfl rfl rfl rfl rfl) rfl (renBy [(1001, KA), (1002, KB)]) (NamesOK.two hd) ?_
  intro W0 w0 ρ0 hE
  conv => whnf
  (repeat (first | (refine g_c (by assumption) ?_; conv => whnf) | (refine tst_tt t1 ?_; conv => whnf)))
  exact ⟨Recast.refl _, (fun _ _ h => by cases h), (fun k b hm => by
    simp only [List.mem_cons, List.not_mem_nil, or_false, Prod.mk.injEq] at hm
    rcases hm with ⟨rfl, rfl⟩ | ⟨rfl, rfl⟩ <;> rfl)⟩
/-- Make without a function. -/
theorem m_MakeN {r c : Nat} (hr : r ≤ 2048) (hc : c ≤ 2048) : CallOK Tryz.prog 14 [iv r, iv c, .val .nilFunc] [] (.tup [mA r c (zL (r * c)), iv 0]) [] [] := by
  have k1 := m_sides r c
  rw [sides_of (by omega)] at k1
  have hrc : r * c ≤ 2048 * 2048 := Nat.mul_le_mul hr hc
  have t1 : IntKind.i64.wrap ((r : Int) * (c : Int)) = ((r * c : Nat) : Int) := by rw [← Int.natCast_mul, wrap_i64 (by omega) (by omega)]
  have hz := zL_len (r * c)
  refine callF (Z := []) tabOK mixedOK Tryz.func14 rfl (by kernel_rfl) (by first | rfl | (simp [keylessL, keyless, keylessL_map, *]; done)) (by first | rfl | (simp [keylessL, keyless, keylessL_map, *]; done)) (by kernel_rfl) rfl ?_
  intro w0 ρ0 hE
  conv => whnf
  (repeat ((first | refine step_w1 rfl rfl ?_ | refine step_w2 rfl rfl ?_ | refine step_oA (by first | omega | decide | (simp only [tiB5, tiB95, tiB3, tiB2, tiB9, tiB38, tiB74, tiB25, tiB41, tiB36, tiB30, tiB4, tiB70, tiB72, tiB164, tiB27, tiB62, tiB32, dlen, List.length_replicate, List.length_set, List.length_map, List.length_zipWith, List.length_take, List.length_append, List.length_cons, List.length_nil]; omega)) ?_ | refine g_c (by assumption) ?_ | rw [bne_self_eq_false] | refine ⟨_, op_eqNilNil rfl (ev_ok rfl) (ev_ok rfl) Tryz.underlying40, ?_⟩ | rw [t1] | rw [Int.toNat_natCast]); conv => whnf))
  (first | exact Recast.refl _ | exact Frz.recast (Recast.refl _) rfl | (refine Frz.one rfl rfl ?_; skip) | (refine Frz.tup ?_; (repeat (first | exact FrzC.keyless rfl | exact FrzL.nil | refine FrzL.cons ?_ ?_ | (refine FrzC.fracs rfl ?_; (first | rfl | omega | (simp <;> fail) | (simp <;> omega))) | refine FrzC.agg ?_))))
theorem m_MakeNE {r c : Int} (h : sidesF r c ≠ 0) : CallOK Tryz.prog 14 [iv r, iv c, .val .nilFunc] [] (.tup [mA 0 0 [], iv (sidesF r c)]) [] [] := by
  have k1 := m_sides r c
  have t1 : (sidesF r c != 0) = true := bne_iff_ne.2 h
  refine callF (Z := []) tabOK mixedOK Tryz.func14 rfl (by kernel_rfl) (by first | rfl | (simp [keylessL, keyless, keylessL_map, *]; done)) (by first | rfl | (simp [keylessL, keyless, keylessL_map, *]; done)) (by kernel_rfl) rfl ?_
  intro w0 ρ0 hE
  conv => whnf
  (repeat (first | (refine g_c (by assumption) ?_; conv => whnf) | (refine tst_tt t1 ?_; conv => whnf))); (first | exact Recast.refl _ | exact Frz.recast (Recast.refl _) rfl | (refine Frz.one rfl rfl ?_; skip) | (refine Frz.tup ?_; (repeat (first | exact FrzC.keyless rfl | exact FrzL.nil | refine FrzL.cons ?_ ?_ | exact FrzC.nilS | refine FrzC.agg ?_))))
theorem m_OneE {n : Int} (h : sidesF n n ≠ 0) : CallOK Tryz.prog 19 [iv n] [] (.tup [mA 0 0 [], iv (sidesF n n)]) [] [] := by
  have k1 := m_MakeE0 88 h
  refine callV (Z := []) tabOK mixedOK Tryz.func19 rfl (by kernel_rfl) rfl rfl (by kernel_rfl) rfl ?_
  intro W0 w0 ρ0 hE
  conv => whnf
  (repeat (first | (refine g_c (by assumption) ?_; conv => whnf))); (first | exact Recast.refl _ | exact Frz.recast (Recast.refl _) rfl | (refine Frz.one rfl rfl ?_; skip) | (refine Frz.tup ?_; skip))
/-- A diagonal matrix. -/
abbrev mdiag (v : List Rat) : List Rat := mk v.length v.length fun i k => if i = k then v.getD i 0 else 0
theorem m_Diag {v : List Rat} (hv : v.length ≤ 2048) : CallOK Tryz.prog 18 [fvec v] [] (.tup [mA v.length v.length (mdiag v), iv 0]) [] [] := by
  have k1 := m_Make1 hv hv (fun i k => if i = k then v.getD i 0 else 0) 87 (ptrP [fvec v]) (fun i k hi hk => by
    refine callV (Z := []) tabOK mixedOK Tryz.func87 rfl (by kernel_rfl) rfl rfl (by kernel_rfl) rfl ?_
    intro W0 w0 ρ0 hE
    conv => whnf
    by_cases h : i = k
    · have t1 : ((i : Int) != (k : Int)) = false := by rw [h]; exact bne_self_eq_false _
      rw [if_pos h]
      (repeat (first | (refine tst_ff t1 ?_; conv => whnf) | (refine g_o (op_indexN (α := Rat) (d := 0) rfl (ev_ok rfl) (ev_ok rfl) (tgt rfl) rfl (tgt rfl) rfl (by omega)) ?_; conv => whnf) | (refine g_o (op_loadA rfl (ev_ok rfl) (tgt rfl) rfl (Nat.succ_ne_zero _) rfl) ?_; conv => whnf))); (first | exact Recast.refl _ | exact Frz.recast (Recast.refl _) rfl | (refine Frz.one rfl rfl ?_; skip) | (refine Frz.tup ?_; skip))
    · have t1 : ((i : Int) != (k : Int)) = true := bne_iff_ne.2 (by omega)
      rw [if_neg h]
      (repeat (first | (refine tst_tt t1 ?_; conv => whnf))); (first | exact Recast.refl _ | exact Frz.recast (Recast.refl _) rfl | (refine Frz.one rfl rfl ?_; skip) | (refine Frz.tup ?_; skip)))
  refine callV (Z := [1]) tabOK mixedOK Tryz.func18 rfl (by kernel_rfl) rfl rfl (by kernel_rfl) rfl ?_
  intro W0 w0 ρ0 hE
  conv => whnf
  (repeat ((first | refine g_c (by assumption) ?_ | refine g_o (op_lenM rfl rfl rfl (ev_ok rfl) (tgt rfl) rfl) ?_ | refine g_o (op_loadA rfl (ev_ok rfl) (tgt rfl) rfl (Nat.succ_ne_zero _) rfl) ?_ | refine g_o (op_makeFunc rfl rfl rfl) ?_); conv => whnf)); (first | exact Recast.refl _ | exact Frz.recast (Recast.refl _) rfl | (refine Frz.one rfl rfl ?_; skip) | (refine Frz.tup ?_; skip))
theorem m_DiagE {v : List Rat} (hv : v.length = 2049) : CallOK Tryz.prog 18 [fvec v] [] (.tup [mA 0 0 [], iv 3]) [] [] := by
  have e : sidesF (v.length : Int) (v.length : Int) = 3 := by rw [hv]; rfl
  have k1 := m_MakeE1 (r := (v.length : Int)) (c := (v.length : Int)) 87 (ptrP [fvec v]) (by rw [e]; decide)
  rw [e] at k1
  refine callV (Z := [1]) tabOK mixedOK Tryz.func18 rfl (by kernel_rfl) rfl rfl (by kernel_rfl) rfl ?_
  intro W0 w0 ρ0 hE
  conv => whnf
  (repeat ((first | refine g_c (by assumption) ?_ | refine g_o (op_lenM rfl rfl rfl (ev_ok rfl) (tgt rfl) rfl) ?_ | refine g_o (op_loadA rfl (ev_ok rfl) (tgt rfl) rfl (Nat.succ_ne_zero _) rfl) ?_ | refine g_o (op_makeFunc rfl rfl rfl) ?_); conv => whnf)); (first | exact Recast.refl _ | exact Frz.recast (Recast.refl _) rfl | (refine Frz.one rfl rfl ?_; skip) | (refine Frz.tup ?_; skip))
end Go.Proofs.YtkpfineikahgfaaGreatDoor
