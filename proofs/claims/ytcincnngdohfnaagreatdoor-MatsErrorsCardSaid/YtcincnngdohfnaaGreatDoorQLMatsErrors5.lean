/- MatsErrors returns true for every input and leaves its arguments as they were: the row, and the card that ties its tables to the program's text. -/
import Derived.Test.YtcincnngdohfnaaGreatDoorCards
import Derived.Test.YtcincnngdohfnaaGreatDoorTie
import Derived.WalkKit
import Derived.ProofKit
import Derived.OpenShut
import Derived.Deep.DeepHandedRow
import Derived.Lib.LaidTab
import Derived.Test.YtcincnngdohfnaaGreatDoorQLMatsErrors4
namespace Go.Proofs.YtcincnngdohfnaaGreatDoor
open Go.Sx
set_option linter.unusedSimpArgs false
set_option linter.unusedVariables false
set_option maxRecDepth 100000
set_option maxHeartbeats 8000000

end Go.Proofs.YtcincnngdohfnaaGreatDoor

namespace Go.Proofs.YtcincnngdohfnaaGreatDoor
open Go.Sx
set_option linter.unusedSimpArgs false
set_option linter.unusedVariables false
set_option maxRecDepth 100000
set_option maxHeartbeats 8000000

end Go.Proofs.YtcincnngdohfnaaGreatDoor

namespace Go.Proofs.YtcincnngdohfnaaGreatDoor
open Go.Sx
set_option linter.unusedSimpArgs false
set_option linter.unusedVariables false
set_option maxRecDepth 100000
set_option maxHeartbeats 40000000

theorem q_eq {a b : Rat} (h : a = b) : eqTy tab good 10 43 (fracCells a) (fracCells b) = some true := by rw [q_same, decide_eq_true h]
abbrev mblk (r c : Nat) (a : List Rat) : Blk := ⟨31, true, .one (mC r c a)⟩
end Go.Proofs.YtcincnngdohfnaaGreatDoor

namespace Go.Sx
set_option linter.unusedSimpArgs false
set_option linter.unusedVariables false
section
variable {P : Program} {o : Oper} {ft : List (Nat × SV)} {fk : List (Nat × Blk)}
/-- make([]F, n), never written again. -/
theorem op_makeF {t e : TypeId} {x y : Operand} {ti te : TI} {kl kc : IntKind} {n : Nat} (ho : o.op = .makeSlice t x y) (hx : EvOK ft x (.val (.int kl n))) (hy : EvOK ft y (.val (.int kc n)))
    (ht : TOK P t ti) (hk : ti.kind = .slc e) (he : TOK P e te) (hz : te.zero = [.frac 0]) (hs : te.size = 5) (hb : (te.bytes : Int) * n ≤ 281474976710656 ∧ (n : Int) ≤ 9223372036854775807) :
    OpOK P o ft fk (fvec (List.replicate n 0)) [] [] :=
  ok_value fun ρ a w hp => by
    have e1 := of_has_val (hx ρ a hp.hft)
    have e2 := of_has_val (hy ρ a hp.hft)
    have hu := ht.kind; rw [hk] at hu
    obtain ⟨i, z, i1, i2, i3, i4, i5, i6, i7, _⟩ := he.info
    have hrun := run_make (P := P) (w := w) t e i z hu i1 i4 kl kc n n (Int.natCast_nonneg _) (Int.le_refl _) (by rw [i3]; exact hb.1) hb.2
    have hzc : z.cells.toList = fracCells 0 := by rw [i5, hz]; rfl
    have hcells : madeCells z.cells (n * i.size) = ((List.replicate n (fracCells 0)).flatten).toArray := by
      have := madeCells_flat z.cells te.size i7 n
      rw [i2]
      apply Array.ext'
      rw [this, hzc]
    have hz2 : HasZ ρ (List.replicate n (SV.frac 0)) (List.replicate n (fracCells 0)) := by
      clear hrun hcells hb hx hy e1 e2
      induction n with
      | zero => simp [HasZ]
      | succ n ih => simp only [List.replicate_succ, HasZ]; exact ⟨_, _, rfl, rfl, ih⟩
    have hkl : keylessL (List.replicate n (SV.frac 0)) = true := by
      rw [← List.map_replicate (f := SV.frac)]
      exact keylessL_map (fun _ => rfl) _
    obtain ⟨ρ', hpost⟩ := vec_new (w := w) (e := e) (s := 5) (n := n) hp.imm hz2 hkl (fun x hx => by rw [(List.mem_replicate.1 hx).2]; rfl) (by simp)
    refine ⟨_, _, ρ', ?_, by rw [fvec, mvec, List.map_replicate]; exact hpost⟩
    simp only [execOp, ho, e1, e2, Sem.run_bind, hrun, Result.andThen_ok, Sem.run_pure, hcells, Int.toNat_natCast]
end
end Go.Sx
namespace Go.Proofs.YtcincnngdohfnaaGreatDoor
open Go.Sx
set_option linter.unusedSimpArgs false
set_option linter.unusedVariables false
set_option maxRecDepth 100000
set_option maxHeartbeats 8000000

abbrev all2 (r c s t : Int) (a b : List Rat) : Int := allF [(r, c, a), (s, t, b)]
theorem m_eachE0 (g : FuncId)  (r c s t : Int) (a b : List Rat) (ha : a.length < 1099511627776) (hb : b.length < 1099511627776) (h : all2 r c s t a b ≠ 0) :
    CallOK Tryz.prog 77 [mA r c a, mA s t b, .clo g [] []] [] (.tup [mA 0 0 [], iv (all2 r c s t a b)]) [] [] := by
  have k0 := m_all [((r : Int), (c : Int), a), ((s : Int), (t : Int), b)] (by simp) (by
    intro m hm
    simp only [List.mem_cons, List.not_mem_nil, or_false] at hm
    rcases hm with rfl | rfl
    · exact ha
    · exact hb)
  have t1 : (all2 r c s t a b == 0) = false := beq_false_of_ne h
  have t2 : (all2 r c s t a b != 0) = true := bne_iff_ne.2 h
  refine callF (Z := [3, 4, 5, 11]) tabOK mixedOK Tryz.func77 rfl (by kernel_rfl) (by first | rfl | (simp [keylessL, keyless, keylessL_map, *]; done)) (by first | rfl | (simp [keylessL, keyless, keylessL_map, *]; done)) (by kernel_rfl) rfl ?_
  intro w0 ρ0 hE
  conv => whnf
  (repeat (first | (refine g_c (by assumption) ?_; conv => whnf) | (refine tst_tt t2 ?_; conv => whnf) | (refine g_o (op_loadA rfl (ev_ok rfl) (tgt rfl) rfl (Nat.succ_ne_zero _) rfl) ?_; conv => whnf))); (first | exact Recast.refl _ | exact Frz.recast (Recast.refl _) rfl | (refine Frz.one rfl rfl ?_; skip) | (refine Frz.tup ?_; (repeat (first | exact FrzC.keyless rfl | exact FrzL.nil | refine FrzL.cons ?_ ?_ | exact FrzC.nilS | refine FrzC.agg ?_))))
theorem m_eachE0S (g : FuncId)  {r c s t : Nat} {a b : List Rat} (ha : OKM r c a) (hb : OKM s t b) (h : r ≠ s ∨ c ≠ t) :
    CallOK Tryz.prog 77 [mA r c a, mA s t b, .clo g [] []] [] (.tup [mA 0 0 [], iv 1]) [] [] := by
  have k0 := m_all2 ha hb
  refine callF (Z := [3, 4, 5, 11]) tabOK mixedOK Tryz.func77 rfl (by kernel_rfl) (by first | rfl | (simp [keylessL, keyless, keylessL_map, *]; done)) (by first | rfl | (simp [keylessL, keyless, keylessL_map, *]; done)) (by kernel_rfl) rfl ?_
  intro w0 ρ0 hE
  conv => whnf
  by_cases h1 : r = s
  · have t1 : ((r : Int) != (s : Int)) = false := by rw [h1]; exact bne_self_eq_false _
    have t2 : ((c : Int) != (t : Int)) = true := bne_iff_ne.2 (by omega)
    (repeat ((first | refine step_w1 rfl rfl ?_ | refine step_w2 rfl rfl ?_ | refine g_c (by assumption) ?_ | refine g_o (op_pickF rfl (ev_ok rfl) (ev_ok rfl)) ?_ | rw [bne_self_eq_false] | refine tst_tt t2 ?_ | refine g_o (op_loadA rfl (ev_ok rfl) (tgt rfl) rfl (Nat.succ_ne_zero _) rfl) ?_ | refine g_o (op_fieldA rfl (ev_ok rfl) (tgt rfl) rfl rfl (Nat.succ_ne_zero _) rfl) ?_ | rw [t1]); conv => whnf)); (first | exact Recast.refl _ | exact Frz.recast (Recast.refl _) rfl | (refine Frz.one rfl rfl ?_; skip) | (refine Frz.tup ?_; (repeat (first | exact FrzC.keyless rfl | exact FrzL.nil | refine FrzL.cons ?_ ?_ | exact FrzC.nilS | refine FrzC.agg ?_))))
  · have t1 : ((r : Int) != (s : Int)) = true := bne_iff_ne.2 (by omega)
    (repeat ((first | refine step_w1 rfl rfl ?_ | refine step_w2 rfl rfl ?_ | refine g_c (by assumption) ?_ | refine g_o (op_pickT rfl (ev_ok rfl) (ev_ok rfl)) ?_ | rw [bne_self_eq_false] | refine g_o (op_loadA rfl (ev_ok rfl) (tgt rfl) rfl (Nat.succ_ne_zero _) rfl) ?_ | refine g_o (op_fieldA rfl (ev_ok rfl) (tgt rfl) rfl rfl (Nat.succ_ne_zero _) rfl) ?_ | rw [t1]); conv => whnf)); (first | exact Recast.refl _ | exact Frz.recast (Recast.refl _) rfl | (refine Frz.one rfl rfl ?_; skip) | (refine Frz.tup ?_; (repeat (first | exact FrzC.keyless rfl | exact FrzL.nil | refine FrzL.cons ?_ ?_ | exact FrzC.nilS | refine FrzC.agg ?_))))
theorem m_eachE1 (g : FuncId) (p : Pred) (r c s t : Int) (a b : List Rat) (ha : a.length < 1099511627776) (hb : b.length < 1099511627776) (h : all2 r c s t a b ≠ 0) :
    CallOK Tryz.prog 77 [mA r c a, mA s t b, .clo g [] [.atom p]] [] (.tup [mA 0 0 [], iv (all2 r c s t a b)]) [] [] := by
  have k0 := m_all [((r : Int), (c : Int), a), ((s : Int), (t : Int), b)] (by simp) (by
    intro m hm
    simp only [List.mem_cons, List.not_mem_nil, or_false] at hm
    rcases hm with rfl | rfl
    · exact ha
    · exact hb)
  have t1 : (all2 r c s t a b == 0) = false := beq_false_of_ne h
  have t2 : (all2 r c s t a b != 0) = true := bne_iff_ne.2 h
  refine callF (Z := [3, 4, 5, 11]) tabOK mixedOK Tryz.func77 rfl (by kernel_rfl) (by first | rfl | (simp [keylessL, keyless, keylessL_map, *]; done)) (by first | rfl | (simp [keylessL, keyless, keylessL_map, *]; done)) (by kernel_rfl) rfl ?_
  intro w0 ρ0 hE
  conv => whnf
  (repeat (first | (refine g_c (by assumption) ?_; conv => whnf) | (refine tst_tt t2 ?_; conv => whnf) | (refine g_o (op_loadA rfl (ev_ok rfl) (tgt rfl) rfl (Nat.succ_ne_zero _) rfl) ?_; conv => whnf))); (first | exact Recast.refl _ | exact Frz.recast (Recast.refl _) rfl | (refine Frz.one rfl rfl ?_; skip) | (refine Frz.tup ?_; (repeat (first | exact FrzC.keyless rfl | exact FrzL.nil | refine FrzL.cons ?_ ?_ | exact FrzC.nilS | refine FrzC.agg ?_))))
theorem m_AddE (r c s t : Int) (a b : List Rat) (ha : a.length < 1099511627776) (hb : b.length < 1099511627776) (h : all2 r c s t a b ≠ 0) :
    CallOK Tryz.prog 34 [mA r c a, mA s t b] [] (.tup [mA 0 0 [], iv (all2 r c s t a b)]) [] [] := by
  have k1 := m_eachE0 53 r c s t a b ha hb h
  refine callV (Z := []) tabOK mixedOK Tryz.func34 rfl (by kernel_rfl) rfl rfl (by kernel_rfl) rfl ?_
  intro W0 w0 ρ0 hE
  conv => whnf
  (repeat (first | (refine g_c (by assumption) ?_; conv => whnf))); (first | exact Recast.refl _ | exact Frz.recast (Recast.refl _) rfl | (refine Frz.one rfl rfl ?_; skip) | (refine Frz.tup ?_; skip))
theorem m_AddS {r c s t : Nat} {a b : List Rat} (ha : OKM r c a) (hb : OKM s t b) (h : r ≠ s ∨ c ≠ t) : CallOK Tryz.prog 34 [mA r c a, mA s t b] [] (.tup [mA 0 0 [], iv 1]) [] [] := by
  have k1 := m_eachE0S 53 ha hb h
  refine callV (Z := []) tabOK mixedOK Tryz.func34 rfl (by kernel_rfl) rfl rfl (by kernel_rfl) rfl ?_
  intro W0 w0 ρ0 hE
  conv => whnf
  (repeat (first | (refine g_c (by assumption) ?_; conv => whnf))); (first | exact Recast.refl _ | exact Frz.recast (Recast.refl _) rfl | (refine Frz.one rfl rfl ?_; skip) | (refine Frz.tup ?_; skip))
theorem m_SubE (r c s t : Int) (a b : List Rat) (ha : a.length < 1099511627776) (hb : b.length < 1099511627776) (h : all2 r c s t a b ≠ 0) :
    CallOK Tryz.prog 35 [mA r c a, mA s t b] [] (.tup [mA 0 0 [], iv (all2 r c s t a b)]) [] [] := by
  have k1 := m_eachE0 78 r c s t a b ha hb h
  refine callV (Z := []) tabOK mixedOK Tryz.func35 rfl (by kernel_rfl) rfl rfl (by kernel_rfl) rfl ?_
  intro W0 w0 ρ0 hE
  conv => whnf
  (repeat (first | (refine g_c (by assumption) ?_; conv => whnf))); (first | exact Recast.refl _ | exact Frz.recast (Recast.refl _) rfl | (refine Frz.one rfl rfl ?_; skip) | (refine Frz.tup ?_; skip))
theorem m_SubS {r c s t : Nat} {a b : List Rat} (ha : OKM r c a) (hb : OKM s t b) (h : r ≠ s ∨ c ≠ t) : CallOK Tryz.prog 35 [mA r c a, mA s t b] [] (.tup [mA 0 0 [], iv 1]) [] [] := by
  have k1 := m_eachE0S 78 ha hb h
  refine callV (Z := []) tabOK mixedOK Tryz.func35 rfl (by kernel_rfl) rfl rfl (by kernel_rfl) rfl ?_
  intro W0 w0 ρ0 hE
  conv => whnf
  (repeat (first | (refine g_c (by assumption) ?_; conv => whnf))); (first | exact Recast.refl _ | exact Frz.recast (Recast.refl _) rfl | (refine Frz.one rfl rfl ?_; skip) | (refine Frz.tup ?_; skip))
theorem m_ScaleE (q : Rat) (r c : Int) (a : List Rat) (ha : a.length < 1099511627776) (h : checkF r c a.length ≠ 0) :
    CallOK Tryz.prog 36 [.frac q, mA r c a] [] (.tup [mA 0 0 [], iv (checkF r c a.length)]) [] [] := by
  have e : all2 r c r c a a = checkF r c a.length := by rw [all2, allF, if_pos h]
  have k1 := m_eachE1 79 (ptrP [.frac q]) r c r c a a ha ha (by rw [e]; exact h)
  rw [e] at k1
  refine callV (Z := [2]) tabOK mixedOK Tryz.func36 rfl (by kernel_rfl) rfl rfl (by kernel_rfl) rfl ?_
  intro W0 w0 ρ0 hE
  conv => whnf
  (repeat (first | (refine g_c (by assumption) ?_; conv => whnf) | (refine g_o (op_makeFunc rfl rfl rfl) ?_; conv => whnf))); (first | exact Recast.refl _ | exact Frz.recast (Recast.refl _) rfl | (refine Frz.one rfl rfl ?_; skip) | (refine Frz.tup ?_; skip))
theorem m_MulE (r c s t : Int) (a b : List Rat) (ha : a.length < 1099511627776) (hb : b.length < 1099511627776) (h : all2 r c s t a b ≠ 0) :
    CallOK Tryz.prog 38 [mA r c a, mA s t b] [] (.tup [mA 0 0 [], iv (all2 r c s t a b)]) [] [] := by
  have k0 := m_all [((r : Int), (c : Int), a), ((s : Int), (t : Int), b)] (by simp) (by
    intro m hm
    simp only [List.mem_cons, List.not_mem_nil, or_false] at hm
    rcases hm with rfl | rfl
    · exact ha
    · exact hb)
  have t2 : (all2 r c s t a b != 0) = true := bne_iff_ne.2 h
  refine callF (Z := [2, 3, 9]) tabOK mixedOK Tryz.func38 rfl (by kernel_rfl) (by first | rfl | (simp [keylessL, keyless, keylessL_map, *]; done)) (by first | rfl | (simp [keylessL, keyless, keylessL_map, *]; done)) (by kernel_rfl) rfl ?_
  intro w0 ρ0 hE
  conv => whnf
  (repeat (first | (refine g_c (by assumption) ?_; conv => whnf) | (refine tst_tt t2 ?_; conv => whnf) | (refine g_o (op_loadA rfl (ev_ok rfl) (tgt rfl) rfl (Nat.succ_ne_zero _) rfl) ?_; conv => whnf))); (first | exact Recast.refl _ | exact Frz.recast (Recast.refl _) rfl | (refine Frz.one rfl rfl ?_; skip) | (refine Frz.tup ?_; (repeat (first | exact FrzC.keyless rfl | exact FrzL.nil | refine FrzL.cons ?_ ?_ | exact FrzC.nilS | refine FrzC.agg ?_))))
theorem m_MulS {r c s t : Nat} {a b : List Rat} (ha : OKM r c a) (hb : OKM s t b) (h : c ≠ s) : CallOK Tryz.prog 38 [mA r c a, mA s t b] [] (.tup [mA 0 0 [], iv 1]) [] [] := by
  have k0 := m_all2 ha hb
  have t2 : ((c : Int) != (s : Int)) = true := bne_iff_ne.2 (by omega)
  refine callF (Z := [2, 3, 9]) tabOK mixedOK Tryz.func38 rfl (by kernel_rfl) (by first | rfl | (simp [keylessL, keyless, keylessL_map, *]; done)) (by first | rfl | (simp [keylessL, keyless, keylessL_map, *]; done)) (by kernel_rfl) rfl ?_
  intro w0 ρ0 hE
  conv => whnf
  (repeat ((first | refine step_w2 rfl rfl ?_ | refine g_c (by assumption) ?_ | rw [bne_self_eq_false] | refine tst_tt t2 ?_ | refine g_o (op_loadA rfl (ev_ok rfl) (tgt rfl) rfl (Nat.succ_ne_zero _) rfl) ?_ | refine g_o (op_fieldA rfl (ev_ok rfl) (tgt rfl) rfl rfl (Nat.succ_ne_zero _) rfl) ?_); conv => whnf)); (first | exact Recast.refl _ | exact Frz.recast (Recast.refl _) rfl | (refine Frz.one rfl rfl ?_; skip) | (refine Frz.tup ?_; (repeat (first | exact FrzC.keyless rfl | exact FrzL.nil | refine FrzL.cons ?_ ?_ | exact FrzC.nilS | refine FrzC.agg ?_))))
theorem m_TurnE (r c : Int) (a : List Rat) (ha : a.length < 1099511627776) (h : checkF r c a.length ≠ 0) : CallOK Tryz.prog 39 [mA r c a] [] (.tup [mA 0 0 [], iv (checkF r c a.length)]) [] [] := by
  have k0 := m_Check r c a ha
  have t1 : (checkF r c a.length != 0) = true := bne_iff_ne.2 h
  refine callF (Z := [1]) tabOK mixedOK Tryz.func39 rfl (by kernel_rfl) (by first | rfl | (simp [keylessL, keyless, keylessL_map, *]; done)) (by first | rfl | (simp [keylessL, keyless, keylessL_map, *]; done)) (by kernel_rfl) rfl ?_
  intro w0 ρ0 hE
  conv => whnf
  (repeat (first | (refine g_c (by assumption) ?_; conv => whnf) | (refine tst_tt t1 ?_; conv => whnf) | (refine g_o (op_loadA rfl (ev_ok rfl) (tgt rfl) rfl (Nat.succ_ne_zero _) rfl) ?_; conv => whnf))); (first | exact Recast.refl _ | exact Frz.recast (Recast.refl _) rfl | (refine Frz.one rfl rfl ?_; skip) | (refine Frz.tup ?_; (repeat (first | exact FrzC.keyless rfl | exact FrzL.nil | refine FrzL.cons ?_ ?_ | exact FrzC.nilS | refine FrzC.agg ?_))))
theorem m_PartC (r c : Int) (a : List Rat) (ha : a.length < 1099511627776) (h : checkF r c a.length ≠ 0) (x y : List Int) : CallOK Tryz.prog 57 [mA r c a, ivec .i64 x, ivec .i64 y] [] (.tup [mA 0 0 [], iv (checkF r c a.length)]) [] [] := by
  have k0 := m_Check r c a ha
  have t1 : (checkF r c a.length != 0) = true := bne_iff_ne.2 h
  refine callF (Z := [3, 4, 5]) tabOK mixedOK Tryz.func57 rfl (by kernel_rfl) (by first | rfl | (simp [keylessL, keyless, keylessL_map, *]; done)) (by first | rfl | (simp [keylessL, keyless, keylessL_map, *]; done)) (by kernel_rfl) rfl ?_
  intro w0 ρ0 hE
  conv => whnf
  (repeat (first | (refine g_c (by assumption) ?_; conv => whnf) | (refine tst_tt t1 ?_; conv => whnf) | (refine g_o (op_loadA rfl (ev_ok rfl) (tgt rfl) rfl (Nat.succ_ne_zero _) rfl) ?_; conv => whnf))); (first | exact Recast.refl _ | exact Frz.recast (Recast.refl _) rfl | (refine Frz.one rfl rfl ?_; skip) | (refine Frz.tup ?_; (repeat (first | exact FrzC.keyless rfl | exact FrzL.nil | refine FrzL.cons ?_ ?_ | exact FrzC.nilS | refine FrzC.agg ?_))))
theorem m_TextE (r c : Int) (a : List Rat) (ha : a.length < 1099511627776) (h : checkF r c a.length ≠ 0) : CallOK Tryz.prog 63 [mA r c a] [] (.val (.string ⟨#[]⟩)) [] [] := by
  have k0 := m_Check r c a ha
  have t1 : (checkF r c a.length != 0) = true := bne_iff_ne.2 h
  refine callV (Z := [1]) tabOK mixedOK Tryz.func63 rfl (by kernel_rfl) rfl rfl (by kernel_rfl) rfl ?_
  intro W0 w0 ρ0 hE
  conv => whnf
  (repeat (first | (refine g_c (by assumption) ?_; conv => whnf) | (refine tst_tt t1 ?_; conv => whnf) | (refine g_o (op_loadA rfl (ev_ok rfl) (tgt rfl) rfl (Nat.succ_ne_zero _) rfl) ?_; conv => whnf))); (first | exact Recast.refl _ | exact Frz.recast (Recast.refl _) rfl | (refine Frz.one rfl rfl ?_; skip) | (refine Frz.tup ?_; skip))
theorem m_SumE (r c : Int) (a : List Rat) (ha : a.length < 1099511627776) (h : checkF r c a.length ≠ 0) : CallOK Tryz.prog 31 [mA r c a] [] (.frac 0) [] [] := by
  have k0 := m_Check r c a ha
  have t1 : (checkF r c a.length != 0) = true := bne_iff_ne.2 h
  refine callV (Z := []) tabOK mixedOK Tryz.func31 rfl (by kernel_rfl) rfl rfl (by kernel_rfl) rfl ?_
  intro W0 w0 ρ0 hE
  conv => whnf
  (repeat (first | (refine g_c (by assumption) ?_; conv => whnf) | (refine tst_tt t1 ?_; conv => whnf))); (first | exact Recast.refl _ | exact Frz.recast (Recast.refl _) rfl | (refine Frz.one rfl rfl ?_; skip) | (refine Frz.tup ?_; skip))
theorem m_SymmetricE (r c : Int) (a : List Rat) (ha : a.length < 1099511627776) (h : checkF r c a.length ≠ 0) : CallOK Tryz.prog 18 [mA r c a] [] (.val (.bool false)) [] [] := by
  have k0 := m_TurnE r c a ha h
  have t1 : (checkF r c a.length == 0) = false := beq_false_of_ne h
  refine callV (Z := []) tabOK mixedOK Tryz.func18 rfl (by kernel_rfl) rfl rfl (by kernel_rfl) rfl ?_
  intro W0 w0 ρ0 hE
  conv => whnf
  (repeat ((first | refine g_c (by assumption) ?_ | refine g_o (op_pickF rfl (ev_ok rfl) (ev_ok rfl)) ?_ | refine tst_ff t1 ?_ | rw [t1]); conv => whnf)); (first | exact Recast.refl _ | exact Frz.recast (Recast.refl _) rfl | (refine Frz.one rfl rfl ?_; skip) | (refine Frz.tup ?_; skip))
theorem m_FormE (r c : Int) (a v w : List Rat) (ha : a.length < 1099511627776) (h : checkF r c a.length ≠ 0) : CallOK Tryz.prog 16 [mA r c a, fvec v, fvec w] [] (.tup [.frac 0, iv (checkF r c a.length)]) [] [] := by
  have k0 := m_Check r c a ha
  have t1 : (checkF r c a.length != 0) = true := bne_iff_ne.2 h
  refine callV (Z := [3, 20]) tabOK mixedOK Tryz.func16 rfl (by kernel_rfl) rfl rfl (by kernel_rfl) rfl ?_
  intro W0 w0 ρ0 hE
  conv => whnf
  (repeat (first | (refine g_c (by assumption) ?_; conv => whnf) | (refine tst_tt t1 ?_; conv => whnf) | (refine g_o (op_loadA rfl (ev_ok rfl) (tgt rfl) rfl (Nat.succ_ne_zero _) rfl) ?_; conv => whnf))); (first | exact Recast.refl _ | exact Frz.recast (Recast.refl _) rfl | (refine Frz.one rfl rfl ?_; skip) | (refine Frz.tup ?_; skip))
theorem m_ApplyE (r c : Int) (a v : List Rat) (ha : a.length < 1099511627776) (h : checkF r c a.length ≠ 0) : CallOK Tryz.prog 21 [mA r c a, fvec v] [] (.tup [fvec [], iv (checkF r c a.length)]) [] [] := by
  have k0 := m_all [(r, c, a)] (by simp) (by
    intro m hm
    simp only [List.mem_cons, List.not_mem_nil, or_false] at hm
    obtain rfl := hm; exact ha)
  rw [allF, if_pos h] at k0
  have t1 : (checkF r c a.length != 0) = true := bne_iff_ne.2 h
  refine callF (Z := [2, 11, 17]) tabOK mixedOK Tryz.func21 rfl (by kernel_rfl) (by first | rfl | (simp [keylessL, keyless, keylessL_map, *]; done)) (by first | rfl | (simp [keylessL, keyless, keylessL_map, *]; done)) (by kernel_rfl) rfl ?_
  intro w0 ρ0 hE
  conv => whnf
  (repeat (first | (refine g_c (by assumption) ?_; conv => whnf) | (refine tst_tt t1 ?_; conv => whnf) | (refine g_o (op_loadA rfl (ev_ok rfl) (tgt rfl) rfl (Nat.succ_ne_zero _) rfl) ?_; conv => whnf))); (first | exact Recast.refl _ | exact Frz.recast (Recast.refl _) rfl | (refine Frz.one rfl rfl ?_; skip) | (refine Frz.tup ?_; (repeat (first | exact FrzC.keyless rfl | exact FrzL.nil | refine FrzL.cons ?_ ?_ | exact FrzC.nilS))))
theorem m_ApplyS {r c : Nat} {a v : List Rat} (ha : OKM r c a) (hv : v.length < 1099511627776) (h : v.length ≠ c) : ∃ e, CallOK Tryz.prog 21 [mA r c a, fvec v] [] (.tup [fvec [], iv e]) [] [] ∧ (v.length ≤ 2048 → e = 1) := by
  have k0 := m_all1 ha
  have k1 := m_short [v] (by simp) (by simp; exact hv)
  by_cases hl : 2048 < v.length
  · have e : shortF [v] = 3 := by simp [shortF, hl]
    rw [e] at k1
    refine ⟨3, ?_, fun h => by omega⟩
    refine callF (Z := [2, 11, 17]) tabOK mixedOK Tryz.func21 rfl (by kernel_rfl) (by first | rfl | (simp [keylessL, keyless, keylessL_map, *]; done)) (by first | rfl | (simp [keylessL, keyless, keylessL_map, *]; done)) (by kernel_rfl) rfl ?_
    intro w0 ρ0 hE
    conv => whnf
    (repeat ((first | refine step_w1 rfl rfl ?_ | refine step_w2 rfl rfl ?_ | refine g_c (by assumption) ?_ | refine g_o (op_loadA rfl (ev_ok rfl) (tgt rfl) rfl (Nat.succ_ne_zero _) rfl) ?_); conv => whnf)); (first | exact Recast.refl _ | exact Frz.recast (Recast.refl _) rfl | (refine Frz.one rfl rfl ?_; skip) | (refine Frz.tup ?_; (repeat (first | exact FrzC.keyless rfl | exact FrzL.nil | refine FrzL.cons ?_ ?_ | exact FrzC.nilS))))
  · have e : shortF [v] = 0 := by simp [shortF, hl]
    rw [e] at k1
    have t1 : ((v.length : Int) != (c : Int)) = true := bne_iff_ne.2 (by omega)
    refine ⟨1, ?_, fun _ => rfl⟩
    refine callF (Z := [2, 11, 17]) tabOK mixedOK Tryz.func21 rfl (by kernel_rfl) (by first | rfl | (simp [keylessL, keyless, keylessL_map, *]; done)) (by first | rfl | (simp [keylessL, keyless, keylessL_map, *]; done)) (by kernel_rfl) rfl ?_
    intro w0 ρ0 hE
    conv => whnf
    (repeat ((first | refine step_w2 rfl rfl ?_ | refine g_c (by assumption) ?_ | rw [bne_self_eq_false] | refine tst_tt t1 ?_ | refine g_o (op_lenM rfl rfl rfl (ev_ok rfl) (tgt rfl) rfl) ?_ | refine g_o (op_loadA rfl (ev_ok rfl) (tgt rfl) rfl (Nat.succ_ne_zero _) rfl) ?_ | refine g_o (op_fieldA rfl (ev_ok rfl) (tgt rfl) rfl rfl (Nat.succ_ne_zero _) rfl) ?_); conv => whnf)); (first | exact Recast.refl _ | exact Frz.recast (Recast.refl _) rfl | (refine Frz.one rfl rfl ?_; skip) | (refine Frz.tup ?_; (repeat (first | exact FrzC.keyless rfl | exact FrzL.nil | refine FrzL.cons ?_ ?_ | exact FrzC.nilS))))
theorem m_FormS {r c : Nat} {a v w : List Rat} (ha : OKM r c a) (hv : v.length < 1099511627776) (hw : w.length ≤ 2048) (h : v.length ≠ r) : ∃ e, CallOK Tryz.prog 16 [mA r c a, fvec v, fvec w] [] (.tup [.frac 0, iv e]) [] [] ∧ (v.length ≤ 2048 → e = 1) := by
  have k0 := m_Check0 ha
  have k1 := m_short [v, w] (by simp) (by simp; omega)
  by_cases hl : 2048 < v.length
  · have e : shortF [v, w] = 3 := by simp [shortF, hl]
    rw [e] at k1
    refine ⟨3, ?_, fun h => by omega⟩
    refine callV (Z := [3, 20]) tabOK mixedOK Tryz.func16 rfl (by kernel_rfl) rfl rfl (by kernel_rfl) rfl ?_
    intro W0 w0 ρ0 hE
    conv => whnf
    (repeat ((first | refine step_w1 rfl rfl ?_ | refine step_w2 rfl rfl ?_ | refine g_c (by assumption) ?_ | refine g_o (op_loadA rfl (ev_ok rfl) (tgt rfl) rfl (Nat.succ_ne_zero _) rfl) ?_); conv => whnf)); (first | exact Recast.refl _ | exact Frz.recast (Recast.refl _) rfl | (refine Frz.one rfl rfl ?_; skip) | (refine Frz.tup ?_; skip))
  · have e : shortF [v, w] = 0 := by simp [shortF]; omega
    rw [e] at k1
    have t1 : ((v.length : Int) != (r : Int)) = true := bne_iff_ne.2 (by omega)
    refine ⟨1, ?_, fun _ => rfl⟩
    refine callV (Z := [3, 20]) tabOK mixedOK Tryz.func16 rfl (by kernel_rfl) rfl rfl (by kernel_rfl) rfl ?_
    intro W0 w0 ρ0 hE
    conv => whnf
    (repeat ((first | refine step_w1 rfl rfl ?_ | refine step_w2 rfl rfl ?_ | refine g_c (by assumption) ?_ | refine g_o (op_pickT rfl (ev_ok rfl) (ev_ok rfl)) ?_ | rw [bne_self_eq_false] | refine g_o (op_lenM rfl rfl rfl (ev_ok rfl) (tgt rfl) rfl) ?_ | refine g_o (op_loadA rfl (ev_ok rfl) (tgt rfl) rfl (Nat.succ_ne_zero _) rfl) ?_ | refine g_o (op_fieldA rfl (ev_ok rfl) (tgt rfl) rfl rfl (Nat.succ_ne_zero _) rfl) ?_ | rw [t1]); conv => whnf)); (first | exact Recast.refl _ | exact Frz.recast (Recast.refl _) rfl | (refine Frz.one rfl rfl ?_; skip) | (refine Frz.tup ?_; skip))
end Go.Proofs.YtcincnngdohfnaaGreatDoor

namespace Go.Proofs.YtcincnngdohfnaaGreatDoor
open Go.Sx
set_option linter.unusedSimpArgs false
set_option linter.unusedVariables false
set_option maxRecDepth 100000
set_option maxHeartbeats 8000000

theorem c_refused (r c : Int) (a : List Rat) (ha : a.length < 1099511627776) (want : Int) (h : checkF r c a.length = want) (hw : want ≠ 0) :
    CallOK Tryz.prog 56 [mA r c a, iv want] [] (.val (.bool true)) [] [] := by
  have h0 : checkF r c a.length ≠ 0 := by rw [h]; exact hw
  have hone : (ofInts [1]).length < 1099511627776 := by decide
  have c1 : checkF 1 1 (ofInts [1]).length = 0 := by decide
  have k0 := m_Of 1 1 [1] (by decide) (by decide) rfl (by decide)
  have e1 : all2 r c 1 1 a (ofInts [1]) = want := by rw [all2, allF, if_pos h0, h]
  have e2 : all2 1 1 r c (ofInts [1]) a = want := by rw [all2, allF, if_neg (by rw [c1]; decide), allF, if_pos h0, h]
  have e3 : all2 r c r c a a = want := by rw [all2, allF, if_pos h0, h]
  have k1 := m_AddE r c 1 1 a (ofInts [1]) ha hone (by rw [e1]; exact hw)
  have k2 := m_AddE 1 1 r c (ofInts [1]) a hone ha (by rw [e2]; exact hw)
  have k3 := m_MulE r c r c a a ha ha (by rw [e3]; exact hw)
  rw [e1] at k1
  rw [e2] at k2
  rw [e3] at k3
  have k4 := m_ScaleE ((1 : Int) : Rat) r c a ha h0
  have k5 := m_TurnE r c a ha h0
  have k6 := (m_PartC r c a ha h0 [] []).wk (args := [mA r c a, .val (.slice none 0 0), .val (.slice none 0 0)]) (by repeat (first | exact WkL.nil | refine WkL.cons ?_ ?_ | exact Wk.nil | exact Wk.refl | refine Wk.agg ?_))
  have k7 := (m_ApplyE r c a [] ha h0).wk (args := [mA r c a, .val (.slice none 0 0)]) (by repeat (first | exact WkL.nil | refine WkL.cons ?_ ?_ | exact Wk.nil | exact Wk.refl | refine Wk.agg ?_))
  have k8 := m_RowE r c a ha 0 h0
  have k9 := m_ColE r c a ha 0 h0
  have k10 := (m_FormE r c a [] [] ha h0).wk (args := [mA r c a, .val (.slice none 0 0), .val (.slice none 0 0)]) (by repeat (first | exact WkL.nil | refine WkL.cons ?_ ?_ | exact Wk.nil | exact Wk.refl | refine Wk.agg ?_))
  have k11 := m_TextE r c a ha h0
  have k12 := m_SumE r c a ha h0
  have k13 := m_SymmetricE r c a ha h0
  have k14 := c_fInt 1 (by decide) (by decide)
  rw [h] at k4 k5 k6 k7 k8 k9 k10
  have t1 : (want != want) = false := bne_self_eq_false _
  clear e1 e2 e3 h0 h hone c1 hw
  refine callV (Z := [2, 28]) tabOK mixedOK Tryz.func56 rfl (by kernel_rfl) rfl rfl (by kernel_rfl) rfl ?_
  intro W0 w0 ρ0 hE
  conv => whnf
  (repeat ((first | refine step_w1 rfl rfl ?_ | refine step_w2 rfl rfl ?_ | refine step_i (by kernel_rfl) ?_ | refine g_c (by assumption) ?_ | refine g_o (op_pickT rfl (ev_ok rfl) (ev_ok rfl)) ?_ | refine g_o (op_pickF rfl (ev_ok rfl) (ev_ok rfl)) ?_ | rw [beq_self_eq_true] | rw [bne_self_eq_false] | refine g_o (op_lenM rfl rfl rfl (ev_ok rfl) (tgt rfl) rfl) ?_ | refine g_o (op_loadA rfl (ev_ok rfl) (tgt rfl) rfl (Nat.succ_ne_zero _) rfl) ?_ | refine ⟨_, op_eqAgg tabOK goodOK rfl (ev_ok rfl) (ev_ok rfl) rfl rfl rfl rfl (q_eq (rfl)) q_guard, ?_⟩); conv => whnf)); (first | exact Recast.refl _ | exact Frz.recast (Recast.refl _) rfl | (refine Frz.one rfl rfl ?_; skip) | (refine Frz.tup ?_; skip))
end Go.Proofs.YtcincnngdohfnaaGreatDoor

namespace Go.Sx
set_option linter.unusedSimpArgs false
set_option linter.unusedVariables false
theorem SWx_addKey {E : Env} (k : Nat) {blk : Blk} {c : Code} {K : Post'} {fr : List (Nat × SV)} {hp : List (Nat × Blk)} (hk : find hp k = none) (he : blk.data.empty) (hs : SWx E c K fr ((k, blk) :: hp)) : SWx E c K fr hp :=
  ⟨fun a w hR => hs.run a w (addKey_RR hk he hR)⟩
end Go.Sx
namespace Go.Proofs.YtcincnngdohfnaaGreatDoor
open Go.Sx
set_option linter.unusedSimpArgs false
set_option linter.unusedVariables false
set_option maxRecDepth 100000
set_option maxHeartbeats 40000000

abbrev zL (n : Nat) : List Rat := List.replicate n 0
theorem zL_len (n : Nat) : (zL n).length = n := List.length_replicate ..
theorem same_zero (r c : Int) (N : Nat) : ((sameF r c r c (zL N) []) != (((zL N).length : Int) == 0)) = false := by
  have h : sameF r c r c (zL N) [] = (((zL N).length : Int) == 0) := by
    cases N with
    | zero => simp [sameF, zL]
    | succ n =>
      have h1 : (((zL (n + 1)).length : Int) == 0) = false := by rw [zL_len, beq_eq_false_iff_ne]; omega
      rw [h1]; simp [sameF, zL, List.replicate_succ]
  rw [h]; exact bne_self_eq_false _
theorem c_MErrBad (r c n i k : Int) (hn : 0 ≤ n ∧ n < 256) (hr : -9223372036854775808 ≤ r ∧ r < 9223372036854775808) (hc : -9223372036854775808 ≤ c ∧ c < 9223372036854775808) (h : checkF r c (n % 60).toNat ≠ 0) :
    CallOK Tryz.prog 8 [iv r, iv c, iel .u8 n, iv i, iv k] [] (.val (.bool true)) [] [] := by
  have kw := l_works13
  obtain ⟨e1, e2⟩ := u8_mod n hn 60 (by decide)
  have hN : (n % 60).toNat ≤ 59 := by omega
  generalize (n % 60).toNat = N at *
  rw [show N = (zL N).length from (zL_len N).symm] at h
  by_cases h1 : r < 0
  · have t1 : decide (r < 0) = true := decide_eq_true h1
    have hw : checkF r c (zL N).length = 1 := by unfold checkF; rw [show sidesF r c = 1 from by unfold sidesF; rw [if_pos (.inl h1)]]; rfl
    have k0 := m_Check r c (zL N) (by rw [zL_len]; omega)
    have kr := c_refused r c (zL N) (by rw [zL_len]; omega) 1 hw (by decide)
    rw [hw] at k0
    have km := (m_Same r c r c (zL N) [] (by rw [zL_len]; omega) (by decide)).wk (args := [mA r c (zL N), .agg [iv r, iv c, .val (.slice none 0 0)]]) (by repeat (first | exact WkL.nil | refine WkL.cons ?_ ?_ | exact Wk.nil | exact Wk.refl | refine Wk.agg ?_))
    have tz := same_zero r c N
    clear hw
    refine callV (Z := [100000, 131, 138, 192]) tabOK mixedOK Tryz.func8 rfl (by kernel_rfl) rfl rfl (by kernel_rfl) rfl ?_
    intro W0 w0 ρ0 hE
    conv => whnf
    refine SWx_addKey 45 (blk := fblk []) rfl rfl ?_
    refine SWx_addKey 212 (blk := fblk []) rfl rfl ?_
    refine SWx_addKey 238 (blk := fblk []) rfl rfl ?_
    refine SWx_addKey 246 (blk := fblk []) rfl rfl ?_
    refine SWx_addKey 248 (blk := fblk []) rfl rfl ?_
    refine SWx_go hE ?_
    conv => whnf
    (repeat ((first | refine step_w1 rfl rfl ?_ | refine step_w2 rfl rfl ?_ | refine step_i (by kernel_rfl) ?_ | refine step_oN (by first | omega | decide | (simp only [tiB5, tiB66, tiB3, tiB2, tiB9, tiB43, tiB87, tiB29, tiB33, tiB41, tiB35, tiB4, tiB83, tiB85, tiB121, tiB31, tiB82, tiB37, dlen, List.length_replicate, List.length_set, List.length_map, List.length_zipWith, List.length_take, List.length_append, List.length_cons, List.length_nil]; omega)) ?_ | refine g_c (by assumption) ?_ | refine g_o (op_pickT rfl (ev_ok rfl) (ev_ok rfl)) ?_ | refine g_o (op_pickF rfl (ev_ok rfl) (ev_ok rfl)) ?_ | rw [bne_self_eq_false] | refine tst_ff tz ?_ | refine g_o (op_lenM rfl rfl rfl (ev_ok rfl) (tgt rfl) rfl) ?_ | refine g_o (op_makeF rfl (ev_ok rfl) (ev_ok rfl) (tgt rfl) rfl (tgt rfl) rfl rfl (by simp only [tiB43]; omega)) ?_ | rw [t1] | rw [e2]); conv => whnf)); (first | exact Recast.refl _ | exact Frz.recast (Recast.refl _) rfl | (refine Frz.one rfl rfl ?_; skip) | (refine Frz.tup ?_; skip))
  have t1 : decide (r < 0) = false := decide_eq_false h1
  by_cases h2 : c < 0
  · have t2 : decide (c < 0) = true := decide_eq_true h2
    have hw : checkF r c (zL N).length = 1 := by unfold checkF; rw [show sidesF r c = 1 from by unfold sidesF; rw [if_pos (.inr h2)]]; rfl
    have k0 := m_Check r c (zL N) (by rw [zL_len]; omega)
    have kr := c_refused r c (zL N) (by rw [zL_len]; omega) 1 hw (by decide)
    rw [hw] at k0
    have km := (m_Same r c r c (zL N) [] (by rw [zL_len]; omega) (by decide)).wk (args := [mA r c (zL N), .agg [iv r, iv c, .val (.slice none 0 0)]]) (by repeat (first | exact WkL.nil | refine WkL.cons ?_ ?_ | exact Wk.nil | exact Wk.refl | refine Wk.agg ?_))
    have tz := same_zero r c N
    clear hw
    refine callV (Z := [100000, 131, 138, 192]) tabOK mixedOK Tryz.func8 rfl (by kernel_rfl) rfl rfl (by kernel_rfl) rfl ?_
    intro W0 w0 ρ0 hE
    conv => whnf
    refine SWx_addKey 45 (blk := fblk []) rfl rfl ?_
    refine SWx_addKey 212 (blk := fblk []) rfl rfl ?_
    refine SWx_addKey 238 (blk := fblk []) rfl rfl ?_
    refine SWx_addKey 246 (blk := fblk []) rfl rfl ?_
    refine SWx_addKey 248 (blk := fblk []) rfl rfl ?_
    refine SWx_go hE ?_
    conv => whnf
    (repeat ((first | refine step_w1 rfl rfl ?_ | refine step_i (by kernel_rfl) ?_ | refine step_oN (by first | omega | decide | (simp only [tiB5, tiB66, tiB3, tiB2, tiB9, tiB43, tiB87, tiB29, tiB33, tiB41, tiB35, tiB4, tiB83, tiB85, tiB121, tiB31, tiB82, tiB37, dlen, List.length_replicate, List.length_set, List.length_map, List.length_zipWith, List.length_take, List.length_append, List.length_cons, List.length_nil]; omega)) ?_ | refine g_c (by assumption) ?_ | refine g_o (op_pickT rfl (ev_ok rfl) (ev_ok rfl)) ?_ | refine g_o (op_pickF rfl (ev_ok rfl) (ev_ok rfl)) ?_ | rw [bne_self_eq_false] | refine tst_tt t2 ?_ | refine tst_ff tz ?_ | refine g_o (op_lenM rfl rfl rfl (ev_ok rfl) (tgt rfl) rfl) ?_ | refine g_o (op_makeF rfl (ev_ok rfl) (ev_ok rfl) (tgt rfl) rfl (tgt rfl) rfl rfl (by simp only [tiB43]; omega)) ?_ | rw [t1] | rw [e2]); conv => whnf)); (first | exact Recast.refl _ | exact Frz.recast (Recast.refl _) rfl | (refine Frz.one rfl rfl ?_; skip) | (refine Frz.tup ?_; skip))
  have t2 : decide (c < 0) = false := decide_eq_false h2
  by_cases h3 : r > 2048
  · have t3 : decide (r > 2048) = true := decide_eq_true h3
    have hw : checkF r c (zL N).length = 3 := by unfold checkF; rw [show sidesF r c = 3 from by unfold sidesF; rw [if_neg (by omega), if_pos (.inl h3)]]; rfl
    have k0 := m_Check r c (zL N) (by rw [zL_len]; omega)
    have kr := c_refused r c (zL N) (by rw [zL_len]; omega) 3 hw (by decide)
    rw [hw] at k0
    have km := (m_Same r c r c (zL N) [] (by rw [zL_len]; omega) (by decide)).wk (args := [mA r c (zL N), .agg [iv r, iv c, .val (.slice none 0 0)]]) (by repeat (first | exact WkL.nil | refine WkL.cons ?_ ?_ | exact Wk.nil | exact Wk.refl | refine Wk.agg ?_))
    have tz := same_zero r c N
    clear hw
    refine callV (Z := [100000, 131, 138, 192]) tabOK mixedOK Tryz.func8 rfl (by kernel_rfl) rfl rfl (by kernel_rfl) rfl ?_
    intro W0 w0 ρ0 hE
    conv => whnf
    refine SWx_addKey 45 (blk := fblk []) rfl rfl ?_
    refine SWx_addKey 212 (blk := fblk []) rfl rfl ?_
    refine SWx_addKey 238 (blk := fblk []) rfl rfl ?_
    refine SWx_addKey 246 (blk := fblk []) rfl rfl ?_
    refine SWx_addKey 248 (blk := fblk []) rfl rfl ?_
    refine SWx_go hE ?_
    conv => whnf
    (repeat ((first | refine step_w1 rfl rfl ?_ | refine step_w2 rfl rfl ?_ | refine step_i (by kernel_rfl) ?_ | refine step_oN (by first | omega | decide | (simp only [tiB5, tiB66, tiB3, tiB2, tiB9, tiB43, tiB87, tiB29, tiB33, tiB41, tiB35, tiB4, tiB83, tiB85, tiB121, tiB31, tiB82, tiB37, dlen, List.length_replicate, List.length_set, List.length_map, List.length_zipWith, List.length_take, List.length_append, List.length_cons, List.length_nil]; omega)) ?_ | refine g_c (by assumption) ?_ | refine g_o (op_pickT rfl (ev_ok rfl) (ev_ok rfl)) ?_ | refine g_o (op_pickF rfl (ev_ok rfl) (ev_ok rfl)) ?_ | rw [bne_self_eq_false] | refine tst_ff t2 ?_ | refine tst_ff tz ?_ | refine g_o (op_lenM rfl rfl rfl (ev_ok rfl) (tgt rfl) rfl) ?_ | refine g_o (op_makeF rfl (ev_ok rfl) (ev_ok rfl) (tgt rfl) rfl (tgt rfl) rfl rfl (by simp only [tiB43]; omega)) ?_ | rw [t1] | rw [t2] | rw [t3] | rw [e2]); conv => whnf)); (first | exact Recast.refl _ | exact Frz.recast (Recast.refl _) rfl | (refine Frz.one rfl rfl ?_; skip) | (refine Frz.tup ?_; skip))
  have t3 : decide (r > 2048) = false := decide_eq_false h3
  by_cases h4 : c > 2048
  · have t4 : decide (c > 2048) = true := decide_eq_true h4
    have hw : checkF r c (zL N).length = 3 := by unfold checkF; rw [show sidesF r c = 3 from by unfold sidesF; rw [if_neg (by omega), if_pos (.inr h4)]]; rfl
    have k0 := m_Check r c (zL N) (by rw [zL_len]; omega)
    have kr := c_refused r c (zL N) (by rw [zL_len]; omega) 3 hw (by decide)
    rw [hw] at k0
    have km := (m_Same r c r c (zL N) [] (by rw [zL_len]; omega) (by decide)).wk (args := [mA r c (zL N), .agg [iv r, iv c, .val (.slice none 0 0)]]) (by repeat (first | exact WkL.nil | refine WkL.cons ?_ ?_ | exact Wk.nil | exact Wk.refl | refine Wk.agg ?_))
    have tz := same_zero r c N
    clear hw
    refine callV (Z := [100000, 131, 138, 192]) tabOK mixedOK Tryz.func8 rfl (by kernel_rfl) rfl rfl (by kernel_rfl) rfl ?_
    intro W0 w0 ρ0 hE
    conv => whnf
    refine SWx_addKey 45 (blk := fblk []) rfl rfl ?_
    refine SWx_addKey 212 (blk := fblk []) rfl rfl ?_
    refine SWx_addKey 238 (blk := fblk []) rfl rfl ?_
    refine SWx_addKey 246 (blk := fblk []) rfl rfl ?_
    refine SWx_addKey 248 (blk := fblk []) rfl rfl ?_
    refine SWx_go hE ?_
    conv => whnf
    (repeat ((first | refine step_w1 rfl rfl ?_ | refine step_i (by kernel_rfl) ?_ | refine step_oN (by first | omega | decide | (simp only [tiB5, tiB66, tiB3, tiB2, tiB9, tiB43, tiB87, tiB29, tiB33, tiB41, tiB35, tiB4, tiB83, tiB85, tiB121, tiB31, tiB82, tiB37, dlen, List.length_replicate, List.length_set, List.length_map, List.length_zipWith, List.length_take, List.length_append, List.length_cons, List.length_nil]; omega)) ?_ | refine g_c (by assumption) ?_ | refine g_o (op_pickT rfl (ev_ok rfl) (ev_ok rfl)) ?_ | refine g_o (op_pickF rfl (ev_ok rfl) (ev_ok rfl)) ?_ | rw [bne_self_eq_false] | refine tst_ff t2 ?_ | refine tst_tt t4 ?_ | refine tst_ff tz ?_ | refine g_o (op_lenM rfl rfl rfl (ev_ok rfl) (tgt rfl) rfl) ?_ | refine g_o (op_makeF rfl (ev_ok rfl) (ev_ok rfl) (tgt rfl) rfl (tgt rfl) rfl rfl (by simp only [tiB43]; omega)) ?_ | rw [t1] | rw [t2] | rw [t3] | rw [e2]); conv => whnf)); (first | exact Recast.refl _ | exact Frz.recast (Recast.refl _) rfl | (refine Frz.one rfl rfl ?_; skip) | (refine Frz.tup ?_; skip))
  have t4 : decide (c > 2048) = false := decide_eq_false h4
  have hs : sidesF r c = 0 := sides_of (by omega)
  have hb : r * c ≠ ((zL N).length : Int) := by
    intro hb
    apply h
    unfold checkF
    rw [hs, if_neg (by decide), if_neg (by rw [hb]; exact fun h => h rfl)]
  have hw : checkF r c (zL N).length = 1 := by unfold checkF; rw [hs, if_neg (by decide), if_pos (fun h => hb h.symm)]
  have hp := prod_le (show (0 ≤ r ∧ r ≤ 2048) ∧ (0 ≤ c ∧ c ≤ 2048) by omega)
  have t5 : IntKind.i64.wrap (r * c) = r * c := wrap_i64 (by omega) (by omega)
  have t6 : ((r * c) != ((zL N).length : Int)) = true := bne_iff_ne.2 hb
  clear hp hb hs
  have k0 := m_Check r c (zL N) (by rw [zL_len]; omega)
  have kr := c_refused r c (zL N) (by rw [zL_len]; omega) 1 hw (by decide)
  rw [hw] at k0
  have km := (m_Same r c r c (zL N) [] (by rw [zL_len]; omega) (by decide)).wk (args := [mA r c (zL N), .agg [iv r, iv c, .val (.slice none 0 0)]]) (by repeat (first | exact WkL.nil | refine WkL.cons ?_ ?_ | exact Wk.nil | exact Wk.refl | refine Wk.agg ?_))
  have tz := same_zero r c N
  clear hw
  refine callV (Z := [100000, 131, 138, 192]) tabOK mixedOK Tryz.func8 rfl (by kernel_rfl) rfl rfl (by kernel_rfl) rfl ?_
  intro W0 w0 ρ0 hE
  conv => whnf
  refine SWx_addKey 45 (blk := fblk []) rfl rfl ?_
  refine SWx_addKey 212 (blk := fblk []) rfl rfl ?_
  refine SWx_addKey 238 (blk := fblk []) rfl rfl ?_
  refine SWx_addKey 246 (blk := fblk []) rfl rfl ?_
  refine SWx_addKey 248 (blk := fblk []) rfl rfl ?_
  refine SWx_go hE ?_
  conv => whnf
  (repeat ((first | refine step_w1 rfl rfl ?_ | refine step_i (by kernel_rfl) ?_ | refine step_oN (by first | omega | decide | (simp only [tiB5, tiB66, tiB3, tiB2, tiB9, tiB43, tiB87, tiB29, tiB33, tiB41, tiB35, tiB4, tiB83, tiB85, tiB121, tiB31, tiB82, tiB37, dlen, List.length_replicate, List.length_set, List.length_map, List.length_zipWith, List.length_take, List.length_append, List.length_cons, List.length_nil]; omega)) ?_ | refine g_c (by assumption) ?_ | refine g_o (op_pickT rfl (ev_ok rfl) (ev_ok rfl)) ?_ | refine g_o (op_pickF rfl (ev_ok rfl) (ev_ok rfl)) ?_ | rw [bne_self_eq_false] | refine tst_ff t2 ?_ | refine tst_ff t4 ?_ | refine tst_tt t6 ?_ | refine tst_ff tz ?_ | refine g_o (op_lenM rfl rfl rfl (ev_ok rfl) (tgt rfl) rfl) ?_ | refine g_o (op_makeF rfl (ev_ok rfl) (ev_ok rfl) (tgt rfl) rfl (tgt rfl) rfl rfl (by simp only [tiB43]; omega)) ?_ | rw [t1] | rw [t2] | rw [t3] | rw [t4] | rw [t5] | rw [e2]); conv => whnf)); (first | exact Recast.refl _ | exact Frz.recast (Recast.refl _) rfl | (refine Frz.one rfl rfl ?_; skip) | (refine Frz.tup ?_; skip))
end Go.Proofs.YtcincnngdohfnaaGreatDoor

namespace Go.Proofs.YtcincnngdohfnaaGreatDoor
open Go.Sx
set_option linter.unusedSimpArgs false
set_option linter.unusedVariables false
set_option maxRecDepth 100000
set_option maxHeartbeats 40000000

/-- The error of an index. -/
abbrev eI (b : Bool) : Int := bif b then 0 else 1
theorem OKM_z {r c : Nat} (hr : r ≤ 2048) (hc : c ≤ 2048) : OKM r c (zL (r * c)) := ⟨hr, hc, zL_len _⟩
theorem range3 (i : Int) (R : Nat) : ∃ b1 b2, decide (i ≥ 0) = b1 ∧ decide (i < (R : Int)) = b2 ∧ ((b1 = false ∧ b2 = true) ∨ (b1 = true ∧ b2 = false) ∨ (b1 = true ∧ b2 = true)) := by
  refine ⟨_, _, rfl, rfl, ?_⟩
  by_cases h1 : i ≥ 0
  · by_cases h2 : i < (R : Int)
    · exact .inr (.inr ⟨decide_eq_true h1, decide_eq_true h2⟩)
    · exact .inr (.inl ⟨decide_eq_true h1, decide_eq_false h2⟩)
  · exact .inl ⟨decide_eq_false h1, decide_eq_true (by omega)⟩
theorem in_range {i : Int} {R : Nat} {b1 b2 : Bool} (h1 : decide (i ≥ 0) = b1) (h2 : decide (i < (R : Int)) = b2) : (b1 && b2) = true ↔ (0 ≤ i ∧ i < (R : Int)) := by
  rw [← h1, ← h2]; simp
theorem el_zero {r c i k : Nat} (hi : i < r) (hk : k < c) : el (zL (r * c)) c i k = 0 := get_zero (idx_lt hi hk)
section
variable {R C : Nat} (hA : OKM R C (zL (R * C)))
include hA
theorem z_At {i k : Int} {b1 b2 b3 b4 : Bool} (h1 : decide (i ≥ 0) = b1) (h2 : decide (i < (R : Int)) = b2) (h3 : decide (k ≥ 0) = b3) (h4 : decide (k < (C : Int)) = b4) :
    CallOK Tryz.prog 51 [mA R C (zL (R * C)), iv i, iv k] [] (.tup [.frac 0, .val (.bool (((b1 && b2) && b3) && b4))]) [] [] := by
  have e1 := in_range h1 h2
  have e2 := in_range h3 h4
  cases hb : ((b1 && b2) && b3) && b4
  · refine m_AtNo R C _ hA fun h => ?_
    have f1 := e1.2 ⟨h.1, h.2.1⟩
    have f2 := e2.2 h.2.2
    rw [Bool.and_assoc, f1, f2] at hb
    cases hb
  · rw [Bool.and_assoc, Bool.and_eq_true] at hb
    obtain ⟨f1, f2⟩ := e1.1 hb.1
    obtain ⟨f3, f4⟩ := e2.1 hb.2
    obtain ⟨i, rfl⟩ := Int.eq_ofNat_of_zero_le f1
    obtain ⟨k, rfl⟩ := Int.eq_ofNat_of_zero_le f3
    have := m_At R C _ hA (i := i) (k := k) (by omega) (by omega)
    rwa [el_zero (by omega) (by omega)] at this
theorem z_Row {i : Int} {b1 b2 : Bool} (h1 : decide (i ≥ 0) = b1) (h2 : decide (i < (R : Int)) = b2) : ∃ v, CallOK Tryz.prog 50 [mA R C (zL (R * C)), iv i] [] (.tup [fvec v, iv (eI (b1 && b2))]) [] [] := by
  have e1 := in_range h1 h2
  cases hb : b1 && b2
  · exact ⟨[], m_RowI hA (fun h => by rw [e1.2 h] at hb; cases hb)⟩
  · obtain ⟨f1, f2⟩ := e1.1 hb
    obtain ⟨i, rfl⟩ := Int.eq_ofNat_of_zero_le f1
    exact ⟨_, m_Row hA (i := i) (by omega)⟩
theorem z_Col {i : Int} {b1 b2 : Bool} (h1 : decide (i ≥ 0) = b1) (h2 : decide (i < (C : Int)) = b2) : ∃ v, CallOK Tryz.prog 52 [mA R C (zL (R * C)), iv i] [] (.tup [fvec v, iv (eI (b1 && b2))]) [] [] := by
  have e1 := in_range h1 h2
  cases hb : b1 && b2
  · exact ⟨[], m_ColI hA (fun h => by rw [e1.2 h] at hb; cases hb)⟩
  · obtain ⟨f1, f2⟩ := e1.1 hb
    obtain ⟨i, rfl⟩ := Int.eq_ofNat_of_zero_le f1
    exact ⟨_, m_Col hA (i := i) (by omega)⟩
theorem z_PartR {i : Int} {b1 b2 : Bool} (h1 : decide (i ≥ 0) = b1) (h2 : decide (i < (R : Int)) = b2) : ∃ x y v, CallOK Tryz.prog 57 [mA R C (zL (R * C)), ivec .i64 [i], .val (.slice none 0 0)] [] (.tup [mA x y v, iv (eI (b1 && b2))]) [] [] := by
  have e1 := in_range h1 h2
  cases hb : b1 && b2
  · have hx : ([i].any (outF R)) = true := by
      simp only [List.any_cons, List.any_nil, Bool.or_false, outF, Bool.not_eq_true', decide_eq_false_iff_not]
      exact fun h => by rw [e1.2 h] at hb; cases hb
    exact ⟨0, 0, [], (m_PartE hA [i] [] (by simp) (by simp) (.inl hx)).wk (by repeat (first | exact WkL.nil | refine WkL.cons ?_ ?_ | exact Wk.nil | exact Wk.refl | refine Wk.agg ?_))⟩
  · have hx : ∀ x ∈ [i], 0 ≤ x ∧ x < (R : Int) := fun x hx => by
      simp only [List.mem_cons, List.not_mem_nil, or_false] at hx
      subst hx; exact e1.1 hb
    exact ⟨_, _, _, (m_Part hA [i] [] (by simp) (by simp) hx (fun x hx => by cases hx)).wk (by repeat (first | exact WkL.nil | refine WkL.cons ?_ ?_ | exact Wk.nil | exact Wk.refl | refine Wk.agg ?_))⟩
theorem z_PartC {i : Int} {b1 b2 : Bool} (h1 : decide (i ≥ 0) = b1) (h2 : decide (i < (C : Int)) = b2) : ∃ x y v, CallOK Tryz.prog 57 [mA R C (zL (R * C)), .val (.slice none 0 0), ivec .i64 [i]] [] (.tup [mA x y v, iv (eI (b1 && b2))]) [] [] := by
  have e1 := in_range h1 h2
  cases hb : b1 && b2
  · have hx : ([i].any (outF C)) = true := by
      simp only [List.any_cons, List.any_nil, Bool.or_false, outF, Bool.not_eq_true', decide_eq_false_iff_not]
      exact fun h => by rw [e1.2 h] at hb; cases hb
    exact ⟨0, 0, [], (m_PartE hA [] [i] (by simp) (by simp) (.inr hx)).wk (by repeat (first | exact WkL.nil | refine WkL.cons ?_ ?_ | exact Wk.nil | exact Wk.refl | refine Wk.agg ?_))⟩
  · have hx : ∀ x ∈ [i], 0 ≤ x ∧ x < (C : Int) := fun x hx => by
      simp only [List.mem_cons, List.not_mem_nil, or_false] at hx
      subst hx; exact e1.1 hb
    exact ⟨_, _, _, (m_Part hA [] [i] (by simp) (by simp) (fun x hx => by cases hx) hx).wk (by repeat (first | exact WkL.nil | refine WkL.cons ?_ ?_ | exact Wk.nil | exact Wk.refl | refine Wk.agg ?_))⟩
theorem z_Add : ∃ s, CallOK Tryz.prog 34 [mA R C (zL (R * C)), mA ((R + 1 : Nat) : Int) C (zL ((R + 1) * C))] [] (.tup [mA 0 0 [], iv s]) [] [] ∧ (R ≠ 2048 → s = 1) := by
  have h1 := hA.r
  have h2 := hA.c
  have h3 := Nat.mul_le_mul_right C (show R + 1 ≤ 2049 by omega)
  by_cases hR : R = 2048
  · have hc : checkF ((R + 1 : Nat) : Int) C (zL ((R + 1) * C)).length = 3 := by unfold checkF; rw [show sidesF ((R + 1 : Nat) : Int) C = 3 from by unfold sidesF; rw [if_neg (by omega), if_pos (.inl (by omega))]]; rfl
    have e : all2 R C ((R + 1 : Nat) : Int) C (zL (R * C)) (zL ((R + 1) * C)) = 3 := by rw [all2, allF, if_neg (by rw [check_ok hA.r hA.c hA.n]; decide), allF, if_pos (by rw [hc]; decide), hc]
    have := m_AddE R C ((R + 1 : Nat) : Int) C (zL (R * C)) (zL ((R + 1) * C)) (by have := hA.small; omega) (by rw [zL_len]; omega) (by rw [e]; decide)
    rw [e] at this
    exact ⟨3, this, fun h => absurd hR h⟩
  · exact ⟨1, m_AddS hA (OKM_z (r := R + 1) (by omega) h2) (.inl (by omega)), fun _ => rfl⟩
theorem z_Sub : ∃ s, CallOK Tryz.prog 35 [mA ((R + 1 : Nat) : Int) C (zL ((R + 1) * C)), mA R C (zL (R * C))] [] (.tup [mA 0 0 [], iv s]) [] [] ∧ (R ≠ 2048 → s = 1) := by
  have h1 := hA.r
  have h2 := hA.c
  have h3 := Nat.mul_le_mul_right C (show R + 1 ≤ 2049 by omega)
  by_cases hR : R = 2048
  · have hc : checkF ((R + 1 : Nat) : Int) C (zL ((R + 1) * C)).length = 3 := by unfold checkF; rw [show sidesF ((R + 1 : Nat) : Int) C = 3 from by unfold sidesF; rw [if_neg (by omega), if_pos (.inl (by omega))]]; rfl
    have e : all2 ((R + 1 : Nat) : Int) C R C (zL ((R + 1) * C)) (zL (R * C)) = 3 := by rw [all2, allF, if_pos (by rw [hc]; decide), hc]
    have := m_SubE ((R + 1 : Nat) : Int) C R C (zL ((R + 1) * C)) (zL (R * C)) (by rw [zL_len]; omega) (by have := hA.small; omega) (by rw [e]; decide)
    rw [e] at this
    exact ⟨3, this, fun h => absurd hR h⟩
  · exact ⟨1, m_SubS (OKM_z (r := R + 1) (by omega) h2) hA (.inl (by omega)), fun _ => rfl⟩
theorem z_Mul : ∃ s, CallOK Tryz.prog 38 [mA R C (zL (R * C)), .agg [iv ((C + 1 : Nat) : Int), iv 0, .val (.slice none 0 0)]] [] (.tup [mA 0 0 [], iv s]) [] [] ∧ (C ≠ 2048 → s = 1) := by
  have h2 := hA.c
  by_cases hC : C = 2048
  · have hc : checkF ((C + 1 : Nat) : Int) 0 ([] : List Rat).length = 3 := by unfold checkF; rw [show sidesF ((C + 1 : Nat) : Int) 0 = 3 from by unfold sidesF; rw [if_neg (by omega), if_pos (.inl (by omega))]]; rfl
    have e : all2 R C ((C + 1 : Nat) : Int) 0 (zL (R * C)) [] = 3 := by rw [all2, allF, if_neg (by rw [check_ok hA.r hA.c hA.n]; decide), allF, if_pos (by rw [hc]; decide), hc]
    have := m_MulE R C ((C + 1 : Nat) : Int) 0 (zL (R * C)) [] (by have := hA.small; omega) (by decide) (by rw [e]; decide)
    rw [e] at this
    exact ⟨3, this.wk (by repeat (first | exact WkL.nil | refine WkL.cons ?_ ?_ | exact Wk.nil | exact Wk.refl | refine Wk.agg ?_)), fun h => absurd hC h⟩
  · have hB : OKM (C + 1) 0 [] := ⟨by omega, by omega, rfl⟩
    exact ⟨1, (m_MulS hA hB (by omega)).wk (by repeat (first | exact WkL.nil | refine WkL.cons ?_ ?_ | exact Wk.nil | exact Wk.refl | refine Wk.agg ?_)), fun _ => rfl⟩
end
end Go.Proofs.YtcincnngdohfnaaGreatDoor

namespace Go.Proofs.YtcincnngdohfnaaGreatDoor
open Go.Sx
set_option linter.unusedSimpArgs false
set_option linter.unusedVariables false
set_option maxRecDepth 100000
set_option maxHeartbeats 40000000

/-- A fact kept shut. -/
structure Shut (p : Prop) : Prop where
  out : p
theorem by_tail {G : Prop} (h : ∃ T : Prop, T ∧ (Shut T → G)) : G := let ⟨_, t, k⟩ := h; k ⟨t⟩
theorem c_MErrOk (R C : Nat) (n i k : Int) (hn : 0 ≤ n ∧ n < 256) (hR : R ≤ 2048) (hC : C ≤ 2048) (hN : R * C = (n % 60).toNat) :
    CallOK Tryz.prog 8 [iv R, iv C, iel .u8 n, iv i, iv k] [] (.val (.bool true)) [] [] := by
  have kw := l_works13
  obtain ⟨e1, e2⟩ := u8_mod n hn 60 (by decide)
  have hN2 : R * C ≤ 59 := by omega
  rw [← hN] at e2
  clear hN
  have hA := OKM_z hR hC
  have k0 := m_Check0 hA
  have km := (m_Same R C R C (zL (R * C)) [] (by have := hA.small; omega) (by decide)).wk (args := [mA R C (zL (R * C)), .agg [iv R, iv C, .val (.slice none 0 0)]]) (by repeat (first | exact WkL.nil | refine WkL.cons ?_ ?_ | exact Wk.nil | exact Wk.refl | refine Wk.agg ?_))
  have tz := same_zero R C (R * C)
  have t1 : decide ((R : Int) < 0) = false := decide_eq_false (by omega)
  have t2 : decide ((C : Int) < 0) = false := decide_eq_false (by omega)
  have t3 : decide ((R : Int) > 2048) = false := decide_eq_false (by omega)
  have t4 : decide ((C : Int) > 2048) = false := decide_eq_false (by omega)
  have hp := prod_le (show (0 ≤ (R : Int) ∧ (R : Int) ≤ 2048) ∧ (0 ≤ (C : Int) ∧ (C : Int) ≤ 2048) by omega)
  have t5 : IntKind.i64.wrap ((R : Int) * (C : Int)) = ((R * C : Nat) : Int) := by rw [wrap_i64 (by omega) (by omega)]; push_cast; rfl
  have t6 : (((R * C : Nat) : Int) != ((zL (R * C)).length : Int)) = false := by rw [zL_len]; exact bne_self_eq_false _
  obtain ⟨b1, b2, f1, f2, f3⟩ := range3 i R
  obtain ⟨b3, b4, g1, g2, g3⟩ := range3 k C
  have kA := z_At hA f1 f2 g1 g2
  obtain ⟨v1, kR⟩ := z_Row hA f1 f2
  obtain ⟨v2, kC⟩ := z_Col hA g1 g2
  obtain ⟨x1, y1, v3, kP⟩ := z_PartR hA f1 f2
  obtain ⟨x2, y2, v4, kQ⟩ := z_PartC hA g1 g2
  obtain ⟨s1, kS, hs1⟩ := z_Add hA
  obtain ⟨s2, kT, hs2⟩ := z_Sub hA
  obtain ⟨s3, kU, hs3⟩ := z_Mul hA
  obtain ⟨s4, kV, hs4⟩ := m_ApplyS hA (v := zL (C + 1)) (by rw [zL_len]; omega) (by rw [zL_len]; omega)
  obtain ⟨s5, kX, hs5⟩ := m_FormS hA (v := zL (R + 1)) (w := zL C) (by rw [zL_len]; omega) (by rw [zL_len]; omega) (by rw [zL_len]; omega)
  rw [zL_len] at hs4 hs5
  have u1 : IntKind.i64.wrap ((R : Int) + 1) = ((R + 1 : Nat) : Int) := winc (by omega)
  have u2 : IntKind.i64.wrap ((C : Int) + 1) = ((C + 1 : Nat) : Int) := winc (by omega)
  have hRC : (R + 1) * C ≤ 2107 := by rw [Nat.succ_mul]; omega
  have u3 : IntKind.i64.wrap (((R + 1 : Nat) : Int) * (C : Int)) = (((R + 1) * C : Nat) : Int) := by rw [← Int.natCast_mul, wrap_i64 (by omega) (by omega)]
  have hL : ∀ j, j < 4 → [eI (b1 && b2), eI (b3 && b4), eI (b1 && b2), eI (b3 && b4)].getD j 0 = 0 ∨ [eI (b1 && b2), eI (b3 && b4), eI (b1 && b2), eI (b3 && b4)].getD j 0 = 1 := by
    intro j hj
    have hb : ∀ b : Bool, eI b = 0 ∨ eI b = 1 := fun b => by cases b <;> simp [eI]
    obtain rfl | rfl | rfl | rfl : j = 0 ∨ j = 1 ∨ j = 2 ∨ j = 3 := by omega
    · exact hb _
    · exact hb _
    · exact hb _
    · exact hb _
  clear hp
  generalize hLd : [eI (b1 && b2), eI (b3 && b4), eI (b1 && b2), eI (b3 && b4)] = L at hL
  have hLl : L.length = 4 := by rw [← hLd]; rfl
  generalize hZ1 : (R + 1) * C = M at *
  generalize hZ2 : R * C = N at *
  refine callV (Z := [100000, 131, 138, 192]) tabOK mixedOK Tryz.func8 rfl (by kernel_rfl) rfl rfl (by kernel_rfl) rfl ?_
  intro W0 w0 ρ0 hE
  conv => whnf
  refine SWx_addKey 45 (blk := fblk []) rfl rfl ?_
  refine SWx_addKey 212 (blk := fblk []) rfl rfl ?_
  refine SWx_addKey 238 (blk := fblk []) rfl rfl ?_
  refine SWx_addKey 246 (blk := fblk []) rfl rfl ?_
  refine SWx_addKey 248 (blk := fblk []) rfl rfl ?_
  refine by_tail ?_
  apply Exists.intro
  apply And.intro
  case right =>
    intro tail
    refine SWx_go hE ?_
    rcases f3 with ⟨rfl, rfl⟩ | ⟨rfl, rfl⟩ | ⟨rfl, rfl⟩
    all_goals rcases g3 with ⟨rfl, rfl⟩ | ⟨rfl, rfl⟩ | ⟨rfl, rfl⟩
    all_goals
      conv => whnf
      (repeat ((first | refine step_w1 rfl rfl ?_ | refine step_w2 rfl rfl ?_ | refine step_i (by kernel_rfl) ?_ | refine step_oN (by first | omega | decide | (simp only [tiB5, tiB66, tiB3, tiB2, tiB9, tiB43, tiB87, tiB29, tiB33, tiB41, tiB35, tiB4, tiB83, tiB85, tiB121, tiB31, tiB82, tiB37, dlen, List.length_replicate, List.length_set, List.length_map, List.length_zipWith, List.length_take, List.length_append, List.length_cons, List.length_nil]; omega)) ?_ | refine g_c (by assumption) ?_ | refine g_o (op_pickT rfl (ev_ok rfl) (ev_ok rfl)) ?_ | refine g_o (op_pickF rfl (ev_ok rfl) (ev_ok rfl)) ?_ | rw [bne_self_eq_false] | refine tst_ff t4 ?_ | refine tst_ff t6 ?_ | refine tst_ff tz ?_ | refine tst_tt f1 ?_ | refine tst_ff f1 ?_ | refine tst_tt f2 ?_ | refine tst_ff f2 ?_ | refine tst_tt g1 ?_ | refine tst_ff g1 ?_ | refine g_o (op_lenM rfl rfl rfl (ev_ok rfl) (tgt rfl) rfl) ?_ | refine g_o (op_lenA rfl rfl rfl (ev_ok rfl) (tgt rfl) rfl) ?_ | refine g_o (op_makeF rfl (ev_ok rfl) (ev_ok rfl) (tgt rfl) rfl (tgt rfl) rfl rfl (by simp only [tiB43]; omega)) ?_ | refine ⟨_, op_neAgg tabOK goodOK rfl (ev_ok rfl) (ev_ok rfl) rfl rfl rfl rfl (q_eq (rfl)) q_guard, ?_⟩ | rw [t1] | rw [t2] | rw [t3] | rw [t4] | rw [t6] | rw [tz] | rw [f1] | rw [f2] | rw [g1] | rw [g2] | rw [t5] | rw [e2] | rw [Nat.zero_add]); conv => whnf))
      refine SW_loopN hE (fun k => k) [0, 1, 11, 192, 193, 194] [11, 212, 238, 246, 248] (fun m fr hp => ∃ j : Nat, m = 4 - j ∧ j ≤ 4 ∧ fr = [(0, iv R), (1, iv C), (11, .ptr 11 0 0 0), (192, ivec .i64 L), (193, iv (4 : Nat)), (194, iv (j : Nat))] ∧
        hp = [(11, mblk R C (zL N)), (212, fblk []), (238, fblk []), (246, fblk []), (248, fblk [])]) 4 ?_ ?_ tail.out
      · kernel_rfl
      · exact ⟨0, rfl, Nat.zero_le _, by rw [← hLd]; rfl, rfl⟩
  clear hLd kA kR kC kP kQ k0 km tz t1 t2 t3 t4 t5 t6 f1 f2 g1 g2 e1 e2 f3 g3
  rintro m _ _ ⟨j, rfl, hj, rfl, rfl⟩
  conv => whnf
  by_cases hlt : j < 4
  · have t7 : decide ((j : Int) < ((4 : Nat) : Int)) = true := dlt hlt
    have t8 := winc (i := j) (by omega)
    rcases hL j hlt with h | h
    · (repeat ((first | refine step_w2 rfl rfl ?_ | refine g_o (op_pickF rfl (ev_ok rfl) (ev_ok rfl)) ?_ | rw [bne_self_eq_false] | refine tst_tt t7 ?_ | refine g_o (op_loadA rfl (ev_ok rfl) (tgt rfl) rfl (Nat.succ_ne_zero _) rfl) ?_ | refine g_o (op_indexN (α := Int) (d := 0) rfl (ev_ok rfl) (ev_ok rfl) (tgt rfl) rfl (tgt rfl) rfl (by omega)) ?_ | rw [t7] | rw [h] | rw [t8]); conv => whnf))
      exact ⟨4 - (j + 1), fun k => k, [0, 1, 11, 192, 193, 194], [11, 212, 238, 246, 248], by omega, by kernel_rfl, j + 1, rfl, hlt, rfl, rfl⟩
    · (repeat ((first | refine step_w1 rfl rfl ?_ | refine step_w2 rfl rfl ?_ | refine g_o (op_pickT rfl (ev_ok rfl) (ev_ok rfl)) ?_ | rw [bne_self_eq_false] | refine tst_tt t7 ?_ | refine g_o (op_loadA rfl (ev_ok rfl) (tgt rfl) rfl (Nat.succ_ne_zero _) rfl) ?_ | refine g_o (op_indexN (α := Int) (d := 0) rfl (ev_ok rfl) (ev_ok rfl) (tgt rfl) rfl (tgt rfl) rfl (by omega)) ?_ | rw [t7] | rw [h] | rw [t8]); conv => whnf))
      exact ⟨4 - (j + 1), fun k => k, [0, 1, 11, 192, 193, 194], [11, 212, 238, 246, 248], by omega, by kernel_rfl, j + 1, rfl, hlt, rfl, rfl⟩
  · have t7 : decide ((j : Int) < ((4 : Nat) : Int)) = false := dge hlt
    (repeat ((first | refine step_i (by kernel_rfl) ?_ | refine g_c (by assumption) ?_ | refine tst_ff t7 ?_ | refine g_o (op_makeF rfl (ev_ok rfl) (ev_ok rfl) (tgt rfl) rfl (tgt rfl) rfl rfl (by simp only [tiB43]; omega)) ?_ | rw [t7] | rw [u1] | rw [u2] | rw [u3]); conv => whnf))
    by_cases hR2 : R = 2048
    · have w1 : ((R : Int) == 2048) = true := beq_iff_eq.2 (by omega)
      (repeat ((first | refine step_w1 rfl rfl ?_ | refine step_w2 rfl rfl ?_ | refine g_c (by assumption) ?_ | refine g_o (op_pickT rfl (ev_ok rfl) (ev_ok rfl)) ?_ | rw [w1]); conv => whnf)); (first | exact Recast.refl _ | exact Frz.recast (Recast.refl _) rfl | (refine Frz.one rfl rfl ?_; skip) | (refine Frz.tup ?_; skip))
    · have w1 : ((R : Int) == 2048) = false := beq_false_of_ne (by omega)
      by_cases hC2 : C = 2048
      · have w2 : ((C : Int) == 2048) = true := beq_iff_eq.2 (by omega)
        (repeat ((first | refine step_w1 rfl rfl ?_ | refine g_c (by assumption) ?_ | refine g_o (op_pickF rfl (ev_ok rfl) (ev_ok rfl)) ?_ | refine tst_tt w2 ?_ | rw [w1]); conv => whnf)); (first | exact Recast.refl _ | exact Frz.recast (Recast.refl _) rfl | (refine Frz.one rfl rfl ?_; skip) | (refine Frz.tup ?_; skip))
      · have w2 : ((C : Int) == 2048) = false := beq_false_of_ne (by omega)
        obtain rfl := hs1 hR2
        obtain rfl := hs2 hR2
        obtain rfl := hs3 hC2
        obtain rfl := hs4 (by omega)
        obtain rfl := hs5 (by omega)
        (repeat ((first | refine step_w1 rfl rfl ?_ | refine g_c (by assumption) ?_ | refine g_o (op_pickT rfl (ev_ok rfl) (ev_ok rfl)) ?_ | refine g_o (op_pickF rfl (ev_ok rfl) (ev_ok rfl)) ?_ | refine tst_ff w2 ?_ | rw [w1]); conv => whnf)); (first | exact Recast.refl _ | exact Frz.recast (Recast.refl _) rfl | (refine Frz.one rfl rfl ?_; skip) | (refine Frz.tup ?_; skip))
theorem law_MatsErrors (a0 a1 a2 a3 a4 : Int) (w0 : (Lit.int .i64 a0).wf = true) (w1 : (Lit.int .i64 a1).wf = true) (w2 : (Lit.int .u8 a2).wf = true) (_w3 : (Lit.int .i64 a3).wf = true) (_w4 : (Lit.int .i64 a4).wf = true) :
    CallOK Tryz.prog 8 [iel .i64 a0, iel .i64 a1, iel .u8 a2, iel .i64 a3, iel .i64 a4] [] (.val (.bool true)) [] [] := by
  by_cases h : checkF a0 a1 (a2 % 60).toNat = 0
  · have hs : sidesF a0 a1 = 0 := by
      refine Classical.byContradiction fun hs => ?_
      unfold checkF at h
      rw [if_pos hs] at h
      exact hs h
    obtain ⟨h1, h2⟩ := sides_ok hs
    have h3 : (((a2 % 60).toNat : Nat) : Int) = a0 * a1 := by
      refine Classical.byContradiction fun h3 => ?_
      unfold checkF at h
      rw [hs, if_neg (by decide), if_pos h3] at h
      exact absurd h (by decide)
    obtain ⟨R, rfl⟩ := Int.eq_ofNat_of_zero_le h1.1
    obtain ⟨C, rfl⟩ := Int.eq_ofNat_of_zero_le h2.1
    exact c_MErrOk R C a2 a3 a4 (wf_u8 w2) (by omega) (by omega) (by rw [← Int.natCast_mul] at h3; omega)
  · exact c_MErrBad a0 a1 a2 a3 a4 (wf_u8 w2) (wf_i64 w0) (wf_i64 w1) h
end Go.Proofs.YtcincnngdohfnaaGreatDoor

namespace Go.Proofs.YtcincnngdohfnaaGreatDoor.matsErrors
open Go.ChangeShapes Go.WideShapes Go.ChangeAt Go.RowKit Go.Sx
set_option maxRecDepth 100000
set_option linter.unusedSimpArgs false

theorem own : ownKnob Tryz.prog.godebug = none := by kernel_rfl
theorem laidOut : laidOutB Tryz.prog = true := by kernel_rfl
theorem params : Tryz.f8.params.toList.all (fun t => Tryz.prog.readableRec t && decide (t < Tryz.prog.types.size)) = true := by kernel_rfl
theorem gTab0 : Tryz.prog.globalNamed "math/bits.deBruijn32tab" = some 3 := by kernel_rfl
theorem gTabType0 : (Tryz.prog.globals[3]?).map (·.type) = some 245 := by kernel_rfl
theorem cellsA0 : Tryz.prog.cellsOf 245 = 32 := by kernel_rfl
theorem cellsE0 : Tryz.prog.cellsOf 5 = 1 := by kernel_rfl
theorem gTab1 : Tryz.prog.globalNamed "math/bits.deBruijn64tab" = some 4 := by kernel_rfl
theorem gTabType1 : (Tryz.prog.globals[4]?).map (·.type) = some 246 := by kernel_rfl
theorem cellsA1 : Tryz.prog.cellsOf 246 = 64 := by kernel_rfl
theorem cellsE1 : Tryz.prog.cellsOf 5 = 1 := by kernel_rfl
theorem gTab2 : Tryz.prog.globalNamed "internal/strconv.uint64pow10" = some 2 := by kernel_rfl
theorem gTabType2 : (Tryz.prog.globals[2]?).map (·.type) = some 242 := by kernel_rfl
theorem cellsA2 : Tryz.prog.cellsOf 242 = 20 := by kernel_rfl
theorem cellsE2 : Tryz.prog.cellsOf 35 = 1 := by kernel_rfl
/-- What the row's list gives: the tables' cells hold their numbers. -/
theorem table {W : World} (h : laidMetH Tryz.prog Rows.matsErrorsRow.laid W) : TabsW W := by
  intro g kd l hm
  have h0 : laidMet Tryz.prog Rows.matsErrorsRow.laid W := h
  have ht0 : Lib.TabIs Tryz.prog W "math/bits.deBruijn32tab" .u8 [0, 1, 28, 2, 29, 14, 24, 3, 30, 22, 20, 15, 25, 17, 4, 8, 31, 27, 13, 23, 21, 19, 16, 7, 26, 12, 18, 6, 11, 5, 10, 9] := Lib.tabIs_of_head gTab0 gTabType0 Tryz.underlying245 Tryz.underlying5 cellsE0 cellsA0 h0
  have h1 := laid_tail h0
  have ht1 : Lib.TabIs Tryz.prog W "math/bits.deBruijn64tab" .u8 [0, 1, 56, 2, 57, 49, 28, 3, 61, 58, 42, 50, 38, 29, 17, 4, 62, 47, 59, 36, 45, 43, 51, 22, 53, 39, 33, 30, 24, 18, 12, 5, 63, 55, 48, 27, 60, 41, 37, 16, 46, 35, 44, 21, 52, 32, 23, 11, 54, 26, 40, 15, 34, 20, 31, 10, 25, 14, 19, 9, 13, 8, 7, 6] := Lib.tabIs_of_head gTab1 gTabType1 Tryz.underlying246 Tryz.underlying5 cellsE1 cellsA1 h1
  have h2 := laid_tail h1
  have ht2 : Lib.TabIs Tryz.prog W "internal/strconv.uint64pow10" .u64 [1, 10, 100, 1000, 10000, 100000, 1000000, 10000000, 100000000, 1000000000, 10000000000, 100000000000, 1000000000000, 10000000000000, 100000000000000, 1000000000000000, 10000000000000000, 100000000000000000, 1000000000000000000, 10000000000000000000] := Lib.tabIs_of_head gTab2 gTabType2 Tryz.underlying242 Tryz.underlying35 cellsE2 cellsA2 h2
  simp only [globTabs, List.mem_cons, List.not_mem_nil, or_false, Prod.mk.injEq] at hm
  rcases hm with ⟨rfl, rfl, rfl⟩ | ⟨rfl, rfl, rfl⟩ | ⟨rfl, rfl, rfl⟩
  · refine ⟨by simp, fun j x hx => by rw [ht0.cell gTab0 j (List.getElem?_eq_some_iff.1 hx).1, List.getD_eq_getElem?_getD, hx]; rfl, ?_⟩
    exact tab_heap gTab0 ht0
  · refine ⟨by simp, fun j x hx => by rw [ht1.cell gTab1 j (List.getElem?_eq_some_iff.1 hx).1, List.getD_eq_getElem?_getD, hx]; rfl, ?_⟩
    exact tab_heap gTab1 ht1
  · refine ⟨by simp, fun j x hx => by rw [ht2.cell gTab2 j (List.getElem?_eq_some_iff.1 hx).1, List.getD_eq_getElem?_getD, hx]; rfl, ?_⟩
    exact tab_heap gTab2 ht2

/-- The contract, over values. -/
theorem called (a0 : Int) (a1 : Int) (a2 : Int) (a3 : Int) (a4 : Int) (w0 : (Lit.int .i64 a0).wf = true) (w1 : (Lit.int .i64 a1).wf = true) (w2 : (Lit.int .u8 a2).wf = true) (w3 : (Lit.int .i64 a3).wf = true) (w4 : (Lit.int .i64 a4).wf = true) : CallOK Tryz.prog 8 [(iel .i64) a0, (iel .i64) a1, (iel .u8) a2, (iel .i64) a3, (iel .i64) a4] [] (.val (.bool true)) [] [] := law_MatsErrors a0 a1 a2 a3 a4 w0 w1 w2 w3 w4

theorem contract (H : Type) (enc : TypeId × Value → H) (W : World) (base : Nat) (args : Array Value) (ds gs : List (DataW H)) (before : List MemPlace)
    (hval : ∀ (j : Nat) t v, Tryz.f8.params[j]? = some t → args[j]? = some v → Value.okWide Tryz.prog W .any base t v)
    (hW : DataW.Whole enc Tryz.prog Tryz.f8.params.toList Rows.matsErrorsSpec.vars false W args.toList ds gs before) (hL : laidMetH Tryz.prog Rows.matsErrorsRow.laid W) :
    Calls Tryz.prog 8 args W fun e W' => ∃ v, e = .returned v ∧ Rows.matsErrorsSpec.post enc Tryz.prog Tryz.f8 false true false false W args v W' := by
  have hW' := hW
  obtain ⟨p, q, hA0, hV, rfl, hfz, hnd⟩ := hW
  have hA : DataW.TrodAll enc Tryz.prog W 0 (fun _ => true) true Tryz.f8.params.toList args.toList ds p := hA0
  rw [Tryz.params8] at hA hval
  obtain ⟨v0, vs0, d0, ds0, p0, q0, hargs, rfl, rfl, h0, r0⟩ := trodAll_cons hA
  obtain ⟨v1, vs1, d1, ds1, p1, q1, rfl, rfl, rfl, h1, r1⟩ := trodAll_cons r0
  obtain ⟨v2, vs2, d2, ds2, p2, q2, rfl, rfl, rfl, h2, r2⟩ := trodAll_cons r1
  obtain ⟨v3, vs3, d3, ds3, p3, q3, rfl, rfl, rfl, h3, r3⟩ := trodAll_cons r2
  obtain ⟨v4, vs4, d4, ds4, p4, q4, rfl, rfl, rfl, h4, r4⟩ := trodAll_cons r3
  obtain ⟨rfl, rfl, rfl⟩ := trodAll_nil r4
  obtain rfl : args = #[v0, v1, v2, v3, v4] := by cases args; simp_all
  obtain ⟨rfl, rfl⟩ := trodVars_none hV
  have hg := table hL
  obtain ⟨n0, t0⟩ := h0
  obtain ⟨a0, w0, c0⟩ := (show Opens enc Tryz.prog hg 3 (iel .i64) (fun a => (Lit.int .i64 a).wf = true) from Opens.int Tryz.underlying3) _ _ _ t0
  have e0 : mkV ((iel .i64) a0) v0.cells.toList = v0 := by obtain ⟨_, rfl⟩ := okWide_int Tryz.underlying3 (hval 0 3 v0 rfl rfl); exact mkV_one rfl (by simp [Value.cells])
  obtain ⟨n1, t1⟩ := h1
  obtain ⟨a1, w1, c1⟩ := (show Opens enc Tryz.prog hg 3 (iel .i64) (fun a => (Lit.int .i64 a).wf = true) from Opens.int Tryz.underlying3) _ _ _ t1
  have e1 : mkV ((iel .i64) a1) v1.cells.toList = v1 := by obtain ⟨_, rfl⟩ := okWide_int Tryz.underlying3 (hval 1 3 v1 rfl rfl); exact mkV_one rfl (by simp [Value.cells])
  obtain ⟨n2, t2⟩ := h2
  obtain ⟨a2, w2, c2⟩ := (show Opens enc Tryz.prog hg 5 (iel .u8) (fun a => (Lit.int .u8 a).wf = true) from Opens.int Tryz.underlying5) _ _ _ t2
  have e2 : mkV ((iel .u8) a2) v2.cells.toList = v2 := by obtain ⟨_, rfl⟩ := okWide_int Tryz.underlying5 (hval 2 5 v2 rfl rfl); exact mkV_one rfl (by simp [Value.cells])
  obtain ⟨n3, t3⟩ := h3
  obtain ⟨a3, w3, c3⟩ := (show Opens enc Tryz.prog hg 3 (iel .i64) (fun a => (Lit.int .i64 a).wf = true) from Opens.int Tryz.underlying3) _ _ _ t3
  have e3 : mkV ((iel .i64) a3) v3.cells.toList = v3 := by obtain ⟨_, rfl⟩ := okWide_int Tryz.underlying3 (hval 3 3 v3 rfl rfl); exact mkV_one rfl (by simp [Value.cells])
  obtain ⟨n4, t4⟩ := h4
  obtain ⟨a4, w4, c4⟩ := (show Opens enc Tryz.prog hg 3 (iel .i64) (fun a => (Lit.int .i64 a).wf = true) from Opens.int Tryz.underlying3) _ _ _ t4
  have e4 : mkV ((iel .i64) a4) v4.cells.toList = v4 := by obtain ⟨_, rfl⟩ := okWide_int Tryz.underlying3 (hval 4 3 v4 rfl rfl); exact mkV_one rfl (by simp [Value.cells])
  have hz : HasZ (allRho hg) [(iel .i64) a0, (iel .i64) a1, (iel .u8) a2, (iel .i64) a3, (iel .i64) a4] [v0.cells.toList, v1.cells.toList, v2.cells.toList, v3.cells.toList, v4.cells.toList] := by simp only [HasZ]; exact ⟨_, _, rfl, c0, _, _, rfl, c1, _, _, rfl, c2, _, _, rfl, c3, _, _, rfl, c4, rfl⟩
  have hr := law_runA ⟨Tryz.f8, Tryz.func8, rfl, by kernel_rfl⟩ (called a0 a1 a2 a3 a4 w0 w1 w2 w3 w4) hg hz
  simp only [List.zipWith_cons_cons, List.zipWith_nil_left, List.zipWith_nil_right, e0, e1, e2, e3, e4] at hr
  refine hr.mono fun e W' ⟨he, hb⟩ => ?_
  subst he
  exact ⟨_, rfl, law_post laidOut params rfl rfl Tryz.underlying4 hW' ⟨rfl, rfl, rfl⟩ hb⟩

/-- A world for the witness: the settled one, the tables holding what their texts lay. -/
noncomputable def laidWorld (os : Os) : World :=
  { World.holding Tryz.prog os ⟨#[], #[], []⟩ with heap := ((World.holding Tryz.prog os ⟨#[], #[], []⟩).heap |>.modify 3 (fun | .cells _ t frozen => .cells #[.int .u8 0, .int .u8 1, .int .u8 28, .int .u8 2, .int .u8 29, .int .u8 14, .int .u8 24, .int .u8 3, .int .u8 30, .int .u8 22, .int .u8 20, .int .u8 15, .int .u8 25, .int .u8 17, .int .u8 4, .int .u8 8, .int .u8 31, .int .u8 27, .int .u8 13, .int .u8 23, .int .u8 21, .int .u8 19, .int .u8 16, .int .u8 7, .int .u8 26, .int .u8 12, .int .u8 18, .int .u8 6, .int .u8 11, .int .u8 5, .int .u8 10, .int .u8 9] t frozen | o => o) |>.modify 4 (fun | .cells _ t frozen => .cells #[.int .u8 0, .int .u8 1, .int .u8 56, .int .u8 2, .int .u8 57, .int .u8 49, .int .u8 28, .int .u8 3, .int .u8 61, .int .u8 58, .int .u8 42, .int .u8 50, .int .u8 38, .int .u8 29, .int .u8 17, .int .u8 4, .int .u8 62, .int .u8 47, .int .u8 59, .int .u8 36, .int .u8 45, .int .u8 43, .int .u8 51, .int .u8 22, .int .u8 53, .int .u8 39, .int .u8 33, .int .u8 30, .int .u8 24, .int .u8 18, .int .u8 12, .int .u8 5, .int .u8 63, .int .u8 55, .int .u8 48, .int .u8 27, .int .u8 60, .int .u8 41, .int .u8 37, .int .u8 16, .int .u8 46, .int .u8 35, .int .u8 44, .int .u8 21, .int .u8 52, .int .u8 32, .int .u8 23, .int .u8 11, .int .u8 54, .int .u8 26, .int .u8 40, .int .u8 15, .int .u8 34, .int .u8 20, .int .u8 31, .int .u8 10, .int .u8 25, .int .u8 14, .int .u8 19, .int .u8 9, .int .u8 13, .int .u8 8, .int .u8 7, .int .u8 6] t frozen | o => o) |>.modify 2 (fun | .cells _ t frozen => .cells #[.int .u64 1, .int .u64 10, .int .u64 100, .int .u64 1000, .int .u64 10000, .int .u64 100000, .int .u64 1000000, .int .u64 10000000, .int .u64 100000000, .int .u64 1000000000, .int .u64 10000000000, .int .u64 100000000000, .int .u64 1000000000000, .int .u64 10000000000000, .int .u64 100000000000000, .int .u64 1000000000000000, .int .u64 10000000000000000, .int .u64 100000000000000000, .int .u64 1000000000000000000, .int .u64 10000000000000000000] t frozen | o => o)) }
theorem laid_met (os : Os) : laidMet Tryz.prog Rows.matsErrorsRow.laid ((laidWorld os).forCall (fun _ _ => 0) ⟨#[], #[.int .i64 0, .int .i64 0, .int .u8 0, .int .i64 0, .int .i64 0], []⟩).memory :=
  laidMet_of_run' 8 (by kernel_rfl) (by kernel_rfl)
theorem reads (os : Os) {H : Type} (enc : TypeId × Value → H) : ∃ places, DataW.whole enc Tryz.prog ((laidWorld os).forCall (fun _ _ => 0) ⟨#[], #[.int .i64 0, .int .i64 0, .int .u8 0, .int .i64 0, .int .i64 0], []⟩).memory Tryz.f8.params.toList Rows.matsErrorsSpec.vars false #[.int .i64 0, .int .i64 0, .int .u8 0, .int .i64 0, .int .i64 0].toList 8 = some ([.lit (.int .i64 0), .lit (.int .i64 0), .lit (.int .u8 0), .lit (.int .i64 0), .lit (.int .i64 0)], [], places) :=
  ⟨[], by kernel_rfl⟩

theorem lifted (os : Os) (started : os.Started) (H : Type) (enc : TypeId × Value → H) (F : Stop.Interp) :
    ReturnsInHanded {} Tryz.checked os 8 .any ((OpenSpec.ofChange Rows.matsErrorsSpec).preRow enc Tryz.prog Tryz.f8 Rows.matsErrorsRow.domain false Rows.matsErrorsRow.laid) (((OpenSpec.ofChange Rows.matsErrorsSpec).at F).post enc Tryz.prog Tryz.f8 false true false false) := by
  obtain ⟨places, hx⟩ := reads os enc
  refine returnsInHanded_of_row (C := Tryz.checked) (s := OpenSpec.ofChange Rows.matsErrorsSpec) own started (by kernel_rfl) Tryz.func8
    (witness_row_at (enc := enc) (C := Tryz.checked) false (laidWorld os) #[.int .i64 0, .int .i64 0, .int .u8 0, .int .i64 0, .int .i64 0] rfl (by kernel_rfl) (by kernel_rfl) (by kernel_rfl)
      (OpenSpec.preRow_of_cond 8 hx (by kernel_rfl) (fun k hk => by cases hk) (by kernel_rfl) (laid_met os))) ?_
  intro W base args ds gs before hval hW _ _ _ hL _ _
  exact contract H enc W base args ds gs before hval hW hL

theorem said : Rows.MatsErrorsSaid :=
  OpenClaim.holds_of_cond 8 Tryz.f8 rfl rfl rfl rfl rfl rfl rfl ⟨rfl, rfl, rfl, rfl, rfl⟩ rfl rfl rfl rfl rfl (by kernel_rfl) Tryz.func8 (by kernel_rfl)
    (of_decide_eq_true (by kernel_rfl)) (by unfold Func.isWrapper; first | (rw [if_pos (by decide +kernel)]; kernel_rfl) | (rw [if_neg (by decide +kernel)]; exact ⟨rfl, rfl⟩))
    (fun os started H enc _ F => by rw [OpenClaim.pre_eq_preRow]; exact lifted os started H enc F)

/-- No parameter wants a stand-in; the program's own looks are off. -/
theorem plain (f : FuncId) (fn : Func) (hf : Tryz.pinned.checked.prog.funcNamed "gusset/gussetlaw13.MatsErrors" = some f) (hfn : Tryz.pinned.checked.prog.funcs[f]? = some fn) :
    false = Tryz.pinned.checked.prog.looks [] ∧ ∀ (j : Nat) t, fn.params[j]? = some t → Tryz.pinned.checked.prog.wantsStandIn t = false := by
  obtain rfl : f = 8 := Option.some.inj ((show Tryz.prog.funcNamed "gusset/gussetlaw13.MatsErrors" = some 8 by kernel_rfl).symm.trans hf) |>.symm
  obtain rfl : fn = Tryz.f8 := (Option.some.inj (Tryz.func8.symm.trans hfn)).symm
  refine ⟨by kernel_rfl, fun j t ht => ?_⟩
  have hall : (Tryz.f8.params.toList.all fun t => !Tryz.prog.wantsStandIn t) = true := by kernel_rfl
  have := List.all_eq_true.1 hall t (by simpa using Array.mem_of_getElem? ht)
  exact (show Tryz.prog.wantsStandIn t = false by simpa using this)

/-- The card. -/
theorem card : Rows.MatsErrorsCardSaid :=
  Claim7.holds_tied_plain_at .later [] _ _ _ _ said (fun _ h => by cases h) (by kernel_rfl) (fun _ h => by cases h) matsErrors_row_tie rfl ⟨rfl, rfl⟩ (by kernel_rfl) rfl plain (by kernel_rfl)
#print axioms card
end Go.Proofs.YtcincnngdohfnaaGreatDoor.matsErrors
