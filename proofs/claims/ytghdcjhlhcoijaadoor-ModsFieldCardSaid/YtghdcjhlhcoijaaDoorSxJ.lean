/- Slices, strings, building. -/
import Derived.Test.YtghdcjhlhcoijaaDoorSxF
import Derived.Laws.MakeOwn
import Derived.Laws.BytesString
namespace Go.Sx

/-- What a slice value is. -/
theorem has_slc {ρ : Rho} {k s i n : Nat} {v : Value} (h : Has ρ (.slc k s i n) v) :
    (∃ b t cap, ρ.key k = some (b, t) ∧ n ≤ cap ∧ (i + cap) * s ≤ t ∧ v = .slice (some ⟨b, i * s, none⟩) n cap) ∨ (n = 0 ∧ ∃ a, v = .slice a 0 0) := by
  simp only [Has, HasC] at h
  obtain ⟨x, h1, rfl⟩ := h
  rcases h1 with ⟨b, t, cap, e1, e2, e3, rfl⟩ | ⟨e1, a, rfl⟩
  · exact .inl ⟨b, t, cap, e1, e2, e3, by simp [mkV, SV.isOne]⟩
  · exact .inr ⟨e1, a, by simp [mkV, SV.isOne]⟩

theorem slc_has {ρ : Rho} {k s i n : Nat} {v : Value} (h : (∃ b t cap, ρ.key k = some (b, t) ∧ n ≤ cap ∧ (i + cap) * s ≤ t ∧ v = .slice (some ⟨b, i * s, none⟩) n cap) ∨ (n = 0 ∧ ∃ a, v = .slice a 0 0)) : Has ρ (.slc k s i n) v := by
  simp only [Has, HasC]
  refine ⟨[v], ?_, by simp [mkV, SV.isOne]⟩
  rcases h with ⟨b, t, cap, e1, e2, e3, rfl⟩ | ⟨e1, a, rfl⟩
  · exact .inl ⟨b, t, cap, e1, e2, e3, rfl⟩
  · exact .inr ⟨e1, a, rfl⟩

theorem has_ptr {ρ : Rho} {k s i r : Nat} {v : Value} (h : Has ρ (.ptr k s i r) v) : ∃ b t, ρ.key k = some (b, t) ∧ v = .pointer (some ⟨b, i * s + r, none⟩) := by
  simp only [Has, HasC] at h
  obtain ⟨_, ⟨b, n, hkey, rfl⟩, rfl⟩ := h
  exact ⟨b, n, hkey, by simp [mkV, SV.isOne]⟩

theorem ptr_has {ρ : Rho} {k s i r b t : Nat} (h : ρ.key k = some (b, t)) : Has ρ (.ptr k s i r) (.pointer (some ⟨b, i * s + r, none⟩)) := by
  simp only [Has, HasC]
  exact ⟨_, ⟨b, t, h, rfl⟩, by simp [mkV, SV.isOne]⟩

section
variable {P : Program} {o : Oper} {ft : List (Nat × SV)} {fk : List (Nat × Blk)}

theorem op_nilCheck {x : Operand} {k s i r : Nat} (ho : o.op = .nilCheck x) (hx : EvOK ft x (.ptr k s i r)) : OpOK P o ft fk (.ptr k s i r) [] [] :=
  ok_pure fun ρ a w hp => by
    obtain ⟨b, t, h1, h2⟩ := has_ptr (hx ρ a hp.hft)
    exact ⟨_, by simp [execOp, ho, h2], ptr_has h1⟩

theorem op_nilCheckF {x : Operand} {f : FuncId} {first cap : List SV} (ho : o.op = .nilCheck x) (hx : EvOK ft x (.clo f first cap)) : OpOK P o ft fk (.clo f first cap) [] [] :=
  ok_pure fun ρ a w hp => by
    have h := hx ρ a hp.hft
    have h' := h
    simp only [Has, HasC] at h'
    obtain ⟨_, ⟨fz, cz, _, _, rfl⟩, hv⟩ := h'
    simp only [mkV, SV.isOne, if_true, List.headD_cons] at hv
    exact ⟨_, by simp [execOp, ho, hv], hv ▸ h⟩

theorem op_indexAddr {t e : TypeId} {x ix : Operand} {ti te : TI} {k s i n : Nat} {kd : IntKind} {j : Int} (ho : o.op = .indexAddr t x ix) (hx : EvOK ft x (.slc k s i n)) (hi : EvOK ft ix (.val (.int kd j)))
    (ht : TOK P t ti) (hk : ti.kind = .slc e) (he : TOK P e te) (hs : te.size = s) (h0 : 0 ≤ j) (hj : j < n) : OpOK P o ft fk (.ptr k s (i + j.toNat) 0) [] [] :=
  ok_pure fun ρ a w hp => by
    have e2 := of_has_val (hi ρ a hp.hft)
    have hu := ht.kind; rw [hk] at hu
    rcases has_slc (hx ρ a hp.hft) with ⟨b, t', cap, h1, h2, h3, h4⟩ | ⟨h1, _⟩
    · refine ⟨.pointer (some ⟨b, (i + j.toNat) * s + 0, none⟩), ?_, ptr_has h1⟩
      have hadd : (⟨b, i * s, none⟩ : Addr).add (j.toNat * s) = ⟨b, (i + j.toNat) * s + 0, none⟩ := by
        unfold Addr.add
        rw [Nat.add_mul]
        split
        · rename_i h0; simp [h0]
        · rfl
      have hj' : 0 ≤ j ∧ j < (n : Int) := ⟨h0, hj⟩
      simp only [execOp, ho, Instr.indexAt, e2, h4, asIntOf, Sem.run_bind, Sem.run_pure, Result.andThen_ok, run_underlying hu, hj', and_self, if_true, he.sizeOf, hs, hadd]
    · omega

theorem op_indexArr {t e : TypeId} {x ix : Operand} {ti te : TI} {k s i r n : Nat} {kd : IntKind} {j : Int} (ho : o.op = .indexAddr t x ix) (hx : EvOK ft x (.ptr k s i r)) (hi : EvOK ft ix (.val (.int kd j)))
    (ht : TOK P t ti) (hk : ti.kind = .arr n e) (he : TOK P e te) (h0 : 0 ≤ j) (hj : j < n) : OpOK P o ft fk (.ptr k s i (r + j.toNat * te.size)) [] [] :=
  ok_pure fun ρ a w hp => by
    have e2 := of_has_val (hi ρ a hp.hft)
    have hu := ht.kind; rw [hk] at hu
    obtain ⟨b, t', h1, h2⟩ := has_ptr (hx ρ a hp.hft)
    refine ⟨.pointer (some ⟨b, i * s + (r + j.toNat * te.size), none⟩), ?_, ptr_has h1⟩
    have hadd : (⟨b, i * s + r, none⟩ : Addr).add (j.toNat * te.size) = ⟨b, i * s + (r + j.toNat * te.size), none⟩ := by
      unfold Addr.add
      split
      · rename_i h0; simp [h0]
      · simp [Nat.add_assoc]
    have hj' : 0 ≤ j ∧ j < (n : Int) := ⟨h0, hj⟩
    simp only [execOp, ho, Instr.indexAt, e2, h2, asIntOf, Sem.run_bind, Sem.run_pure, Result.andThen_ok, run_underlying hu, Instr.sureAddr, hj', and_self, if_true, he.sizeOf, hadd]

/-- A byte of a string. -/
theorem op_strIndex {t : TypeId} {x ix : Operand} {ti : TI} {s : ByteArray} {kd : IntKind} {j : Int} (ho : o.op = .index t x ix) (hx : EvOK ft x (.val (.string s))) (hi : EvOK ft ix (.val (.int kd j)))
    (ht : TOK P t ti) (hk : ti.kind = .str) (h0 : 0 ≤ j) (hj : j < s.size) : OpOK P o ft fk (.val (.int .u8 (((s.data.getD j.toNat 0).toNat : Nat) : Int))) [] [] :=
  ok_pure fun ρ a w hp => by
    have e1 := of_has_val (hx ρ a hp.hft)
    have e2 := of_has_val (hi ρ a hp.hft)
    have hu := ht.kind; rw [hk] at hu
    refine ⟨_, ?_, has_val rfl⟩
    have hlt : j.toNat < s.size := by omega
    have hg : s[j.toNat]? = some (s.data.getD j.toNat 0) := by
      have hlt' : j.toNat < s.data.size := hlt
      rw [Array.getD_eq_getD_getElem?, getElem?_pos s j.toNat hlt, Array.getElem?_eq_getElem hlt']
      rfl
    simp only [execOp, ho, Instr.index, e1, e2, asIntOf, Sem.run_bind, Sem.run_pure, Result.andThen_ok, run_underlying hu, h0, if_true, hg]

def lenOfS : SV → Option Int
  | .slc _ _ _ n => some (n : Int)
  | .val (.string s) => some (s.size : Int)
  | .val (.slice _ n _) => some (n : Int)
  | _ => none

theorem op_len {x : Operand} {xs : Array Operand} {t : TypeId} {ts : Array TypeId} {c : SV} {n : Int} {ti : TI} (ho : o.op = .call ⟨.builtin .len, xs, ts⟩) (hxs : xs = #[x]) (hts : ts = #[t]) (hx : EvOK ft x c) (hn : lenOfS c = some n) (ht : TOK P t ti)
    (hk : ti.kind = .str ∧ (∃ s, c = .val (.string s)) ∨ (∃ e, ti.kind = .slc e) ∧ (∀ s, c ≠ .val (.string s))) : OpOK P o ft fk (.val (.int .i64 n)) [] [] :=
  ok_pure fun ρ a w hp => by
    have hv := hx ρ a hp.hft
    refine ⟨_, ?_, has_val rfl⟩
    have hu := ht.kind
    rcases hk with ⟨hk, s, rfl⟩ | ⟨⟨e, hk⟩, hns⟩
    · rw [hk] at hu
      have e1 := of_has_val hv
      simp only [lenOfS, Option.some.injEq] at hn
      subst hn
      simp [execOp, ho, hxs, hts, resolve, invoke, builtin, Builtin.len_, run_underlying hu, e1, goInt]
    · rw [hk] at hu
      cases c <;> simp only [lenOfS, reduceCtorEq] at hn
      case slc k s i m =>
        simp only [Option.some.injEq] at hn
        subst hn
        rcases has_slc hv with ⟨b, t', cap, _, _, _, h4⟩ | ⟨rfl, a', h4⟩
        · simp [execOp, ho, hxs, hts, resolve, invoke, builtin, Builtin.len_, run_underlying hu, h4, goInt]
        · simp [execOp, ho, hxs, hts, resolve, invoke, builtin, Builtin.len_, run_underlying hu, h4, goInt]
      case val v =>
        have e1 := of_has_val hv
        cases v <;> simp only [Option.some.injEq, reduceCtorEq] at hn
        case string s => exact absurd rfl (hns s)
        case slice a' m cap =>
          subst hn
          simp [execOp, ho, hxs, hts, resolve, invoke, builtin, Builtin.len_, run_underlying hu, e1, goInt]

theorem op_min {xs : Array Operand} {ts : Array TypeId} {x y : Operand} {k k' : IntKind} {a b : Int} (ho : o.op = .call ⟨.builtin .min, xs, ts⟩) (hxs : xs = #[x, y]) (hx : EvOK ft x (.val (.int k a))) (hy : EvOK ft y (.val (.int k' b))) :
    OpOK P o ft fk (.val (.int k (if b < a then b else a))) [] [] :=
  ok_pure fun ρ ac w hp => by
    have e1 := of_has_val (hx ρ ac hp.hft)
    have e2 := of_has_val (hy ρ ac hp.hft)
    refine ⟨_, ?_, has_val rfl⟩
    simp [execOp, ho, hxs, resolve, invoke, builtin, e1, e2, run_min_int2]

theorem op_max {xs : Array Operand} {ts : Array TypeId} {x y : Operand} {k k' : IntKind} {a b : Int} (ho : o.op = .call ⟨.builtin .max, xs, ts⟩) (hxs : xs = #[x, y]) (hx : EvOK ft x (.val (.int k a))) (hy : EvOK ft y (.val (.int k' b))) :
    OpOK P o ft fk (.val (.int k (if b > a then b else a))) [] [] :=
  ok_pure fun ρ ac w hp => by
    have e1 := of_has_val (hx ρ ac hp.hft)
    have e2 := of_has_val (hy ρ ac hp.hft)
    refine ⟨_, ?_, has_val rfl⟩
    simp [execOp, ho, hxs, resolve, invoke, builtin, e1, e2, run_max_int2]

/-- 'x[lo:hi]' of a slice, within its length. -/
theorem op_slice {t e : TypeId} {x : Operand} {lo hi : Option Operand} {ti te : TI} {k s i n : Nat} {l h : Int} (ho : o.op = .slice t x lo hi none) (hx : EvOK ft x (.slc k s i n))
    (hlo : lo = none ∧ l = 0 ∨ ∃ y kd, lo = some y ∧ EvOK ft y (.val (.int kd l))) (hhi : hi = none ∧ h = n ∨ ∃ y kd, hi = some y ∧ EvOK ft y (.val (.int kd h)))
    (ht : TOK P t ti) (hk : ti.kind = .slc e) (he : TOK P e te) (hs : te.size = s) (h0 : 0 ≤ l) (hlh : l ≤ h) (hh : h ≤ n) : OpOK P o ft fk (.slc k s (i + l.toNat) (h - l).toNat) [] [] :=
  ok_pure fun ρ a w hp => by
    have hu := ht.kind; rw [hk] at hu
    have key : ∀ (ad : Option Addr) (m cap : Nat), n = m → m ≤ cap → a.eval x = .slice ad m cap →
        (execOp a.eval o).run P w = .ok (.value (.slice (if cap = l.toNat then ad else ad.map (·.add (l.toNat * s))) (h.toNat - l.toNat) (cap - l.toNat))) w := by
      intro ad m cap hnm hmc hv
      have hhr : ∀ z : Operand, ∀ kd, EvOK ft z (.val (.int kd h)) → (Instr.sliceBound (a.eval z) cap .sliceAcap).run P w = .ok h.toNat w := by
        intro z kd hz
        have := of_has_val (hz ρ a hp.hft)
        have hb : 0 ≤ h ∧ h ≤ (cap : Int) := by omega
        simp [Instr.sliceBound, this, asIntOf, hb]
      have hlr : ∀ z : Operand, ∀ kd, EvOK ft z (.val (.int kd l)) → (Instr.sliceBound (a.eval z) h.toNat .sliceB).run P w = .ok l.toNat w := by
        intro z kd hz
        have := of_has_val (hz ρ a hp.hft)
        have hb : 0 ≤ l ∧ l ≤ (h.toNat : Int) := by omega
        simp only [Instr.sliceBound, this, asIntOf, Sem.run_bind, Sem.run_pure, Result.andThen_ok, hb, and_self, if_true]
      have hbnds : (Instr.sliceBounds true m cap (lo.map a.eval) (hi.map a.eval) none).run P w = .ok (l.toNat, h.toNat, cap) w := by
        unfold Instr.sliceBounds
        rcases hhi with ⟨rfl, rfl⟩ | ⟨z, kz, rfl, hz⟩ <;> rcases hlo with ⟨rfl, rfl⟩ | ⟨y, ky, rfl, hy⟩
        · simp [hnm]
        · have := hlr y ky hy; simp at this; rw [hnm] at this; simp [hnm, this]
        · simp [hhr z kz hz]
        · simp [hhr z kz hz, hlr y ky hy]
      simp only [execOp, ho, Option.map_none, Instr.sliceAt, Sem.run_bind, run_underlying hu, Result.andThen_ok, Instr.slice, hv, hbnds, he.sizeOf, hs, Sem.run_pure]
    rcases has_slc (hx ρ a hp.hft) with ⟨b, t', cap, h1, h2, h3, h4⟩ | ⟨rfl, ad, h4⟩
    · refine ⟨_, key _ n cap rfl h2 h4, slc_has ?_⟩
      by_cases hc : cap = l.toNat
      · right
        have : h.toNat - l.toNat = 0 := by omega
        refine ⟨by omega, some ⟨b, i * s, none⟩, ?_⟩
        rw [if_pos hc, this, hc, Nat.sub_self]
      · left
        refine ⟨b, t', cap - l.toNat, h1, by omega, ?_, ?_⟩
        · rw [show i + l.toNat + (cap - l.toNat) = i + cap from by omega]; exact h3
        · rw [if_neg hc]
          have hadd : (⟨b, i * s, none⟩ : Addr).add (l.toNat * s) = ⟨b, (i + l.toNat) * s, none⟩ := by
            unfold Addr.add
            rw [Nat.add_mul]
            split
            · rename_i h0; simp [h0]
            · rfl
          rw [Option.map_some, hadd, show (h - l).toNat = h.toNat - l.toNat from by omega]
    · refine ⟨_, key ad 0 0 rfl (Nat.le_refl _) h4, slc_has (.inr ⟨by omega, ad, ?_⟩)⟩
      have h1 : l.toNat = 0 := by omega
      have h2 : h.toNat = 0 := by omega
      simp [h1, h2]

/-- 'x[lo:hi]' of a string. -/
theorem op_strSlice {t : TypeId} {x : Operand} {lo hi : Option Operand} {ti : TI} {s : ByteArray} {l h : Int} (ho : o.op = .slice t x lo hi none) (hx : EvOK ft x (.val (.string s)))
    (hlo : lo = none ∧ l = 0 ∨ ∃ y kd, lo = some y ∧ EvOK ft y (.val (.int kd l))) (hhi : hi = none ∧ h = s.size ∨ ∃ y kd, hi = some y ∧ EvOK ft y (.val (.int kd h)))
    (ht : TOK P t ti) (hk : ti.kind = .str) (h0 : 0 ≤ l) (hlh : l ≤ h) (hh : h ≤ s.size) : OpOK P o ft fk (.val (.string (s.extract l.toNat h.toNat))) [] [] :=
  ok_pure fun ρ a w hp => by
    have hu := ht.kind; rw [hk] at hu
    have e1 := of_has_val (hx ρ a hp.hft)
    refine ⟨_, ?_, has_val rfl⟩
    have hhr : ∀ z : Operand, ∀ kd, EvOK ft z (.val (.int kd h)) → (Instr.sliceBound (a.eval z) s.size .sliceAlen).run P w = .ok h.toNat w := by
      intro z kd hz
      have := of_has_val (hz ρ a hp.hft)
      have hb : 0 ≤ h ∧ h ≤ (s.size : Int) := by omega
      simp [Instr.sliceBound, this, asIntOf, hb]
    have hlr : ∀ z : Operand, ∀ kd, EvOK ft z (.val (.int kd l)) → (Instr.sliceBound (a.eval z) h.toNat .sliceB).run P w = .ok l.toNat w := by
      intro z kd hz
      have := of_has_val (hz ρ a hp.hft)
      have hb : 0 ≤ l ∧ l ≤ (h.toNat : Int) := by omega
      simp only [Instr.sliceBound, this, asIntOf, Sem.run_bind, Sem.run_pure, Result.andThen_ok, hb, and_self, if_true]
    have hbnds : (Instr.sliceBounds false s.size s.size (lo.map a.eval) (hi.map a.eval) none).run P w = .ok (l.toNat, h.toNat, s.size) w := by
      unfold Instr.sliceBounds
      rcases hhi with ⟨rfl, rfl⟩ | ⟨z, kz, rfl, hz⟩ <;> rcases hlo with ⟨rfl, rfl⟩ | ⟨y, ky, rfl, hy⟩
      · simp
      · have := hlr y ky hy; simp at this; simp [this]
      · simp [hhr z kz hz]
      · simp [hhr z kz hz, hlr y ky hy]
    simp only [execOp, ho, Option.map_none, Instr.sliceAt, Sem.run_bind, run_underlying hu, Result.andThen_ok, Instr.slice, e1, Option.isSome_none, Bool.false_eq_true, if_false, hbnds, Sem.run_pure]
end
end Go.Sx
