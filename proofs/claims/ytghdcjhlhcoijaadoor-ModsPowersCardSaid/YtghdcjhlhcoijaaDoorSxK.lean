/- Making, appending, copying, turning into strings. -/
import Derived.Test.YtghdcjhlhcoijaaDoorSxJ
import Derived.Laws.Append
namespace Go.Sx

theorem elem_live {d : Data} {s i : Nat} {x : Option Prop × List SV} (h : elem d s i = some x) : d.live = true := by
  cases d <;> first | rfl | simp [elem] at h

/-! ### Rows: data as a list of elements' cells -/

def Rows (ρ : Rho) (s : Nat) : Data → List (List Value) → Prop
  | .ints kd xs, z => s = 1 ∧ z = xs.map (fun x => [.int kd x])
  | .fracs xs, z => s = 5 ∧ z = xs.map fracCells
  | .seq w xs, z => s = w ∧ HasZ ρ xs z ∧ ∀ x ∈ xs, x.width = w
  | .one _, _ => False
  | .dead, _ => False

def dlen : Data → Nat
  | .ints _ xs => xs.length
  | .fracs xs => xs.length
  | .seq _ xs => xs.length
  | _ => 0

def dwidth : Data → Option Nat
  | .ints _ _ => some 1
  | .fracs _ => some 5
  | .seq w _ => some w
  | _ => none

theorem HasZ_length {ρ : Rho} : ∀ {l : List SV} {z : List (List Value)}, HasZ ρ l z → z.length = l.length
  | [], z, h => by simp only [HasZ] at h; subst h; rfl
  | c :: l, z, h => by simp only [HasZ] at h; obtain ⟨x, r, rfl, _, h⟩ := h; simp [HasZ_length h]

theorem Rows.of {ρ : Rho} {d : Data} {s : Nat} {vs : List Value} (h : DataC ρ d vs) (hs : dwidth d = some s) : ∃ z, Rows ρ s d z ∧ vs = z.flatten := by
  cases d <;> simp only [dwidth, Option.some.injEq, reduceCtorEq] at hs <;> subst hs <;> simp only [DataC] at h
  case ints kd xs => exact ⟨_, ⟨rfl, rfl⟩, by rw [h, ← List.flatMap_def, List.map_eq_flatMap]⟩
  case fracs xs => exact ⟨_, ⟨rfl, rfl⟩, by rw [h, List.flatMap_def]⟩
  case seq xs => obtain ⟨z, h1, h2, h3⟩ := h; exact ⟨z, ⟨rfl, h1, h3⟩, h2⟩

theorem Rows.data {ρ : Rho} {d : Data} {s : Nat} {z : List (List Value)} (h : Rows ρ s d z) : DataC ρ d z.flatten := by
  cases d <;> simp only [Rows] at h <;> simp only [DataC]
  case ints kd xs => obtain ⟨_, rfl⟩ := h; rw [← List.flatMap_def, List.map_eq_flatMap]
  case fracs xs => obtain ⟨_, rfl⟩ := h; rw [List.flatMap_def]
  case seq w xs => exact ⟨z, h.2.1, rfl, h.2.2⟩

theorem Rows.len {ρ : Rho} {d : Data} {s : Nat} {z : List (List Value)} (h : Rows ρ s d z) : z.length = dlen d ∧ ∀ u ∈ z, u.length = s := by
  cases d <;> simp only [Rows] at h
  case ints kd xs => obtain ⟨rfl, rfl⟩ := h; simp [dlen]
  case fracs xs =>
    obtain ⟨rfl, rfl⟩ := h
    refine ⟨by simp [dlen], fun u hu => ?_⟩
    obtain ⟨x, _, rfl⟩ := List.mem_map.1 hu
    exact (fracCells_one x).1
  case seq w xs =>
    obtain ⟨rfl, h1, h2⟩ := h
    exact ⟨HasZ_length h1, fun u hu => HasZ_widths xs z h1 h2 u hu⟩

theorem flatten_take {s : Nat} : ∀ (z : List (List Value)) (n : Nat), (∀ u ∈ z, u.length = s) → (z.take n).flatten = z.flatten.take (n * s)
  | [], n, _ => by simp
  | x :: z, 0, _ => by simp
  | x :: z, n + 1, h => by
    have hx := h x (List.mem_cons_self ..)
    have ih := flatten_take z n (fun u hu => h u (List.mem_cons_of_mem _ hu))
    rw [List.take_succ_cons, List.flatten_cons, List.flatten_cons, ih, Nat.succ_mul, Nat.add_comm, ← hx, List.take_length_add_append]

theorem flatten_drop {s : Nat} : ∀ (z : List (List Value)) (n : Nat), (∀ u ∈ z, u.length = s) → (z.drop n).flatten = z.flatten.drop (n * s)
  | [], n, _ => by simp
  | x :: z, 0, _ => by simp
  | x :: z, n + 1, h => by
    have hx := h x (List.mem_cons_self ..)
    have ih := flatten_drop z n (fun u hu => h u (List.mem_cons_of_mem _ hu))
    rw [List.drop_succ_cons, List.flatten_cons, ih, Nat.succ_mul, Nat.add_comm, ← hx, List.drop_length_add_append]

theorem flatten_len {s : Nat} : ∀ (z : List (List Value)), (∀ u ∈ z, u.length = s) → z.flatten.length = z.length * s
  | [], _ => by simp
  | x :: z, h => by
    have hx := h x (List.mem_cons_self ..)
    have ih := flatten_len z (fun u hu => h u (List.mem_cons_of_mem _ hu))
    rw [List.flatten_cons, List.length_append, ih, hx, List.length_cons, Nat.succ_mul, Nat.add_comm]

theorem HasZ_take {ρ : Rho} : ∀ {l : List SV} {z : List (List Value)} (n : Nat), HasZ ρ l z → HasZ ρ (l.take n) (z.take n)
  | [], z, n, h => by simp only [HasZ] at h; subst h; simp [HasZ]
  | c :: l, z, 0, h => by simp [HasZ]
  | c :: l, z, n + 1, h => by
    simp only [HasZ] at h
    obtain ⟨x, r, rfl, h1, h2⟩ := h
    simp only [List.take_succ_cons, HasZ]
    exact ⟨x, _, rfl, h1, HasZ_take n h2⟩

theorem HasZ_drop {ρ : Rho} : ∀ {l : List SV} {z : List (List Value)} (n : Nat), HasZ ρ l z → HasZ ρ (l.drop n) (z.drop n)
  | [], z, n, h => by simp only [HasZ] at h; subst h; simp [HasZ]
  | c :: l, z, 0, h => by simpa using h
  | c :: l, z, n + 1, h => by
    simp only [HasZ] at h
    obtain ⟨x, r, rfl, h1, h2⟩ := h
    simp only [List.drop_succ_cons]
    exact HasZ_drop n h2

/-- The first n elements, and m elements of other data from i on. -/
def dapp (d : Data) (n : Nat) (d2 : Data) (i m : Nat) : Option Data :=
  match d, d2 with
  | .ints k xs, .ints k' ys => if k' = k then some (.ints k (xs.take n ++ (ys.drop i).take m)) else none
  | .fracs xs, .fracs ys => some (.fracs (xs.take n ++ (ys.drop i).take m))
  | .seq w xs, .seq w' ys => if w' = w then some (.seq w (xs.take n ++ (ys.drop i).take m)) else none
  | _, _ => none

theorem dapp_rows {ρ : Rho} {d d2 d' : Data} {n i m s s2 : Nat} {z z2 : List (List Value)} (h : dapp d n d2 i m = some d') (hz : Rows ρ s d z) (hz2 : Rows ρ s2 d2 z2) : Rows ρ s d' (z.take n ++ (z2.drop i).take m) ∧ s2 = s := by
  unfold dapp at h
  split at h
  · split at h
    · rename_i hk
      subst hk
      simp only [Option.some.injEq] at h
      subst h
      simp only [Rows] at hz hz2 ⊢
      obtain ⟨rfl, rfl⟩ := hz
      obtain ⟨rfl, rfl⟩ := hz2
      exact ⟨⟨rfl, by simp [List.map_take, List.map_drop]⟩, rfl⟩
    · simp at h
  · simp only [Option.some.injEq] at h
    subst h
    simp only [Rows] at hz hz2 ⊢
    obtain ⟨rfl, rfl⟩ := hz
    obtain ⟨rfl, rfl⟩ := hz2
    exact ⟨⟨rfl, by simp [List.map_take, List.map_drop]⟩, rfl⟩
  · split at h
    · rename_i hk
      subst hk
      simp only [Option.some.injEq] at h
      subst h
      simp only [Rows] at hz hz2 ⊢
      obtain ⟨rfl, h1, h2⟩ := hz
      obtain ⟨rfl, h3, h4⟩ := hz2
      refine ⟨⟨rfl, HasZ_append (HasZ_take n h1) (HasZ_take m (HasZ_drop i h3)), ?_⟩, rfl⟩
      intro x hx
      rcases List.mem_append.1 hx with hx | hx
      · exact h2 x (List.mem_of_mem_take hx)
      · exact h4 x (List.mem_of_mem_drop (List.mem_of_mem_take hx))
    · simp at h
  · simp at h

/-- The empty data of a kind. -/
def emptyOf (te : TI) : Data :=
  match te.zero with
  | [.frac _] => .fracs []
  | [.val (.int kd _)] => .ints kd []
  | _ => .seq te.size []

/-- n zero elements. -/
def zerosOf (te : TI) (n : Nat) : Data :=
  match te.zero with
  | [.frac _] => .fracs (List.replicate n 0)
  | [.val (.int kd _)] => .ints kd (List.replicate n 0)
  | [c] => .seq te.size (List.replicate n c)
  | l => .seq te.size (List.replicate n (.agg l))

theorem madeCells_flat (z : Array Value) (s : Nat) (hs : z.size = s) : ∀ n, (madeCells z (n * s)).toList = (List.replicate n z.toList).flatten := by
  intro n
  induction n with
  | zero => simp [madeCells]
  | succ n ih =>
    rw [List.replicate_succ', List.flatten_append, ← ih]
    simp only [madeCells, Array.toList_map, Array.toList_range, List.flatten_cons, List.flatten_nil, List.append_nil]
    rw [Nat.succ_mul, List.range_add, List.map_append]
    congr 1
    rw [List.map_map]
    apply List.ext_getElem
    · simp [hs]
    · intro i h1 h2
      simp only [List.length_map, List.length_range] at h1
      simp only [List.getElem_map, List.getElem_range, Function.comp, hs]
      rw [Nat.add_comm, Nat.add_mul_mod_self_right, Nat.mod_eq_of_lt h1]
      simp [hs, h1]

theorem rows_zeros {te : TI} {ρ : Rho} {z : Value} (hz : z.cells.toList = te.zero.flatMap zcell) (hsz : z.cells.size = te.size) (hall : te.zero.all zok = true)
    (hzero : ∀ q, te.zero = [.frac q] → q = 0) (hzi : ∀ kd x, te.zero = [.val (.int kd x)] → x = 0) (n : Nat) : Rows ρ te.size (zerosOf te n) (List.replicate n z.cells.toList) := by
  have hrep : ∀ c : SV, ∀ y, HasC ρ c y → HasZ ρ (List.replicate n c) (List.replicate n y) := by
    intro c y hy
    clear hz hsz
    induction n with
    | zero => simp [HasZ]
    | succ n ih => simp only [List.replicate_succ, HasZ]; exact ⟨y, _, rfl, hy, ih⟩
  have hlen : te.size = (te.zero.flatMap zcell).length := by rw [← hz, Array.length_toList]; exact hsz.symm
  unfold zerosOf
  split
  · rename_i q hq
    rw [hq] at hz hlen
    have := hzero q hq
    subst this
    simp only [List.flatMap_cons, List.flatMap_nil, List.append_nil, zcell] at hz hlen
    rw [hz]
    exact ⟨by rw [hlen, (fracCells_one 0).1], by simp⟩
  · rename_i kd x hq
    rw [hq] at hz hlen
    have := hzi kd x hq
    subst this
    simp only [List.flatMap_cons, List.flatMap_nil, List.append_nil, zcell] at hz hlen
    rw [hz]
    exact ⟨by rw [hlen]; rfl, by simp⟩
  · rename_i c _ _ hq
    rw [hq] at hz hlen hall
    simp only [List.flatMap_cons, List.flatMap_nil, List.append_nil] at hz hlen
    simp only [List.all_cons, List.all_nil, Bool.and_true] at hall
    rw [hz]
    have hc := zcell_has (ρ := ρ) hall
    exact ⟨rfl, hrep c _ hc, fun x hx => by rw [(List.mem_replicate.1 hx).2, ← (HasC.len c _ hc).1, hlen]⟩
  · have hc : HasC ρ (.agg te.zero) (te.zero.flatMap zcell) := by
      simp only [HasC]
      exact ⟨_, zero_has hall, by simp [List.flatMap_def]⟩
    rw [hz]
    exact ⟨rfl, hrep _ _ hc, fun x hx => by rw [(List.mem_replicate.1 hx).2, ← (HasC.len _ _ hc).1, hlen]⟩

/-- Zero components that 'zerosOf' reads rightly. -/
def zeroOK (te : TI) : Bool :=
  match te.zero with
  | [.frac q] => q.num == 0
  | [.val (.int _ x)] => x == 0
  | _ => true

theorem zeroOK_spec {te : TI} (h : zeroOK te = true) : (∀ q, te.zero = [.frac q] → q = 0) ∧ (∀ kd x, te.zero = [.val (.int kd x)] → x = 0) := by
  constructor
  · intro q hq
    simp only [zeroOK, hq, beq_iff_eq] at h
    exact Rat.num_eq_zero.1 h
  · intro kd x hq
    simpa [zeroOK, hq] using h

section
variable {P : Program} {o : Oper} {ft : List (Nat × SV)} {fk : List (Nat × Blk)}

/-- A new row. -/
theorem post_row {ρ : Rho} {w : World} {k s n cap : Nat} {ty : TypeId} {d : Data} {vs ex : List Value} (hk : ρ.key k = none) (hd : DataC ρ d vs) (hnc : n ≤ cap) (hcap : cap * s ≤ (vs ++ ex).length) (hex : ∀ v ∈ ex, v.oneCell' = true) :
    Post ρ w (.slc k s 0 n) [(k, ⟨ty, true, d⟩)] [] (.slice (some ⟨w.heap.size, 0, none⟩) n cap) ⟨fun j => if j = k then some (w.heap.size, (vs ++ ex).length) else ρ.key j, ρ.imm, ρ.glob⟩ (w.alloc (.cells (vs ++ ex).toArray ty (0, 0))) := by
  have hle : ρ.Le ⟨fun j => if j = k then some (w.heap.size, (vs ++ ex).length) else ρ.key j, ρ.imm, ρ.glob⟩ := ⟨fun j x hx => by
    show (if j = k then _ else _) = _
    by_cases hj : j = k
    · subst hj; rw [hk] at hx; cases hx
    · rw [if_neg hj]; exact hx, fun b ob hb => hb⟩
  refine ⟨hle, ?_, ?_, ?_, ?_, (fun _ _ _ h => by cases h), ?_, ?_, fun b ob hb => .inl hb⟩
  · refine slc_has (.inl ⟨w.heap.size, (vs ++ ex).length, cap, by simp, hnc, by simpa using hcap, by simp⟩)
  · intro j hj
    show (if j = k then _ else _) = _
    rw [if_neg]
    rintro rfl
    exact hj _ (List.mem_cons_self ..)
  · exact .of_below ((RowKit.Below.refl _ _).alloc (Nat.le_refl _) _)
  · intro j b hj
    rcases hj with hj | hj
    · cases hj
    · simp only [List.mem_singleton, Prod.mk.injEq] at hj
      obtain ⟨rfl, rfl⟩ := hj
      exact .inr (.inl ⟨w.heap.size, _, vs, ex, by simp, heap_alloc_new _ _, hd.mono hle, rfl, hex⟩)
  · intro j b x hj hx
    simp only [List.mem_singleton, Prod.mk.injEq] at hj
    obtain ⟨rfl, rfl⟩ := hj
    simp at hx
    rw [← hx]
    exact .inl (Nat.le_refl _)
  · intro j b j' b' x x' hj hj' hne
    simp only [List.mem_singleton, Prod.mk.injEq] at hj hj'
    exact absurd (hj.1.trans hj'.1.symm) hne

/-- make([]T, n, cap). -/
theorem op_make {t e : TypeId} {x y : Operand} {ti te : TI} {k : Nat} {kl kc : IntKind} {l c : Int} (ho : o.op = .makeSlice t x y) (hx : EvOK ft x (.val (.int kl l))) (hy : EvOK ft y (.val (.int kc c)))
    (ht : TOK P t ti) (hk : ti.kind = .slc e) (he : TOK P e te) (hz : zeroOK te = true) (h0 : 0 ≤ l) (hlc : l ≤ c) (hb : (te.bytes : Int) * c ≤ 281474976710656) (h63 : c ≤ 9223372036854775807) :
    OpOK P o ft fk (.slc k te.size 0 l.toNat) [(k, ⟨e, true, zerosOf te l.toNat⟩)] [] :=
  ok_value fun ρ a w hp => by
    have e1 := of_has_val (hx ρ a hp.hft)
    have e2 := of_has_val (hy ρ a hp.hft)
    have hu := ht.kind; rw [hk] at hu
    obtain ⟨i, z, i1, i2, i3, i4, i5, i6, i7, _⟩ := he.info
    have hrun := run_make (P := P) (w := w) t e i z hu i1 i4 kl kc l c h0 hlc (by rw [i3]; exact hb) h63
    obtain ⟨hq, hzi⟩ := zeroOK_spec hz
    have hrows := rows_zeros (ρ := ρ) i5 i7 i6 hq hzi l.toNat
    have hall : ∀ u ∈ (List.replicate c.toNat z.cells.toList), u.length = te.size := by
      intro u hu
      rw [(List.mem_replicate.1 hu).2, Array.length_toList]; exact i7
    have hcells : madeCells z.cells (c.toNat * i.size) = (((List.replicate l.toNat z.cells.toList).flatten) ++ (List.replicate (c.toNat - l.toNat) z.cells.toList).flatten).toArray := by
      have := madeCells_flat z.cells te.size i7 c.toNat
      rw [i2]
      apply Array.ext'
      rw [this, ← List.flatten_append, List.replicate_append_replicate]
      rw [show l.toNat + (c.toNat - l.toNat) = c.toNat from by omega]
    have hone : ∀ u ∈ z.cells.toList, u.oneCell' = true := by
      have h1 := (HasZ.len (ρ := ρ) te.zero _ (zero_has i6)).2
      rw [i5, List.flatMap_def]; exact h1
    refine ⟨_, _, _, ?_, post_row (ty := e) (d := zerosOf te l.toNat) (cap := c.toNat) (s := te.size) (vs := (List.replicate l.toNat z.cells.toList).flatten) (ex := (List.replicate (c.toNat - l.toNat) z.cells.toList).flatten) (hp.fresh k _ (List.mem_cons_self ..)) hrows.data (by omega) ?_ ?_⟩
    · simp only [execOp, ho, e1, e2, Sem.run_bind, hrun, Result.andThen_ok, Sem.run_pure, hcells]
    · rw [← List.flatten_append, List.replicate_append_replicate, show l.toNat + (c.toNat - l.toNat) = c.toNat from by omega, flatten_len _ hall, List.length_replicate]
      exact Nat.le_refl _
    · intro v hv
      obtain ⟨u, hu, hv⟩ := List.mem_flatten.1 hv
      rw [(List.mem_replicate.1 hu).2] at hv
      exact hone v hv
end
end Go.Sx
