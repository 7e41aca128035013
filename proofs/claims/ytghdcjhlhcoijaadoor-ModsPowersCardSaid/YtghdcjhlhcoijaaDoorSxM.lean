/- Slices with given elements; append; bytes into a string; copy; equality of numbers. -/
import Derived.Test.YtghdcjhlhcoijaaDoorSxL
import Derived.Laws.Concat
namespace Go.Sx

def toInts (kd : IntKind) : List SV → Option (List Int)
  | [] => some []
  | .val (.int k n) :: r => if k = kd then match toInts kd r with
    | some l => some (n :: l)
    | none => none
    else none
  | _ => none

def toFracs : List SV → Option (List Rat)
  | [] => some []
  | .frac q :: r => match toFracs r with
    | some l => some (q :: l)
    | none => none
  | _ => none

def allW (s : Nat) : List SV → Bool
  | [] => true
  | c :: r => Nat.beq c.width s && allW s r

/-- Components, one an element, as data. -/
def dataOf (te : TI) (cs : List SV) : Option Data :=
  match te.zero with
  | [.frac _] => match toFracs cs, Nat.beq te.size 5 with
    | some l, true => some (.fracs l)
    | _, _ => none
  | [.val (.int kd _)] => match toInts kd cs, Nat.beq te.size 1 with
    | some l, true => some (.ints kd l)
    | _, _ => none
  | _ => match allW te.size cs with
    | true => some (.seq te.size cs)
    | false => none

theorem toInts_has {ρ : Rho} {kd : IntKind} : ∀ {cs : List SV} {l : List Int} {z : List (List Value)}, toInts kd cs = some l → HasZ ρ cs z → z = l.map (fun x => [.int kd x])
  | [], l, z, h, hz => by simp [toInts] at h; subst h; simpa [HasZ] using hz
  | c :: r, l, z, h, hz => by
    unfold toInts at h
    split at h
    · simp_all
    · rename_i k n r' heq
      simp only [List.cons.injEq] at heq
      obtain ⟨rfl, rfl⟩ := heq
      split at h
      · rename_i hk
        subst hk
        split at h
        · rename_i l' hl
          simp only [Option.some.injEq] at h
          subst h
          simp only [HasZ, HasC] at hz
          obtain ⟨x, y, rfl, ⟨rfl, _⟩, h2⟩ := hz
          rw [toInts_has hl h2]
          rfl
        · simp at h
      · simp at h
    · simp at h

theorem toFracs_has {ρ : Rho} : ∀ {cs : List SV} {l : List Rat} {z : List (List Value)}, toFracs cs = some l → HasZ ρ cs z → z = l.map fracCells
  | [], l, z, h, hz => by simp [toFracs] at h; subst h; simpa [HasZ] using hz
  | c :: r, l, z, h, hz => by
    unfold toFracs at h
    split at h
    · simp_all
    · rename_i q r' heq
      simp only [List.cons.injEq] at heq
      obtain ⟨rfl, rfl⟩ := heq
      split at h
      · rename_i l' hl
        simp only [Option.some.injEq] at h
        subst h
        simp only [HasZ, HasC] at hz
        obtain ⟨x, y, rfl, rfl, h2⟩ := hz
        rw [toFracs_has hl h2]
        rfl
      · simp at h
    · simp at h

theorem allW_spec {s : Nat} : ∀ {cs : List SV}, allW s cs = true → ∀ x ∈ cs, x.width = s
  | c :: r, h, x, hx => by
    simp only [allW, Bool.and_eq_true] at h
    rcases List.mem_cons.1 hx with rfl | hx
    · exact Nat.eq_of_beq_eq_true h.1
    · exact allW_spec h.2 x hx

theorem dataOf_rows {ρ : Rho} {te : TI} {cs : List SV} {d : Data} {z : List (List Value)} (h : dataOf te cs = some d) (hz : HasZ ρ cs z) : Rows ρ te.size d z := by
  unfold dataOf at h
  split at h
  · split at h
    · rename_i l hl hs
      simp only [Option.some.injEq] at h
      subst h
      exact ⟨Nat.eq_of_beq_eq_true hs, toFracs_has hl hz⟩
    · simp at h
  · split at h
    · rename_i l hl hs
      simp only [Option.some.injEq] at h
      subst h
      exact ⟨Nat.eq_of_beq_eq_true hs, toInts_has hl hz⟩
    · simp at h
  · split at h
    · rename_i hw
      simp only [Option.some.injEq] at h
      subst h
      exact ⟨rfl, hz, allW_spec hw⟩
    · simp at h

/-- The parts in order, each one component: a slice literal without keys. -/
def inOrder : Nat → List (Nat × List SV) → Option (List SV)
  | _, [] => some []
  | j, (i, [c]) :: r => match Nat.beq i j with
    | true => match inOrder (j + 1) r with
      | some l => some (c :: l)
      | none => none
    | false => none
  | _, _ => none

def repN : Nat → List SV → List SV
  | 0, _ => []
  | n + 1, l => l ++ repN n l

theorem repN_has {ρ : Rho} {l : List SV} {y : List (List Value)} (h : HasZ ρ l y) : ∀ n, HasZ ρ (repN n l) ((List.replicate n y).flatten)
  | 0 => by simp [repN, HasZ]
  | n + 1 => by simp only [repN, List.replicate_succ, List.flatten_cons]; exact HasZ_append h (repN_has h n)

section
variable {P : Program} {o : Oper} {fr : List (Nat × SV)} {fk : List (Nat × Blk)}

/-- []T{a, b, ..}: the components put one by one into zero elements. -/
theorem op_buildSlice {t e : TypeId} {len k : Nat} {parts : Array (Nat × Operand)} {ti te : TI} {ps : List (Nat × List SV)} {l : List SV} {d : Data} (ho : o.op = .buildSlice t len parts) (ht : TOK P t ti) (hk : ti.kind = .slc e) (he : TOK P e te)
    (hps : evParts fr parts.toList = some ps) (hb : buildC 64 (fun i => some (i * te.size, te.size)) (repN len te.zero) ps = some l) (hd : dataOf te l = some d) (hln : l.length = len) (hsz : len * te.size ≤ 16777216) :
    OpOK P o fr fk (.slc k te.size 0 len) [(k, ⟨e, true, d⟩)] [] :=
  ok_value fun ρ a w hp => by
    obtain ⟨i, z, i1, i2, i3, i4, i5, i6, i7, _⟩ := he.info
    have hu := ht.kind; rw [hk] at hu
    obtain ⟨p1, p2⟩ := evParts_ok hps ρ a hp.hft
    have hz0 := repN_has (zero_has (ρ := ρ) i6) len
    have hmade : (madeCells z.cells (len * te.size)).toList = ((List.replicate len (te.zero.map zcell)).flatten).flatten := by
      rw [madeCells_flat z.cells te.size i7 len, i5]
      have : ∀ n, (List.replicate n (te.zero.flatMap zcell)).flatten = ((List.replicate n (te.zero.map zcell)).flatten).flatten := by
        intro n
        induction n with
        | zero => rfl
        | succ n ih => rw [List.replicate_succ, List.replicate_succ, List.flatten_cons, List.flatten_cons, List.flatten_append, ← ih, List.flatMap_def]
      exact this len
    obtain ⟨L', z', e1, e2, e3⟩ := fill_has (ρ := ρ) ps _ l (parts.toList.map fun p => (p.1, Act.eval a p.2)) (madeCells z.cells (len * te.size)) _ hb hz0 hmade p1 p2
    have hrows := dataOf_rows hd e2
    have hlen := hrows.len
    have hmap : (parts.map fun (i, x) => (i, Act.eval a x)).toList = parts.toList.map fun p => (p.1, Act.eval a p.2) := by simp
    have hLl : L' = (z'.flatten ++ []).toArray := by rw [List.append_nil, ← e3]
    refine ⟨_, _, _, ?_, post_row (ty := e) (d := d) (s := te.size) (n := len) (cap := len) (vs := z'.flatten) (ex := []) (hp.fresh k _ (List.mem_cons_self ..)) hrows.data (Nat.le_refl _) ?_ (by simp)⟩
    · have hsz' : ¬ len * te.size > 16777216 := by omega
      by_cases h0 : len * te.size = 0
      · have hm : (Array.range 0).map (fun x => (#[] : Array Value)[x % (#[] : Array Value).size]!) = madeCells z.cells (len * te.size) := by simp [h0, madeCells]
        simp only [execOp, ho, Instr.buildSlice, Sem.run_bind, run_underlying hu, Result.andThen_ok, he.sizeOf, h0, hmap]
        rw [h0] at hm
        simp only [Nat.reducePow, Nat.not_lt_zero, gt_iff_lt, if_false, if_true, Sem.run_bind, Sem.run_pure, Result.andThen_ok, hm]
        rw [h0] at e1
        simp only [e1, Sem.run_bind, newRow, run_newObj, Sem.run_pure, Result.andThen_ok, hLl, World.alloc_eq]
      · have hm : (Array.range (len * te.size)).map (fun x => z.cells[x % z.cells.size]!) = madeCells z.cells (len * te.size) := rfl
        have hzv : (Go.zeroValue e).run P w = .ok z w := by simp [Go.zeroValue, typeInfo, i1, i4]
        simp only [execOp, ho, Instr.buildSlice, Sem.run_bind, run_underlying hu, Result.andThen_ok, he.sizeOf, h0, hmap, Nat.reducePow, hsz', if_false, hzv, Sem.run_pure, hm, e1, newRow, run_newObj, hLl, World.alloc_eq]
    · rw [List.append_nil, flatten_len _ hlen.2, HasZ_length e2, hln]
      exact Nat.le_refl _

/-! ### append -/

theorem zeroCells_one {z : Array Value} (h : ∀ v ∈ z.toList, v.oneCell' = true) (n : Nat) : ∀ v ∈ (Builtin.zeroCells z n).toList, v.oneCell' = true := by
  intro v hv
  simp only [Builtin.zeroCells, Array.toList_map, Array.toList_range, List.mem_map, List.mem_range] at hv
  obtain ⟨i, hi, rfl⟩ := hv
  have hpos : 0 < z.size := by
    rcases Nat.eq_zero_or_pos z.size with h0 | h0
    · rw [h0] at hi; simp at hi
    · exact h0
  have hlt : i % z.size < z.size := Nat.mod_lt _ hpos
  have : z[i % z.size]! = z[i % z.size] := by simp [hlt]
  rw [this]
  exact h _ (by simp)

theorem Rows.nil {ρ : Rho} {d : Data} {s : Nat} (h : d.empty) (hs : dwidth d = some s) : Rows ρ s d [] := by
  cases d <;> simp only [dwidth, Option.some.injEq, reduceCtorEq] at hs <;> subst hs <;> simp only [Data.empty] at h <;> subst h
  · exact ⟨rfl, rfl⟩
  · exact ⟨rfl, rfl⟩
  · exact ⟨rfl, by simp [HasZ], by simp⟩

/-- The rows of a live block. -/
theorem blk_rows {ρ : Rho} {w : World} {k s : Nat} {blk : Blk} (hb : BlkOK ρ w k blk) (hl : blk.data.live = true) (hw : dwidth blk.data = some s) :
    ∃ z, Rows ρ s blk.data z ∧ ((∃ b t ex, ρ.key k = some (b, t) ∧ w.heap[b]? = some (.cells (z.flatten ++ ex).toArray blk.ty (0, 0)) ∧ (z.flatten ++ ex).length = t ∧ (∀ v ∈ ex, v.oneCell' = true)) ∨ (ρ.key k = none ∧ z = [])) := by
  rcases hb with h0 | ⟨b, t, vs, ex, h1, h2, h3, h4, h5⟩ | ⟨h1, h2⟩
  · rw [hl] at h0; cases h0
  · obtain ⟨z, hz, rfl⟩ := Rows.of h3 hw
    exact ⟨z, hz, .inl ⟨b, t, ex, h1, h2, h4, h5⟩⟩
  · exact ⟨[], .nil h2 hw, .inr ⟨h1, rfl⟩⟩

theorem Rows.one' {ρ : Rho} {d : Data} {s : Nat} {z : List (List Value)} (h : Rows ρ s d z) : ∀ u ∈ z, ∀ v ∈ u, v.oneCell' = true := fun u hu v hv =>
  h.data.one' v (List.mem_flatten.2 ⟨u, hu, hv⟩)

theorem addr_add0 (b s j : Nat) : (⟨b, 0 * s, none⟩ : Addr).add j = ⟨b, j, none⟩ := by
  rw [Nat.zero_mul]
  unfold Addr.add
  split
  · rename_i h; rw [h]
  · simp

/-- What is loaded from a slice. -/
theorem run_first {ρ : Rho} {w : World} {k s i n : Nat} {blk : Blk} {v : Value} (hv : Has ρ (.slc k s i n) v) (hb : BlkOK ρ w k blk) (hl : blk.data.live = true) (hw : dwidth blk.data = some s) (hin : i + n ≤ dlen blk.data) :
    ∃ z, Rows ρ s blk.data z ∧ (∀ w', (∀ b, b < w.heap.size → w'.heap[b]? = w.heap[b]?) → (Builtin.firstCells s n v).run P w' = .ok (((z.drop i).take n).flatten).toArray w') ∧ Builtin.lenOf v = Pure.pure n := by
  obtain ⟨z, hz, hcase⟩ := blk_rows hb hl hw
  obtain ⟨zl, zw⟩ := hz.len
  refine ⟨z, hz, ?_⟩
  rcases has_slc hv with ⟨b, t, cap, e1, e2, e3, rfl⟩ | ⟨rfl, a, rfl⟩
  · rcases hcase with ⟨b', t', ex, h1, h2, h3, h4⟩ | ⟨h1, _⟩
    · rw [e1] at h1
      cases h1
      refine ⟨fun w' hw' => ?_, rfl⟩
      have hblt : b < w.heap.size := by
        rcases Nat.lt_or_ge b w.heap.size with h' | h'
        · exact h'
        · simp [Array.getElem?_eq_none h'] at h2
      have hh : w'.heap[b]? = some (.cells (z.flatten ++ ex).toArray blk.ty (0, 0)) := by rw [hw' b hblt]; exact h2
      have hseg : ((z.drop i).take n).flatten = (z.flatten.drop (i * s)).take (n * s) := by
        rw [flatten_take (s := s) _ _ (fun u hu => zw u (List.mem_of_mem_drop hu)), flatten_drop (s := s) _ _ zw]
      have hlen : (((z.drop i).take n).flatten).length = n * s := by
        rw [flatten_len (s := s) _ (fun u hu => zw u (List.mem_of_mem_drop (List.mem_of_mem_take hu))), List.length_take, List.length_drop]
        congr 1
        omega
      refine run_firstCells_some (P := P) w' s n _ n cap _ hlen ?_
      intro j u hj
      have hadd : (⟨b, i * s, none⟩ : Addr).add j = ⟨b, i * s + j, none⟩ := by unfold Addr.add; split <;> simp_all
      rw [hadd, cell_of_row w' b (i * s + j) _ blk.ty (0, 0) hh]
      have h6 := take_eq_get hseg j u hj
      have hlt : i * s + j < z.flatten.length := (List.getElem?_eq_some_iff.1 h6).1
      simp only [List.getElem?_toArray]
      rw [List.getElem?_append_left hlt]
      exact h6
    · rw [e1] at h1; cases h1
  · refine ⟨fun w' _ => ?_, rfl⟩
    cases a with
    | none => simp [Builtin.firstCells]
    | some a => simp [Builtin.firstCells, loadCells, loadCellsFrom]

/-- append: the old key is dead behind it; a new key has what there was and what was added. -/
theorem op_append {t t2 e : TypeId} {x y : Operand} {xs : Array Operand} {ts : Array TypeId} {ti ti2 te : TI} {k k2 kn n i2 m : Nat} {d d' : Data} {blk2 : Blk} (ho : o.op = .call ⟨.builtin .append, xs, ts⟩) (hxs : xs = #[x, y]) (hts : ts = #[t, t2])
    (hx : EvOK fr x (.slc k te.size 0 n)) (hy : EvOK fr y (.slc k2 te.size i2 m)) (ht : TOK P t ti) (hk : ti.kind = .slc e) (ht2 : TOK P t2 ti2) (hk2 : ti2.kind = .slc e) (he : TOK P e te)
    (hf : (k, ⟨e, true, d⟩) ∈ fk) (hf2 : (k2, blk2) ∈ fk) (hl : d.live = true) (hl2 : blk2.data.live = true) (hw : dwidth d = some te.size) (hw2 : dwidth blk2.data = some te.size)
    (hn : n ≤ dlen d) (hm : i2 + m ≤ dlen blk2.data) (hd : dapp d n blk2.data i2 m = some d') (hbytes : (n + m) * te.bytes ≤ 140737488355328) (h63 : n + m ≤ 9223372036854775807) :
    OpOK P o fr fk (.slc kn te.size 0 (n + m)) [(kn, ⟨e, true, d'⟩)] [(k, ⟨e, true, .dead⟩)] :=
  ok_value fun ρ a w hp => by
    have hvx := hx ρ a hp.hft
    have hvy := hy ρ a hp.hft
    obtain ⟨i, zv, i1, i2', i3, i4, i5, i6, i7, _⟩ := he.info
    have hu := ht.kind; rw [hk] at hu
    have hu2 := ht2.kind; rw [hk2] at hu2
    obtain ⟨z, hz, hzc⟩ := blk_rows (hp.hfk k _ hf) hl hw
    obtain ⟨z2, hz2, hrun2, hlen2⟩ := run_first (P := P) hvy (hp.hfk k2 _ hf2) hl2 hw2 hm
    obtain ⟨zl, zw⟩ := hz.len
    obtain ⟨zl2, zw2⟩ := hz2.len
    have hrows := (dapp_rows hd hz hz2).1
    have hfresh := hp.fresh kn _ (List.mem_cons_self ..)
    simp only at zl
    have hsegw : ∀ u ∈ (z2.drop i2).take m, u.length = te.size := fun u hu => zw2 u (List.mem_of_mem_drop (List.mem_of_mem_take hu))
    have hsegl : ((z2.drop i2).take m).length = m := by rw [List.length_take, List.length_drop]; omega
    have hnews : (((z2.drop i2).take m).flatten).length = m * te.size := by rw [flatten_len _ hsegw, hsegl]
    have hnone : ∀ u ∈ (((z2.drop i2).take m).flatten), u.oneCell' = true := fun u hu => by
      obtain ⟨q, hq, hu⟩ := List.mem_flatten.1 hu
      exact hz2.one' q (List.mem_of_mem_drop (List.mem_of_mem_take hq)) u hu
    have hcall : ∀ v w', (Builtin.append_ ts o.type #[a.eval x, a.eval y]).run P w = .ok v w' → (execOp a.eval o).run P w = .ok (.value v) w' := by
      intro v w' h
      simp only [execOp, ho, resolve, invoke, builtin, hxs, Sem.run_bind, Sem.run_pure, Result.andThen_ok, List.map_toArray, List.map_cons, List.map_nil]
      rw [h]
      rfl
    have zone : ∀ v ∈ zv.cells.toList, v.oneCell' = true := by
      have h1 := (HasZ.len (ρ := ρ) te.zero _ (zero_has i6)).2
      rw [i5, List.flatMap_def]; exact h1
    have h63' : ¬ ((n + m : Nat) : Int) > IntKind.i64.max := by
      have : IntKind.i64.max = 9223372036854775807 := by decide
      omega
    -- the growing way
    have grow : ∀ (base : Option Addr) (cap : Nat), a.eval x = .slice base n cap → cap < n + m → (∀ w', (∀ b, b < w.heap.size → w'.heap[b]? = w.heap[b]?) → (Builtin.firstCells te.size n (.slice base n cap)).run P w' = .ok ((z.take n).flatten).toArray w') →
        ∃ v w' ρ', (execOp a.eval o).run P w = .ok (.value v) w' ∧ Post ρ w (.slc kn te.size 0 (n + m)) [(kn, ⟨e, true, d'⟩)] [(k, ⟨e, true, .dead⟩)] v ρ' w' := by
      intro base cap hbx hcap hfirst
      have hfit : ¬ Builtin.nextslicecap (n + m) cap * i.bytes > 2 ^ 48 := by
        have := growslice_fits (bytes := te.bytes) hcap hbytes
        rw [i3]; simpa using this
      have hgc : n + m ≤ grownCap w (n + m) cap e := by
        simp only [grownCap, Question.cut]
        omega
      have hpost := post_row (ρ := ρ) (w := w.drew) (k := kn) (s := te.size) (n := n + m) (cap := grownCap w (n + m) cap e) (ty := e) (d := d') (vs := (z.take n ++ (z2.drop i2).take m).flatten) (ex := (Builtin.zeroCells zv.cells (grownCap w (n + m) cap e - (n + m))).toList) hfresh hrows.data hgc
        (by
          have h1 : ((z.take n ++ (z2.drop i2).take m).flatten).length = (n + m) * te.size := by
            rw [flatten_len (s := te.size) _ (fun u hu => (List.mem_append.1 hu).elim (fun h => zw u (List.mem_of_mem_take h)) (hsegw u)), List.length_append, hsegl, List.length_take]
            congr 1
            omega
          rw [List.length_append, h1, Array.length_toList]
          have h2 : (Builtin.zeroCells zv.cells (grownCap w (n + m) cap e - (n + m))).size = (grownCap w (n + m) cap e - (n + m)) * te.size := by simp [Builtin.zeroCells, i7]
          rw [h2, ← Nat.add_mul, show n + m + (grownCap w (n + m) cap e - (n + m)) = grownCap w (n + m) cap e from by omega]
          exact Nat.le_refl _) (zeroCells_one zone _)
      refine ⟨_, _, _, hcall _ _ ?_, { hpost with
        pres := ⟨hpost.pres.os, hpost.pres.tape, hpost.pres.output, hpost.pres.size, fun b hb hn => hpost.pres.block b hb (fun hh => by obtain ⟨_, _, _, hh, _⟩ := hh; cases hh)⟩
        blk := fun j b hj => by
          rcases hj with hj | hj
          · simp only [List.mem_singleton, Prod.mk.injEq] at hj
            obtain ⟨rfl, rfl⟩ := hj
            exact .inl rfl
          · exact hpost.blk j b (.inr hj)
        once := fun j b b' h1 h2 h3 h4 => by
          simp only [List.mem_singleton, Prod.mk.injEq] at h1 h2
          rw [h2.2] at h4
          cases h4
        newb := fun j b q hj hq => .inl ((hpost.newb j b q hj hq).elim id (fun hh => by obtain ⟨_, _, _, hh, _⟩ := hh; cases hh)) }⟩
      have hz0 : (if false = true then (Pure.pure 0 : Sem Nat) else Builtin.lenOf (a.eval y)).run P w = .ok m w := by rw [hlen2]; rfl
      have hcap' : ¬ n + m ≤ cap := by omega
      have hnb : (w.drew).heap = w.heap := rfl
      have hr1 := hfirst w.drew (fun b _ => rfl)
      have hr2 := hrun2 w.drew (fun b _ => rfl)
      simp only [Builtin.append_, hts, hbx, List.getElem?_toArray, List.getElem?_cons_zero, List.getElem?_cons_succ, Sem.run_bind, run_underlying hu, run_underlying hu2, Result.andThen_ok, he.sizeOf, Sem.run_pure, Bool.false_eq_true, if_false, hlen2]
      have hti : ∀ w', (typeInfo e).run P w' = .ok i w' := fun w' => by simp [typeInfo, i1]
      have hzv : ∀ w', (Go.zeroValue e).run P w' = .ok zv w' := fun w' => by simp [Go.zeroValue, typeInfo, i1, i4]
      have hcond : ¬ (((n + m : Nat) : Int) > IntKind.i64.max ∧ (False ∨ i.bytes = 0)) := fun h => h63' h.1
      have hforced : (Question.appendCap (n + m) cap e).forced = false := rfl
      simp only [hcap', if_false, Sem.run_bind, hti, Result.andThen_ok, hcond, hfit, run_choose, hforced, Bool.false_eq_true, World.drew_eq, run_askRoom, hr1, Bool.not_false, if_true, hr2, hzv, newRow, run_newObj, Sem.run_pure, World.alloc_eq]
      have harr : ((z.take n).flatten.toArray ++ ((z2.drop i2).take m).flatten.toArray ++ Builtin.zeroCells zv.cells (grownCap w (n + m) cap e - (n + m))) = ((z.take n ++ (z2.drop i2).take m).flatten ++ (Builtin.zeroCells zv.cells (grownCap w (n + m) cap e - (n + m))).toList).toArray := by
        apply Array.ext'
        simp
      show Result.ok (Value.slice (some ⟨w.drew.heap.size, 0, none⟩) (n + m) (grownCap w (n + m) cap e)) (w.drew.alloc (.cells ((z.take n).flatten.toArray ++ ((z2.drop i2).take m).flatten.toArray ++ Builtin.zeroCells zv.cells (grownCap w (n + m) cap e - (n + m))) e)) = _
      rw [harr]
    -- the ways
    rcases has_slc hvx with ⟨b, tt, cap, e1, e2, e3, e4⟩ | ⟨rfl, ad, e4⟩
    · rcases hzc with ⟨b', tt', ex, c1, c2, c3, c4⟩ | ⟨c1, _⟩
      · rw [e1] at c1
        cases c1
        simp only at c2
        rcases Nat.lt_or_ge cap (n + m) with hlt | hge
        · refine grow _ cap e4 hlt ?_
          obtain ⟨z3, hz3, hrun3, _⟩ := run_first (P := P) hvx (hp.hfk k _ hf) hl hw (by simpa using hn)
          intro w' hw'
          have h0 := run_firstCells_some (P := P) w' te.size n ⟨b, 0 * te.size, none⟩ n cap ((z.take n).flatten) (by
            rw [flatten_len (s := te.size) _ (fun u hu => zw u (List.mem_of_mem_take hu)), List.length_take]; congr 1; omega) (by
            intro j u hj
            have hblt : b < w.heap.size := by
              rcases Nat.lt_or_ge b w.heap.size with h' | h'
              · exact h'
              · simp [Array.getElem?_eq_none h'] at c2
            have hh : w'.heap[b]? = some (.cells (z.flatten ++ ex).toArray e (0, 0)) := by rw [hw' b hblt]; exact c2
            have hadd : (⟨b, 0 * te.size, none⟩ : Addr).add j = ⟨b, j, none⟩ := addr_add0 b te.size j
            rw [hadd, cell_of_row w' b j _ e (0, 0) hh]
            rw [flatten_take (s := te.size) _ _ zw] at hj
            have h6 : z.flatten[j]? = some u := by
              rw [List.getElem?_take] at hj
              split at hj
              · exact hj
              · cases hj
            have hlt2 : j < z.flatten.length := (List.getElem?_eq_some_iff.1 h6).1
            simp only [List.getElem?_toArray]
            rw [List.getElem?_append_left hlt2]
            exact h6)
          exact h0
        · -- in place
          have hblt : b < w.heap.size := by
            rcases Nat.lt_or_ge b w.heap.size with h' | h'
            · exact h'
            · simp [Array.getElem?_eq_none h'] at c2
          have hr2 := hrun2 w (fun b _ => rfl)
          have hfitc : 0 * te.size + n * te.size + (((z2.drop i2).take m).flatten).length ≤ (z.flatten ++ ex).length := by
            rw [hnews, c3, Nat.zero_mul, Nat.zero_add, ← Nat.add_mul]
            exact Nat.le_trans (Nat.mul_le_mul_right _ hge) (by simpa using e3)
          have hsc := run_storeCells_at (P := P) b (n * te.size) e (((z2.drop i2).take m).flatten) 0 (z.flatten ++ ex).toArray w c2 (by simp only [List.size_toArray]; simpa using hfitc) hnone
          have hadd : (⟨b, 0 * te.size, none⟩ : Addr).add (n * te.size) = ⟨b, n * te.size, none⟩ := addr_add0 b te.size _
          have hcells : ((z.flatten ++ ex).take (n * te.size + 0) ++ (((z2.drop i2).take m).flatten) ++ (z.flatten ++ ex).drop (n * te.size + 0 + (((z2.drop i2).take m).flatten).length)) =
              (z.take n ++ (z2.drop i2).take m).flatten ++ (z.flatten ++ ex).drop (n * te.size + m * te.size) := by
            rw [Nat.add_zero, hnews, List.flatten_append, flatten_take (s := te.size) _ _ zw, List.take_append_of_le_length (by rw [flatten_len (s := te.size) _ zw]; exact Nat.mul_le_mul_right _ (by omega))]
          rw [hcells] at hsc
          let ρ' : Rho := ⟨fun j => if j = kn then some (b, tt) else ρ.key j, ρ.imm, ρ.glob⟩
          have hle : ρ.Le ρ' := ⟨fun j q hq => by
            show (if j = kn then _ else _) = _
            by_cases hj : j = kn
            · subst hj; rw [hfresh] at hq; cases hq
            · rw [if_neg hj]; exact hq, fun b o hb => hb⟩
          refine ⟨.slice (some ⟨b, 0 * te.size, none⟩) (n + m) cap, w.setRow b ((z.take n ++ (z2.drop i2).take m).flatten ++ (z.flatten ++ ex).drop (n * te.size + m * te.size)).toArray, ρ', hcall _ _ ?_, ?_⟩
          · simp only [Builtin.append_, hts, e4, List.getElem?_toArray, List.getElem?_cons_zero, List.getElem?_cons_succ, Sem.run_bind, run_underlying hu, run_underlying hu2, Result.andThen_ok, he.sizeOf, Sem.run_pure, Bool.false_eq_true, if_false, hlen2, hge, if_true, Bool.not_false, hr2, hadd, hsc]
          · refine ⟨hle, slc_has (.inl ⟨b, tt, cap, ?_, hge, e3, rfl⟩), ?_, ⟨rfl, rfl, rfl, by simp [World.setRow], ?_⟩, ?_, ?_, ?_, ?_, fun b o hb => .inl hb⟩
            · show (if kn = kn then _ else _) = _
              rw [if_pos rfl]
            · intro j hj
              show (if j = kn then _ else _) = _
              rw [if_neg]
              rintro rfl
              exact hj _ (List.mem_cons_self ..)
            · intro q hq hnq
              refine heap_setRow_other fun hqb => hnq ⟨k, _, tt, List.mem_cons_self .., ?_⟩
              rw [hqb]; exact e1
            · intro j bj hj
              rcases hj with hj | hj
              · simp only [List.mem_singleton, Prod.mk.injEq] at hj
                obtain ⟨rfl, rfl⟩ := hj
                exact .inl rfl
              · simp only [List.mem_singleton, Prod.mk.injEq] at hj
                obtain ⟨rfl, rfl⟩ := hj
                refine .inr (.inl ⟨b, tt, _, (z.flatten ++ ex).drop (n * te.size + m * te.size), ?_, heap_setRow_same c2, hrows.data.mono hle, ?_, ?_⟩)
                · show (if j = j then _ else _) = _
                  rw [if_pos rfl]
                · have h1 : ((z.take n ++ (z2.drop i2).take m).flatten).length = (n + m) * te.size := by
                    rw [flatten_len (s := te.size) _ (fun u hu => (List.mem_append.1 hu).elim (fun h => zw u (List.mem_of_mem_take h)) (hsegw u)), List.length_append, hsegl, List.length_take]
                    congr 1
                    omega
                  rw [List.length_append, h1, List.length_drop, c3, Nat.add_mul]
                  rw [hnews, c3] at hfitc
                  omega
                · intro u hu
                  have := List.mem_of_mem_drop hu
                  rcases List.mem_append.1 this with h | h
                  · obtain ⟨q, hq, hu'⟩ := List.mem_flatten.1 h
                    exact hz.one' q hq u hu'
                  · exact c4 u h
            · intro j c c' h1 h2 h3 h4
              simp only [List.mem_singleton, Prod.mk.injEq] at h1 h2
              rw [h2.2] at h4
              cases h4
            · intro j bj q hj hq
              simp only [List.mem_singleton, Prod.mk.injEq] at hj
              obtain ⟨rfl, rfl⟩ := hj
              have hq' : (if j = j then some (b, tt) else ρ.key j) = some q := hq
              rw [if_pos rfl] at hq'
              cases hq'
              exact .inr ⟨k, _, tt, List.mem_cons_self .., rfl, e1⟩
            · intro j bj j' bj' q q' hj hj' hne
              simp only [List.mem_singleton, Prod.mk.injEq] at hj hj'
              exact absurd (hj.1.trans hj'.1.symm) hne
      · rw [e1] at c1; cases c1
    · rcases Nat.eq_zero_or_pos m with rfl | hm0
      · -- nothing onto nothing
        have hr2 := hrun2 w (fun b _ => rfl)
        refine ⟨.slice ad 0 0, w, ρ, hcall _ _ ?_, ?_⟩
        · have hst : ∀ q : Addr, (storeCells q ([] : List Value)).run P w = .ok () w := fun q => rfl
          have hseg0 : ((z2.drop i2).take 0).flatten = [] := by simp
          rw [hseg0] at hr2
          cases ad <;> simp only [Builtin.append_, hts, e4, List.getElem?_toArray, List.getElem?_cons_zero, List.getElem?_cons_succ, Sem.run_bind, run_underlying hu, run_underlying hu2, Result.andThen_ok, he.sizeOf, Sem.run_pure, Bool.false_eq_true, if_false, hlen2, Nat.add_zero, Nat.le_refl, if_true, Bool.not_false, hr2, hst]
        · have hemp : d'.empty ∨ True := .inr trivial
          have hd0 : d'.empty := by
            unfold dapp at hd
            split at hd
            · split at hd
              · simp only [Option.some.injEq] at hd; subst hd; simp [Data.empty]
              · simp at hd
            · simp only [Option.some.injEq] at hd; subst hd; simp [Data.empty]
            · split at hd
              · simp only [Option.some.injEq] at hd; subst hd; simp [Data.empty]
              · simp at hd
            · simp at hd
          refine ⟨.refl ρ, slc_has (.inr ⟨rfl, ad, rfl⟩), fun _ _ => rfl, .refl _ _, ?_, ?_, ?_, ?_, fun b o hb => .inl hb⟩
          · intro j bj hj
            rcases hj with hj | hj
            · simp only [List.mem_singleton, Prod.mk.injEq] at hj
              obtain ⟨rfl, rfl⟩ := hj
              exact .inl rfl
            · simp only [List.mem_singleton, Prod.mk.injEq] at hj
              obtain ⟨rfl, rfl⟩ := hj
              exact .inr (.inr ⟨hfresh, hd0⟩)
          · intro j c c' h1 h2 h3 h4
            simp only [List.mem_singleton, Prod.mk.injEq] at h1 h2
            rw [h2.2] at h4
            cases h4
          · intro j bj q hj hq
            simp only [List.mem_singleton, Prod.mk.injEq] at hj
            obtain ⟨rfl, rfl⟩ := hj
            rw [hfresh] at hq; cases hq
          · intro j bj j' bj' q q' hj hj' hne
            simp only [List.mem_singleton, Prod.mk.injEq] at hj hj'
            exact absurd (hj.1.trans hj'.1.symm) hne
      · refine grow ad 0 e4 (by omega) ?_
        intro w' _
        cases ad with
        | none => simp [Builtin.firstCells]
        | some q => simp [Builtin.firstCells, loadCells, loadCellsFrom]

/-- append onto nil. -/
theorem op_append_nil {t t2 e : TypeId} {x y : Operand} {xs : Array Operand} {ts : Array TypeId} {ti ti2 te : TI} {k2 kn i2 m : Nat} {d' : Data} {blk2 : Blk} (ho : o.op = .call ⟨.builtin .append, xs, ts⟩) (hxs : xs = #[x, y]) (hts : ts = #[t, t2])
    (hx : EvOK fr x (.val (.slice none 0 0))) (hy : EvOK fr y (.slc k2 te.size i2 m)) (ht : TOK P t ti) (hk : ti.kind = .slc e) (ht2 : TOK P t2 ti2) (hk2 : ti2.kind = .slc e) (he : TOK P e te)
    (hf2 : (k2, blk2) ∈ fk) (hl2 : blk2.data.live = true) (hw2 : dwidth blk2.data = some te.size)
    (hm : i2 + m ≤ dlen blk2.data) (hd : dapp blk2.data 0 blk2.data i2 m = some d') (hbytes : m * te.bytes ≤ 140737488355328) (h63 : m ≤ 9223372036854775807) :
    OpOK P o fr fk (.slc kn te.size 0 m) [(kn, ⟨e, true, d'⟩)] [] :=
  ok_value fun ρ a w hp => by
    have hvx := of_has_val (hx ρ a hp.hft)
    have hvy := hy ρ a hp.hft
    obtain ⟨i, zv, i1, i2', i3, i4, i5, i6, i7, _⟩ := he.info
    have hu := ht.kind; rw [hk] at hu
    have hu2 := ht2.kind; rw [hk2] at hu2
    obtain ⟨z2, hz2, hrun2, hlen2⟩ := run_first (P := P) hvy (hp.hfk k2 _ hf2) hl2 hw2 hm
    obtain ⟨zl2, zw2⟩ := hz2.len
    have hrows := (dapp_rows hd hz2 hz2).1
    rw [List.take_zero, List.nil_append] at hrows
    have hfresh := hp.fresh kn _ (List.mem_cons_self ..)
    have hsegw : ∀ u ∈ (z2.drop i2).take m, u.length = te.size := fun u hu => zw2 u (List.mem_of_mem_drop (List.mem_of_mem_take hu))
    have hsegl : ((z2.drop i2).take m).length = m := by rw [List.length_take, List.length_drop]; omega
    have hcall : ∀ v w', (Builtin.append_ ts o.type #[a.eval x, a.eval y]).run P w = .ok v w' → (execOp a.eval o).run P w = .ok (.value v) w' := by
      intro v w' h
      simp only [execOp, ho, resolve, invoke, builtin, hxs, Sem.run_bind, Sem.run_pure, Result.andThen_ok, List.map_toArray, List.map_cons, List.map_nil]
      rw [h]
      rfl
    have zone : ∀ v ∈ zv.cells.toList, v.oneCell' = true := by
      have h1 := (HasZ.len (ρ := ρ) te.zero _ (zero_has i6)).2
      rw [i5, List.flatMap_def]; exact h1
    rcases Nat.eq_zero_or_pos m with rfl | hm0
    · have hr2 := hrun2 w (fun b _ => rfl)
      refine ⟨.slice none 0 0, w, ρ, hcall _ _ ?_, ?_⟩
      · have hseg0 : ((z2.drop i2).take 0).flatten = [] := by simp
        rw [hseg0] at hr2
        simp only [Builtin.append_, hts, hvx, List.getElem?_toArray, List.getElem?_cons_zero, List.getElem?_cons_succ, Sem.run_bind, run_underlying hu, run_underlying hu2, Result.andThen_ok, he.sizeOf, Sem.run_pure, Bool.false_eq_true, if_false, hlen2, Nat.add_zero, Nat.le_refl, if_true, Bool.not_false, hr2]
      · have hd0 : d'.empty := by
          unfold dapp at hd
          split at hd
          · split at hd
            · simp only [Option.some.injEq] at hd; subst hd; simp [Data.empty]
            · simp at hd
          · simp only [Option.some.injEq] at hd; subst hd; simp [Data.empty]
          · split at hd
            · simp only [Option.some.injEq] at hd; subst hd; simp [Data.empty]
            · simp at hd
          · simp at hd
        refine ⟨.refl ρ, slc_has (.inr ⟨rfl, none, rfl⟩), fun _ _ => rfl, .refl _ _, ?_, (fun _ _ _ h => by cases h), ?_, ?_, fun b o hb => .inl hb⟩
        · intro j bj hj
          rcases hj with hj | hj
          · cases hj
          · simp only [List.mem_singleton, Prod.mk.injEq] at hj
            obtain ⟨rfl, rfl⟩ := hj
            exact .inr (.inr ⟨hfresh, hd0⟩)
        · intro j bj q hj hq
          simp only [List.mem_singleton, Prod.mk.injEq] at hj
          obtain ⟨rfl, rfl⟩ := hj
          rw [hfresh] at hq; cases hq
        · intro j bj j' bj' q q' hj hj' hne
          simp only [List.mem_singleton, Prod.mk.injEq] at hj hj'
          exact absurd (hj.1.trans hj'.1.symm) hne
    · have h63' : ¬ ((0 + m : Nat) : Int) > IntKind.i64.max := by
        have : IntKind.i64.max = 9223372036854775807 := by decide
        omega
      have hfit : ¬ Builtin.nextslicecap (0 + m) 0 * i.bytes > 2 ^ 48 := by
        have := growslice_fits (bytes := te.bytes) (show 0 < 0 + m by omega) (by rw [Nat.zero_add]; exact hbytes)
        rw [i3]; simpa using this
      have hgc : m ≤ grownCap w (0 + m) 0 e := by
        simp only [grownCap, Question.cut]
        omega
      have hpost := post_row (ρ := ρ) (w := w.drew) (k := kn) (s := te.size) (n := m) (cap := grownCap w (0 + m) 0 e) (ty := e) (d := d') (vs := ((z2.drop i2).take m).flatten) (ex := (Builtin.zeroCells zv.cells (grownCap w (0 + m) 0 e - (0 + m))).toList) hfresh hrows.data hgc
        (by
          have h1 : (((z2.drop i2).take m).flatten).length = m * te.size := by rw [flatten_len (s := te.size) _ hsegw, hsegl]
          rw [List.length_append, h1, Array.length_toList]
          have h2 : (Builtin.zeroCells zv.cells (grownCap w (0 + m) 0 e - (0 + m))).size = (grownCap w (0 + m) 0 e - (0 + m)) * te.size := by simp [Builtin.zeroCells, i7]
          rw [h2, ← Nat.add_mul, show m + (grownCap w (0 + m) 0 e - (0 + m)) = grownCap w (0 + m) 0 e from by omega]
          exact Nat.le_refl _) (zeroCells_one zone _)
      refine ⟨_, _, _, hcall _ _ ?_, { hpost with pres := ⟨hpost.pres.os, hpost.pres.tape, hpost.pres.output, hpost.pres.size, hpost.pres.block⟩ }⟩
      have hcap' : ¬ 0 + m ≤ 0 := by omega
      have hr2 := hrun2 w.drew (fun b _ => rfl)
      have hti : ∀ w', (typeInfo e).run P w' = .ok i w' := fun w' => by simp [typeInfo, i1]
      have hzv : ∀ w', (Go.zeroValue e).run P w' = .ok zv w' := fun w' => by simp [Go.zeroValue, typeInfo, i1, i4]
      have hcond : ¬ (((0 + m : Nat) : Int) > IntKind.i64.max ∧ (False ∨ i.bytes = 0)) := fun h => h63' h.1
      have hforced : (Question.appendCap (0 + m) 0 e).forced = false := rfl
      have hr1 : ∀ w', (Builtin.firstCells te.size 0 (.slice none 0 0)).run P w' = .ok #[] w' := fun w' => by simp [Builtin.firstCells]
      simp only [Builtin.append_, hts, hvx, List.getElem?_toArray, List.getElem?_cons_zero, List.getElem?_cons_succ, Sem.run_bind, run_underlying hu, run_underlying hu2, Result.andThen_ok, he.sizeOf, Sem.run_pure, Bool.false_eq_true, if_false, hlen2]
      simp only [hcap', if_false, Sem.run_bind, hti, Result.andThen_ok, hcond, hfit, run_choose, hforced, Bool.false_eq_true, World.drew_eq, run_askRoom, hr1, Bool.not_false, if_true, hr2, hzv, newRow, run_newObj, Sem.run_pure, World.alloc_eq]
      have harr : ((#[] : Array Value) ++ ((z2.drop i2).take m).flatten.toArray ++ Builtin.zeroCells zv.cells (grownCap w (0 + m) 0 e - (0 + m))) = (((z2.drop i2).take m).flatten ++ (Builtin.zeroCells zv.cells (grownCap w (0 + m) 0 e - (0 + m))).toList).toArray := by
        apply Array.ext'
        simp
      show Result.ok (Value.slice (some ⟨w.drew.heap.size, 0, none⟩) (0 + m) (grownCap w (0 + m) 0 e)) (w.drew.alloc (.cells ((#[] : Array Value) ++ ((z2.drop i2).take m).flatten.toArray ++ Builtin.zeroCells zv.cells (grownCap w (0 + m) 0 e - (0 + m))) e)) = _
      rw [harr, Nat.zero_add]

/-- string(b). -/
theorem op_bytesStr {src dst e : TypeId} {x : Operand} {ti td te : TI} {k i n : Nat} {wr : Bool} {ty : TypeId} {xs : List Int} (ho : o.op = .convert src dst x) (hx : EvOK fr x (.slc k 1 i n)) (ht : TOK P src ti) (hk : ti.kind = .slc e) (he : TOK P e te) (hke : te.kind = .int .u8)
    (htd : TOK P dst td) (hkd : td.kind = .str) (hf : (k, ⟨ty, wr, .ints .u8 xs⟩) ∈ fk) (hn : i + n ≤ xs.length) :
    OpOK P o fr fk (.val (.string ⟨(((xs.drop i).take n).map fun v => UInt8.ofNat v.toNat).toArray⟩)) [] [] :=
  ok_pure fun ρ a w hp => by
    have hv := hx ρ a hp.hft
    have hu := ht.kind; rw [hk] at hu
    have hue := he.kind; rw [hke] at hue
    have hud := htd.kind; rw [hkd] at hud
    obtain ⟨z, hz, hrun, _⟩ := run_first (P := P) hv (hp.hfk k _ hf) rfl rfl hn
    obtain ⟨_, rfl⟩ := hz
    have hr := hrun w (fun _ _ => rfl)
    have hfold : ∀ (l : List Int) (b : ByteArray), l.foldl (fun r n => r.push (UInt8.ofNat n.toNat)) b = ⟨b.data ++ (l.map fun v => UInt8.ofNat v.toNat).toArray⟩ := by
      intro l
      induction l with
      | nil => intro b; simp
      | cons v l ih =>
        intro b
        rw [List.foldl_cons, ih]
        congr 1
        show (b.data.push _) ++ _ = _
        apply Array.ext'
        simp
    have hseg : ((((xs.map fun x => [Value.int .u8 x]).drop i).take n).flatten) = ((xs.drop i).take n).map (Value.int .u8) := by
      rw [← List.map_drop, ← List.map_take, ← List.flatMap_def, List.map_eq_flatMap]
    rcases has_slc hv with ⟨b, t, cap, e1, e2, e3, hval⟩ | ⟨rfl, ad, hval⟩
    · rw [Nat.mul_one] at hval
      rw [hval] at hr
      simp only [Builtin.firstCells, Nat.mul_one, hseg] at hr
      have := run_bytesToString (P := P) w ⟨b, i, none⟩ n cap ((xs.drop i).take n) hr
      rw [hfold] at this
      refine ⟨_, ?_, has_val rfl⟩
      simp only [execOp, ho, hval, convert, Sem.run_bind, run_underlying hu, run_underlying hud, run_underlying hue, Result.andThen_ok, this, Sem.run_pure]
      congr 4
      apply Array.ext'
      simp
    · refine ⟨_, ?_, has_val rfl⟩
      rw [hval] at hr
      cases ad with
      | none =>
        have : (Conv.bytesToString (.slice none 0 0)).run P w = .ok (.string .empty) w := rfl
        simp only [execOp, ho, hval, convert, Sem.run_bind, run_underlying hu, run_underlying hud, run_underlying hue, Result.andThen_ok, this, Sem.run_pure]
        rfl
      | some q =>
        have hr : (loadCells q 0).run P w = .ok (([] : List Int).map (Value.int .u8)).toArray w := rfl
        have := run_bytesToString (P := P) w q 0 0 [] hr
        simp only [execOp, ho, hval, convert, Sem.run_bind, run_underlying hu, run_underlying hud, run_underlying hue, Result.andThen_ok, this, Sem.run_pure]
        rfl
end
end Go.Sx
