/- What single operations do: each against the model's own 'execOp'. -/
import Derived.Test.YtghdcjhlhcoijaaDoorSxC
import Derived.Laws.Small
import Derived.Laws.NewBlocks
namespace Go.Sx

def EvOK (ft : List (Nat × SV)) (x : Operand) (c : SV) : Prop := ∀ ρ a, (∀ t s, (t, s) ∈ ft → Has ρ s (a.tmps.getD t undef)) → Has ρ c (Act.eval a x)

def lk (l : List (Nat × SV)) (t : Nat) : Option SV := match l with
  | [] => none
  | (u, s) :: r => match Nat.beq u t with | true => some s | false => lk r t

theorem lk_mem : ∀ {l : List (Nat × SV)} {t : Nat} {s : SV}, lk l t = some s → (t, s) ∈ l
  | (u, s') :: r, t, s, h => by
    unfold lk at h
    split at h
    · rename_i hu
      obtain rfl : u = t := Nat.eq_of_beq_eq_true hu
      cases h
      exact List.mem_cons_self ..
    · exact List.mem_cons_of_mem _ (lk_mem h)

/-- An operand's value. -/
def ev (fr : List (Nat × SV)) : Operand → Option SV
  | .tmp t => lk fr t
  | .const v => match v.oneCell' with
    | true => some (.val v)
    | false => none
  | .func f => some (.clo f [] [])
  | .global g => some (.val (.pointer (some ⟨g, 0, none⟩)))

theorem ev_ok {fr : List (Nat × SV)} {x : Operand} {c : SV} (h : ev fr x = some c) : EvOK fr x c := by
  intro ρ a hf
  cases x with
  | tmp t => exact hf t c (lk_mem h)
  | const v =>
    simp only [ev] at h
    cases hv : v.oneCell' with
    | false => rw [hv] at h; simp at h
    | true =>
      rw [hv] at h
      simp at h
      subst h
      simp only [Has, Act.eval]
      exact ⟨[v], by simp [HasC, hv], by simp [mkV, SV.isOne]⟩
  | func f =>
    simp only [ev, Option.some.injEq] at h
    subst h
    simp only [Has, Act.eval]
    exact ⟨[.func (.func f) #[] #[]], by simp only [HasC]; exact ⟨[], [], by simp [HasZ], by simp [HasZ], by simp⟩, by simp [mkV, SV.isOne]⟩
  | global g =>
    simp only [ev, Option.some.injEq] at h
    subst h
    simp only [Has, Act.eval]
    exact ⟨[.pointer (some ⟨g, 0, none⟩)], by simp [HasC, Value.oneCell'], by simp [mkV, SV.isOne]⟩

/-- What an operation's symbolic run gives: a condition, the value, the blocks that it needs, makes, writes. -/
structure Res where
  ob : Prop
  val : SV
  fk : List (Nat × Blk)
  new : List (Nat × Blk)
  upd : List (Nat × Blk)

theorem Post.pure {ρ : Rho} {w : World} {c : SV} {v : Value} (h : Has ρ c v) : Post ρ w c [] [] v ρ w :=
  ⟨.refl ρ, h, fun _ _ => rfl, .refl _ w, (fun k b h => by rcases h with h | h <;> cases h), (fun _ _ _ h => by cases h), (fun k b x h => by cases h), (fun k b k' b' x x' h => by cases h), fun b o h => .inl h⟩

section
variable {P : Program} {o : Oper} {ft : List (Nat × SV)} {fk new upd : List (Nat × Blk)} {c : SV}

theorem ok_value (h : ∀ ρ a w, Pre ft fk new ρ a w → ∃ v w' ρ', (execOp a.eval o).run P w = .ok (.value v) w' ∧ Post ρ w c new upd v ρ' w') : OpOK P o ft fk c new upd := by
  intro ρ a w hp
  obtain ⟨v, w', ρ', h1, h2⟩ := h ρ a w hp
  unfold Oper.wp
  rw [h1]
  exact ⟨v, ρ', rfl, h2⟩

theorem ok_skip (h : ∀ ρ a w, Pre ft fk new ρ a w → ∃ w' ρ', (execOp a.eval o).run P w = .ok .skip w' ∧ Post ρ w c new upd undef ρ' w') : OpOK P o ft fk c new upd := by
  intro ρ a w hp
  obtain ⟨w', ρ', h1, h2⟩ := h ρ a w hp
  unfold Oper.wp
  rw [h1]
  exact ⟨undef, ρ', rfl, h2⟩

theorem ok_pure (h : ∀ ρ a w, Pre ft fk [] ρ a w → ∃ v, (execOp a.eval o).run P w = .ok (.value v) w ∧ Has ρ c v) : OpOK P o ft fk c [] [] :=
  ok_value fun ρ a w hp => by
    obtain ⟨v, h1, h2⟩ := h ρ a w hp
    exact ⟨v, w, ρ, h1, .pure h2⟩

theorem op_move {x : Operand} (ho : o.op = .move x ∨ o.op = .assign x) (hx : EvOK ft x c) : OpOK P o ft fk c [] [] :=
  ok_pure fun ρ a w hp => ⟨a.eval x, by rcases ho with ho | ho <;> simp [execOp, ho], hx ρ a hp.hft⟩

/-- A new block of one variable. -/
theorem post_new {ρ : Rho} {w : World} {k : Nat} {ty : TypeId} {wr : Bool} {d : Data} {vs : List Value} (hk : ρ.key k = none) (hd : DataC ρ d vs) :
    Post ρ w (.ptr k 0 0 0) [(k, ⟨ty, wr, d⟩)] [] (.pointer (some ⟨w.heap.size, 0, none⟩)) ⟨fun j => if j = k then some (w.heap.size, vs.length) else ρ.key j, ρ.imm, ρ.glob⟩ (w.alloc (.cells vs.toArray ty (0, 0))) := by
  have hle : ρ.Le ⟨fun j => if j = k then some (w.heap.size, vs.length) else ρ.key j, ρ.imm, ρ.glob⟩ := ⟨fun j x hx => by
    show (if j = k then _ else _) = _
    by_cases hj : j = k
    · subst hj; rw [hk] at hx; cases hx
    · rw [if_neg hj]; exact hx, fun b ob hb => hb⟩
  refine ⟨hle, ?_, ?_, ?_, ?_, (fun _ _ _ h => by cases h), ?_, ?_, fun b ob hb => .inl hb⟩
  · simp only [Has, HasC]
    exact ⟨_, ⟨w.heap.size, vs.length, by simp, rfl⟩, by simp [mkV, SV.isOne]⟩
  · intro j hj
    show (if j = k then _ else _) = _
    rw [if_neg]
    rintro rfl
    exact hj _ (List.mem_cons_self ..)
  · exact .of_below ((RowKit.Below.refl _ _).alloc (Nat.le_refl _) _)
  · intro j b hj
    rcases hj with hj | hj
    · cases hj
    · simp only [List.mem_singleton, Prod.mk.injEq] at hj
      obtain ⟨rfl, rfl⟩ := hj
      refine .inr (.inl ⟨w.heap.size, vs.length, vs, [], by simp, ?_, hd.mono hle, by simp, by simp⟩)
      rw [List.append_nil]
      exact heap_alloc_new _ _
  · intro j b x hj hx
    simp only [List.mem_singleton, Prod.mk.injEq] at hj
    obtain ⟨rfl, rfl⟩ := hj
    simp at hx
    rw [← hx]
    exact .inl (Nat.le_refl _)
  · intro j b j' b' x x' hj hj' hne
    simp only [List.mem_singleton, Prod.mk.injEq] at hj hj'
    exact absurd (hj.1.trans hj'.1.symm) hne

theorem op_box {x : Operand} {elem : TypeId} {k : Nat} {sv : SV} {cs : List SV} (ho : o.op = .box elem x) (hx : EvOK ft x sv) (hc : comps sv = some cs) :
    OpOK P o ft fk (.ptr k 0 0 0) [(k, ⟨elem, true, .one cs⟩)] [] :=
  ok_value fun ρ a w hp => by
    obtain ⟨z, h1, h2⟩ := comps_has hc (hx ρ a hp.hft)
    refine ⟨_, _, _, ?_, post_new (ty := elem) (wr := true) (d := .one cs) (vs := z.flatten) (hp.fresh k _ (List.mem_cons_self ..)) ⟨z, h1, rfl⟩⟩
    have : (a.eval x).cells = z.flatten.toArray := by rw [← h2]
    simp [execOp, ho, Instr.box, newVar, newRow, this]

theorem op_alloc {elem : TypeId} {k : Nat} {ti : TI} (ho : o.op = .alloc elem) (ht : TOK P elem ti) :
    OpOK P o ft fk (.ptr k 0 0 0) [(k, ⟨elem, true, .one ti.zero⟩)] [] :=
  ok_value fun ρ a w hp => by
    obtain ⟨z, h1, h2⟩ := ht.zeroValue
    obtain ⟨_, _, _, _, _, _, _, hz, _⟩ := ht.info
    refine ⟨_, _, _, ?_, post_new (ty := elem) (wr := true) (d := .one ti.zero) (vs := ti.zero.flatMap zcell) (hp.fresh k _ (List.mem_cons_self ..)) ⟨_, zero_has hz, by simp [List.flatMap]⟩⟩
    have : z.cells = (ti.zero.flatMap zcell).toArray := by rw [← h2]
    simp [execOp, ho, Instr.alloc, newVar, newRow, this, h1]

/-- A condition, or none. -/
def obP : Option Prop → Prop
  | none => True
  | some p => p

def req (ob : Option Prop) (k : Prop) : Prop := match ob with
  | none => k
  | some p => p ∧ k

theorem req_spec {ob : Option Prop} {k : Prop} (h : req ob k) : obP ob ∧ k := by
  cases ob with
  | none => exact ⟨trivial, h⟩
  | some p => exact h

/-- The components of an element of a block. -/
def elem (d : Data) (s i : Nat) : Option (Option Prop × List SV) :=
  match d with
  | .one cs => match i with
    | 0 => some (none, cs)
    | _ + 1 => none
  | .ints kd xs => match Nat.beq s 1 with
    | true => some (some (i < xs.length), [.val (.int kd (xs.getD i 0))])
    | false => none
  | .fracs xs => match Nat.beq s 5 with
    | true => some (some (i < xs.length), [.frac (xs.getD i 0)])
    | false => none
  | .seq w xs => match Nat.beq s w with
    | true => some (some (i < xs.length), [xs.getD i .any])
    | false => none
  | .dead => none

theorem flatMap_seg {α : Type} (f : α → List Value) (n : Nat) (d : α) : ∀ (xs : List α), (∀ x ∈ xs, (f x).length = n) → ∀ i, i < xs.length → ((xs.flatMap f).drop (i * n)).take n = f (xs.getD i d)
  | x :: xs, h, 0, _ => by
    have hx := h x (List.mem_cons_self ..)
    simp only [List.flatMap_cons, Nat.zero_mul, List.drop_zero, List.getD_cons_zero]
    rw [← hx, List.take_left]
  | x :: xs, h, i + 1, hi => by
    have hx := h x (List.mem_cons_self ..)
    have ih := flatMap_seg f n d xs (fun y hy => h y (List.mem_cons_of_mem _ hy)) i (by simpa using hi)
    simp only [List.flatMap_cons, List.getD_cons_succ]
    have e : (i + 1) * n = (f x).length + i * n := by rw [hx, Nat.succ_mul]; omega
    rw [e, List.drop_length_add_append]
    exact ih

theorem flatMap_len {α : Type} (f : α → List Value) (n : Nat) : ∀ (xs : List α), (∀ x ∈ xs, (f x).length = n) → (xs.flatMap f).length = xs.length * n
  | [], _ => by simp
  | x :: xs, h => by
    have hx := h x (List.mem_cons_self ..)
    have ih := flatMap_len f n xs (fun y hy => h y (List.mem_cons_of_mem _ hy))
    simp only [List.flatMap_cons, List.length_append, List.length_cons, hx, ih, Nat.succ_mul]
    omega

theorem HasZ_get {ρ : Rho} : ∀ {xs : List SV} {z : List (List Value)}, HasZ ρ xs z → ∀ i, i < xs.length → HasC ρ (xs.getD i .any) (z.getD i []) ∧ z.length = xs.length
  | c :: xs, z, h, 0, _ => by
    simp only [HasZ] at h
    obtain ⟨x, r, rfl, h1, h2⟩ := h
    refine ⟨by simpa using h1, ?_⟩
    cases xs with
    | nil => simp only [HasZ] at h2; subst h2; rfl
    | cons c' xs => have := (HasZ_get h2 0 (by simp)).2; simp [this]
  | c :: xs, z, h, i + 1, hi => by
    simp only [HasZ] at h
    obtain ⟨x, r, rfl, h1, h2⟩ := h
    obtain ⟨h3, h4⟩ := HasZ_get h2 i (by simpa using hi)
    exact ⟨by simpa using h3, by simp [h4]⟩

theorem mul_lt_len {i n s : Nat} (h : i < n) : i * s + s ≤ n * s := by
  have := Nat.mul_le_mul_right s (Nat.succ_le_of_lt h)
  rw [Nat.succ_mul] at this
  exact this

theorem elem_has {ρ : Rho} {d : Data} {s i : Nat} {ob : Option Prop} {cs : List SV} {vs : List Value} (h : elem d s i = some (ob, cs)) (hob : obP ob) (hd : DataC ρ d vs) :
    ∃ z, HasZ ρ cs z ∧ z.flatten = (vs.drop (i * s)).take z.flatten.length ∧ i * s + z.flatten.length ≤ vs.length := by
  cases d with
  | dead => simp [elem] at h
  | one cs' =>
    simp only [elem] at h
    cases i with
    | succ i => simp at h
    | zero =>
      simp at h
      obtain ⟨_, rfl⟩ := h
      simp only [DataC] at hd
      obtain ⟨z, h1, rfl⟩ := hd
      exact ⟨z, h1, by rw [List.take_of_length_le] <;> simp, by simp⟩
  | ints kd xs =>
    simp only [elem] at h
    cases hs : Nat.beq s 1 with
    | false => rw [hs] at h; simp at h
    | true =>
      rw [hs] at h
      obtain rfl : s = 1 := Nat.eq_of_beq_eq_true hs
      simp only [Option.some.injEq, Prod.mk.injEq] at h
      obtain ⟨rfl, rfl⟩ := h
      have hob : i < xs.length := hob
      simp only [DataC] at hd
      subst hd
      refine ⟨[[.int kd (xs.getD i 0)]], by simp [HasZ, HasC, Value.oneCell'], ?_, by simp; omega⟩
      have := flatMap_seg (fun x : Int => [Value.int kd x]) 1 0 xs (fun _ _ => rfl) i hob
      rw [show xs.map (Value.int kd) = xs.flatMap (fun x => [Value.int kd x]) from by rw [List.map_eq_flatMap]]
      exact this.symm
  | fracs xs =>
    simp only [elem] at h
    cases hs : Nat.beq s 5 with
    | false => rw [hs] at h; simp at h
    | true =>
      rw [hs] at h
      obtain rfl : s = 5 := Nat.eq_of_beq_eq_true hs
      simp only [Option.some.injEq, Prod.mk.injEq] at h
      obtain ⟨rfl, rfl⟩ := h
      have hob : i < xs.length := hob
      simp only [DataC] at hd
      subst hd
      refine ⟨[fracCells (xs.getD i 0)], by simp [HasZ, HasC], ?_, ?_⟩
      · have := flatMap_seg fracCells 5 0 xs (fun x _ => (fracCells_one x).1) i hob
        simp only [List.flatten_cons, List.flatten_nil, List.append_nil]
        rw [(fracCells_one _).1]
        exact this.symm
      · simp only [List.flatten_cons, List.flatten_nil, List.append_nil]
        rw [(fracCells_one _).1, flatMap_len fracCells 5 xs (fun x _ => (fracCells_one x).1)]
        exact mul_lt_len hob
  | seq w xs =>
    simp only [elem] at h
    cases hs : Nat.beq s w with
    | false => rw [hs] at h; simp at h
    | true =>
      rw [hs] at h
      obtain rfl : s = w := Nat.eq_of_beq_eq_true hs
      simp only [Option.some.injEq, Prod.mk.injEq] at h
      obtain ⟨rfl, rfl⟩ := h
      have hob : i < xs.length := hob
      simp only [DataC] at hd
      obtain ⟨z, h1, rfl, h2⟩ := hd
      obtain ⟨h3, h4⟩ := HasZ_get h1 i hob
      have hw : ∀ (l : List SV) (y : List (List Value)), HasZ ρ l y → (∀ x ∈ l, x.width = s) → ∀ u ∈ y, (id u).length = s := by
        intro l
        induction l with
        | nil => intro y hy _ u hu; simp only [HasZ] at hy; subst hy; cases hu
        | cons c l ih =>
          intro y hy hc u hu
          simp only [HasZ] at hy
          obtain ⟨x, r, rfl, g1, g2⟩ := hy
          rcases List.mem_cons.1 hu with rfl | hu
          · rw [id, (HasC.len c _ g1).1]; exact hc c (List.mem_cons_self ..)
          · exact ih r g2 (fun x hx => hc x (List.mem_cons_of_mem _ hx)) u hu
      have hall := hw xs z h1 h2
      have hi : i < z.length := by omega
      have hlen : (z.getD i []).length = s := by
        have := hall (z.getD i []) (by simp [hi])
        simpa using this
      refine ⟨[z.getD i []], by simp only [HasZ]; exact ⟨_, [], rfl, h3, rfl⟩, ?_, ?_⟩
      · have := flatMap_seg id s [] z hall i hi
        simp only [List.flatten_cons, List.flatten_nil, List.append_nil, hlen]
        rw [List.flatMap_id] at this
        exact this.symm
      · simp only [List.flatten_cons, List.flatten_nil, List.append_nil, hlen]
        have := flatMap_len id s z hall
        rw [List.flatMap_id] at this
        rw [this, h4]
        exact mul_lt_len hob

theorem take_eq_get {L y : List Value} {off n : Nat} (h : y = (L.drop off).take n) : ∀ j v, y[j]? = some v → L[off + j]? = some v := by
  intro j v hj
  subst h
  rw [List.getElem?_take] at hj
  split at hj
  · rw [List.getElem?_drop] at hj; exact hj
  · cases hj

theorem run_load_at {t : TypeId} {ti : TI} (ht : TOK P t ti) {w : World} {b off : Nat} {L : List Value} {ty : TypeId} {y : List Value} (hh : w.heap[b]? = some (.cells L.toArray ty (0, 0)))
    (hy : y = (L.drop off).take ti.size) (hle : off + ti.size ≤ L.length) (h1 : ti.kind.isAgg = true ∨ ti.size = 1) :
    (loadVar t ⟨b, off, none⟩).run P w = .ok (if ti.kind.isAgg then .agg y.toArray else y.headD undef) w := by
  have hlen : y.length = ti.size := by rw [hy, List.length_take, List.length_drop]; omega
  have hcell : ∀ j v, y[j]? = some v → w.cell? ((⟨b, off, none⟩ : Addr).add j) = some v := by
    intro j v hj
    have h2 := take_eq_get hy j v hj
    have hadd : (⟨b, off, none⟩ : Addr).add j = ⟨b, off + j, none⟩ := by unfold Addr.add; split <;> simp_all
    rw [hadd, cell_of_row w b (off + j) _ ty (0, 0) hh]
    simpa using h2
  unfold loadVar
  rw [Sem.run_bind, ht.isAgg]
  cases ha : ti.kind.isAgg with
  | true =>
    have hl := run_loadCells_list (P := P) w ⟨b, off, none⟩ y hcell
    rw [hlen] at hl
    simp [ht.sizeOf, hl]
  | false =>
    rcases h1 with h1 | h1
    · rw [ha] at h1; cases h1
    · match y, hlen, hcell with
      | [], hlen, _ => simp at hlen; omega
      | v :: r, _, hcell =>
        have := hcell 0 v rfl
        simp only [Addr.add, if_true] at this
        simp [this]

theorem load_at {ρ : Rho} {w : World} {t : TypeId} {ti : TI} {k s i r f b n : Nat} {blk : Blk} {ob : Option Prop} {cs l : List SV} (ht : TOK P t ti) (hkey : ρ.key k = some (b, n)) (hb : BlkOK ρ w k blk)
    (he : elem blk.data s i = some (ob, cs)) (hob : obP ob) (hs : sub f cs r ti.size = some l) (hsz : ti.size ≠ 0) (hsh : shapeAs ti l = some c) : ∃ v, (loadVar t ⟨b, i * s + r, none⟩).run P w = .ok v w ∧ Has ρ c v := by
    rcases hb with h0 | ⟨b', n', vs, ex, h1, h2, h3, h4, h5⟩ | ⟨h1, h2⟩
    case inl => cases hd0 : blk.data <;> rw [hd0] at h0 he <;> simp [Data.live, elem] at h0 he
    case inr.inr => rw [hkey] at h1; cases h1
    rw [hkey] at h1
    cases h1
    obtain ⟨z, g1, g2, g3⟩ := elem_has he hob h3
    obtain ⟨y, e1, e2, e3⟩ := sub_has f cs r ti.size l z hs g1
    have e3 := e3.resolve_left hsz
    have hy : y.flatten = ((vs ++ ex).drop (i * s + r)).take ti.size := by
      rw [e2, g2, List.drop_take, List.drop_drop, List.take_take, Nat.min_eq_left (by omega), List.drop_append_of_le_length (by omega), List.take_append_of_le_length (by simp; omega)]
    have hone : ti.kind.isAgg = true ∨ ti.size = 1 := by
      cases ha : ti.kind.isAgg with
      | true => exact .inl rfl
      | false =>
        right
        unfold shapeAs at hsh
        rw [ha] at hsh
        match l, hsh, e1 with
        | [d], hsh, e1 =>
          simp only [HasZ] at e1
          obtain ⟨u, _, rfl, d1, rfl⟩ := e1
          have hd : d.isOne = true := by
            cases hd : d.isOne with
            | true => rfl
            | false => simp only at hsh; rw [hd] at hsh; simp at hsh
          have hw1 : d.width = 1 := by
            cases d <;> simp only [SV.isOne, Bool.false_eq_true] at hd <;> simp only [SV.width]
            exact Pred.bareLen _ hd
          have := (HasC.len d u d1).1
          simp only [List.flatten_cons, List.flatten_nil, List.append_nil] at e2
          have h7 := congrArg List.length e2
          rw [List.length_take, List.length_drop] at h7
          omega
        | [], hsh, _ => simp at hsh
        | _ :: _ :: _, hsh, _ => simp at hsh
    exact ⟨_, run_load_at ht (P := P) h2 hy (by simp; omega) hone, shapeAs_has hsh e1 rfl⟩

theorem op_load {t : TypeId} {x : Operand} {ti : TI} {k s i r f : Nat} {blk : Blk} {ob : Option Prop} {cs l : List SV} (ho : o.op = .load t x) (hx : EvOK ft x (.ptr k s i r)) (ht : TOK P t ti)
    (hk : (k, blk) ∈ fk) (he : elem blk.data s i = some (ob, cs)) (hob : obP ob) (hs : sub f cs r ti.size = some l) (hsz : ti.size ≠ 0) (hsh : shapeAs ti l = some c) : OpOK P o ft fk c [] [] :=
  ok_pure fun ρ a w hp => by
    have hx := hx ρ a hp.hft
    simp only [Has, HasC] at hx
    obtain ⟨_, ⟨b, n, hkey, rfl⟩, hv⟩ := hx
    simp only [mkV, SV.isOne, if_true, List.headD_cons] at hv
    obtain ⟨v, h1, h2⟩ := load_at ht hkey (hp.hfk k blk hk) he hob hs hsz hsh
    exact ⟨v, by simp [execOp, ho, Instr.loadAt, Instr.sureAddr, hv, h1], h2⟩
end
end Go.Sx
