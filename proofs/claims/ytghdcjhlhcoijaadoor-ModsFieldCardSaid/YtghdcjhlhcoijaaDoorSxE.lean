/- More operations: store, fields, tuples, building. -/
import Derived.Test.YtghdcjhlhcoijaaDoorSxD
namespace Go.Sx

theorem cellsOf_run {P : Program} {t : TypeId} (h : (P.info? t).isSome = true) (w : World) : (Go.sizeOf t).run P w = .ok (P.cellsOf t) w := by
  cases hi : P.info? t with
  | none => rw [hi] at h; cases h
  | some i => simp [Go.sizeOf, typeInfo, hi, Program.cellsOf]

/-- The block's data with an element's components replaced. -/
def elemPut (d : Data) (i : Nat) (cs : List SV) : Option Data :=
  match d with
  | .one _ => match i with
    | 0 => some (.one cs)
    | _ + 1 => none
  | .ints kd xs => match cs with
    | [.val (.int kd' n)] => if kd' = kd then some (.ints kd (xs.set i n)) else none
    | _ => none
  | .fracs xs => match cs with
    | [.frac q] => some (.fracs (xs.set i q))
    | _ => none
  | .seq w xs => match cs with
    | [c] => match Nat.beq c.width w with
      | true => some (.seq w (xs.set i c))
      | false => none
    | _ => none
  | .dead => none

theorem flatMap_set {α : Type} (f : α → List Value) (n : Nat) : ∀ (xs : List α), (∀ x ∈ xs, (f x).length = n) → ∀ i q, i < xs.length → (xs.set i q).flatMap f = (xs.flatMap f).take (i * n) ++ f q ++ (xs.flatMap f).drop (i * n + n)
  | x :: xs, h, 0, q, _ => by
    have hx := h x (List.mem_cons_self ..)
    simp only [List.set_cons_zero, List.flatMap_cons, Nat.zero_mul, List.take_zero, List.nil_append, Nat.zero_add]
    rw [← hx, List.drop_left]
  | x :: xs, h, i + 1, q, hi => by
    have hx := h x (List.mem_cons_self ..)
    have ih := flatMap_set f n xs (fun y hy => h y (List.mem_cons_of_mem _ hy)) i q (by simpa using hi)
    simp only [List.set_cons_succ, List.flatMap_cons, ih]
    have e : (i + 1) * n = (f x).length + i * n := by rw [hx, Nat.succ_mul]; omega
    rw [e, List.take_length_add_append, Nat.add_assoc, List.drop_length_add_append]
    simp

theorem HasZ_set {ρ : Rho} : ∀ {xs : List SV} {z : List (List Value)}, HasZ ρ xs z → ∀ i c x, HasC ρ c x → HasZ ρ (xs.set i c) (z.set i x)
  | [], z, h, i, c, x, _ => by simp only [HasZ] at h; subst h; simp [HasZ]
  | d :: xs, z, h, 0, c, x, hx => by
    simp only [HasZ] at h
    obtain ⟨y, r, rfl, h1, h2⟩ := h
    simp only [List.set_cons_zero, HasZ]
    exact ⟨x, r, rfl, hx, h2⟩
  | d :: xs, z, h, i + 1, c, x, hx => by
    simp only [HasZ] at h
    obtain ⟨y, r, rfl, h1, h2⟩ := h
    simp only [List.set_cons_succ, HasZ]
    exact ⟨y, _, rfl, h1, HasZ_set h2 i c x hx⟩

theorem HasZ_widths {ρ : Rho} {s : Nat} : ∀ (l : List SV) (y : List (List Value)), HasZ ρ l y → (∀ x ∈ l, x.width = s) → ∀ u ∈ y, (id u).length = s
  | [], y, hy, _, u, hu => by simp only [HasZ] at hy; subst hy; cases hu
  | c :: l, y, hy, hc, u, hu => by
    simp only [HasZ] at hy
    obtain ⟨x, r, rfl, g1, g2⟩ := hy
    rcases List.mem_cons.1 hu with rfl | hu
    · rw [id, (HasC.len c _ g1).1]; exact hc c (List.mem_cons_self ..)
    · exact HasZ_widths l r g2 (fun x hx => hc x (List.mem_cons_of_mem _ hx)) u hu

theorem elemPut_has {ρ : Rho} {d d' : Data} {s i : Nat} {ob : Option Prop} {cs cs' : List SV} {vs : List Value} {z' : List (List Value)} (h : elem d s i = some (ob, cs)) (hob : obP ob) (hd : DataC ρ d vs)
    (h' : elemPut d i cs' = some d') (hz : HasZ ρ cs' z') (hlen : z'.flatten.length = SV.widthL cs) :
    DataC ρ d' (vs.take (i * s) ++ z'.flatten ++ vs.drop (i * s + SV.widthL cs)) := by
  cases d with
  | dead => simp [elem] at h
  | one cs0 =>
    simp only [elem] at h
    cases i with
    | succ i => simp at h
    | zero =>
      simp at h
      obtain ⟨_, rfl⟩ := h
      simp only [elemPut, Option.some.injEq] at h'
      subst h'
      simp only [DataC] at hd ⊢
      obtain ⟨z, h1, rfl⟩ := hd
      refine ⟨z', hz, ?_⟩
      rw [List.drop_eq_nil_of_le (by rw [(HasZ.len _ _ h1).1]; omega)]
      simp
  | ints kd xs =>
    simp only [elem] at h
    cases hs : Nat.beq s 1 with
    | false => rw [hs] at h; simp at h
    | true =>
      rw [hs] at h
      obtain rfl : s = 1 := Nat.eq_of_beq_eq_true hs
      simp only [Option.some.injEq, Prod.mk.injEq] at h
      obtain ⟨rfl, rfl⟩ := h
      have hob : i < xs.length := hob
      unfold elemPut at h'
      simp only at h'
      split at h'
      · rename_i kd' n
        split at h'
        · rename_i hk
          subst hk
          simp only [Option.some.injEq] at h'
          subst h'
          simp only [DataC] at hd ⊢
          subst hd
          simp only [HasZ, HasC] at hz
          obtain ⟨x, r, rfl, ⟨rfl, _⟩, rfl⟩ := hz
          have := flatMap_set (fun x : Int => [Value.int kd' x]) 1 xs (fun _ _ => rfl) i n hob
          rw [List.map_eq_flatMap, List.map_eq_flatMap, this]
          simp [SV.widthL, SV.width]
        · simp at h'
      · simp at h'
  | fracs xs =>
    simp only [elem] at h
    cases hs : Nat.beq s 5 with
    | false => rw [hs] at h; simp at h
    | true =>
      rw [hs] at h
      obtain rfl : s = 5 := Nat.eq_of_beq_eq_true hs
      simp only [Option.some.injEq, Prod.mk.injEq] at h
      obtain ⟨rfl, rfl⟩ := h
      have hob : i < xs.length := hob
      unfold elemPut at h'
      simp only at h'
      split at h'
      · rename_i q
        simp only [Option.some.injEq] at h'
        subst h'
        simp only [DataC] at hd ⊢
        subst hd
        simp only [HasZ, HasC] at hz
        obtain ⟨x, r, rfl, rfl, rfl⟩ := hz
        have := flatMap_set fracCells 5 xs (fun x _ => (fracCells_one x).1) i q hob
        rw [this]
        simp [SV.widthL, SV.width]
      · simp at h'
  | seq w xs =>
    simp only [elem] at h
    cases hs : Nat.beq s w with
    | false => rw [hs] at h; simp at h
    | true =>
      rw [hs] at h
      obtain rfl : s = w := Nat.eq_of_beq_eq_true hs
      simp only [Option.some.injEq, Prod.mk.injEq] at h
      obtain ⟨rfl, rfl⟩ := h
      have hob : i < xs.length := hob
      unfold elemPut at h'
      simp only at h'
      split at h'
      · rename_i c
        cases hw : Nat.beq c.width s with
        | false => rw [hw] at h'; simp at h'
        | true =>
          rw [hw] at h'
          have hcw : c.width = s := Nat.eq_of_beq_eq_true hw
          simp only [Option.some.injEq] at h'
          subst h'
          simp only [DataC] at hd ⊢
          obtain ⟨z, h1, rfl, h2⟩ := hd
          simp only [HasZ] at hz
          obtain ⟨x, r, rfl, hx, rfl⟩ := hz
          refine ⟨z.set i x, HasZ_set h1 i c x hx, ?_, ?_⟩
          · have hg := (HasZ_get h1 i hob).2
            have := flatMap_set id s z (HasZ_widths xs z h1 h2) i x (by omega)
            rw [List.flatMap_id, List.flatMap_id] at this
            rw [this]
            have hgw : (xs.getD i SV.any).width = s := h2 _ (by simp [hob])
            simp only [SV.widthL, hgw, id, Nat.add_zero, List.flatten_cons, List.flatten_nil, List.append_nil]
          · intro y hy
            rcases List.mem_or_eq_of_mem_set hy with h3 | h3
            · exact h2 y h3
            · rw [h3]; exact hcw
      · simp at h'

theorem heap_setRow_same {w : World} {g : Nat} {cs cs' : Array Value} {t : TypeId} {fr : Nat × Nat} (hg : w.heap[g]? = some (.cells cs t fr)) : (w.setRow g cs').heap[g]? = some (.cells cs' t fr) := by
  simp [World.setRow, Array.getElem?_modify, hg]

theorem heap_setRow_other {w : World} {g k : Nat} {cs' : Array Value} (h : k ≠ g) : (w.setRow g cs').heap[k]? = w.heap[k]? := by
  simp [World.setRow, Array.getElem?_modify, Ne.symm h]

section
variable {P : Program} {o : Oper} {ft : List (Nat × SV)} {fk new upd : List (Nat × Blk)} {c : SV}

theorem op_store {t : TypeId} {x y : Operand} {ti : TI} {k s i r f : Nat} {ty : TypeId} {d d' : Data} {ob : Option Prop} {cs cs' nw : List SV} {sv : SV} (ho : o.op = .store t x y) (hx : EvOK ft x (.ptr k s i r)) (hy : EvOK ft y sv)
    (ht : TOK P t ti) (hk : (k, ⟨ty, true, d⟩) ∈ fk) (he : elem d s i = some (ob, cs)) (hob : obP ob) (hc : comps sv = some nw) (hw : SV.widthL nw = ti.size) (hle : r + ti.size ≤ SV.widthL cs)
    (hp : put f cs r ti.size nw = some cs') (hd : elemPut d i cs' = some d') : OpOK P o ft fk .any [] [(k, ⟨ty, true, d'⟩)] :=
  ok_skip fun ρ a w hpre => by
    have hx := hx ρ a hpre.hft
    simp only [Has, HasC] at hx
    obtain ⟨_, ⟨b, n, hkey, rfl⟩, hv⟩ := hx
    simp only [mkV, SV.isOne, if_true, List.headD_cons] at hv
    rcases hpre.hfk k _ hk with h0 | ⟨b', n', vs, ex, h1, h2, h3, h4, h5⟩ | ⟨h1, h2⟩
    case inl => simp only at h0; cases d <;> simp [Data.live, elem] at h0 he
    case inr.inr => rw [hkey] at h1; cases h1
    rw [hkey] at h1
    cases h1
    simp only at h2 h3
    obtain ⟨z, g1, g2, g3⟩ := elem_has he hob h3
    obtain ⟨yz, y1, y2⟩ := comps_has hc (hy ρ a hpre.hft)
    have hyl := (HasZ.len nw yz y1).1
    have hy1 := (HasZ.len nw yz y1).2
    have hzl := (HasZ.len cs z g1).1
    obtain ⟨z', p1, p2⟩ := put_has hp g1 y1
    have hzl' : z'.flatten.length = SV.widthL cs := by
      rw [p2]
      simp only [List.length_append, List.length_take, List.length_drop]
      omega
    have hdc := elemPut_has he hob h3 hd p1 hzl'
    -- the block's cells in parts
    have hsplit : vs = vs.take (i * s) ++ (z.flatten ++ vs.drop (i * s + SV.widthL cs)) := by
      rw [g2, hzl, ← List.drop_drop, List.take_append_drop, List.take_append_drop]
    have hAl : (vs.take (i * s)).length = i * s := by rw [List.length_take]; omega
    generalize hA : vs.take (i * s) = A at hsplit hAl hdc
    generalize hC : vs.drop (i * s + SV.widthL cs) = C at hsplit hdc
    have hsz : (yz.flatten).length = ti.size := by omega
    have hL : (vs ++ ex).take (i * s + r) ++ yz.flatten ++ (vs ++ ex).drop (i * s + r + yz.flatten.length) = (A ++ z'.flatten ++ C) ++ ex := by
      rw [hsplit, p2, hsz, ← hAl]
      simp only [List.append_assoc]
      rw [List.take_length_add_append, Nat.add_assoc, List.drop_length_add_append, List.take_append_of_le_length (by omega), List.drop_append_of_le_length (by omega)]
      try simp
    have hrun : (storeVar t ⟨b, i * s + r, none⟩ (a.eval y)).run P w = .ok () (w.setRow b ((A ++ z'.flatten ++ C) ++ ex).toArray) := by
      have hsc := run_storeCells_at (P := P) b (i * s + r) ty yz.flatten 0 (vs ++ ex).toArray w h2 (by simp only [List.size_toArray, List.length_append]; omega) hy1
      simp only [Nat.add_zero, hL] at hsc
      have hcells : (a.eval y).cells.size = ti.size := by rw [← Array.length_toList, y2]; exact hsz
      unfold storeVar
      simp only [Sem.run_bind, ht.sizeOf, Result.andThen_ok, hcells, ne_eq, not_true_eq_false, if_false, y2, hsc]
    refine ⟨w.setRow b ((A ++ z'.flatten ++ C) ++ ex).toArray, ρ, ?_, ?_⟩
    · simp only [execOp, ho, Instr.storeAt, Instr.sureAddr, hv, Sem.run_bind, Sem.run_pure, Result.andThen_ok, hrun]
    · refine ⟨.refl ρ, trivial, fun _ _ => rfl, ⟨rfl, rfl, rfl, by simp [World.setRow], fun i hi hn => ?_⟩, fun j bj hj => ?_, (fun j c c' h1 h2 h3 h4 => ?_), (fun _ _ _ h => by cases h), (fun _ _ _ _ _ _ h => by cases h), fun b o h => .inl h⟩
      · refine heap_setRow_other fun hib => hn ⟨k, _, n, List.mem_cons_self .., ?_⟩
        rw [hib]; exact hkey
      · rcases hj with hj | hj
        · simp only [List.mem_singleton, Prod.mk.injEq] at hj
          obtain ⟨rfl, rfl⟩ := hj
          refine .inr (.inl ⟨b, n, _, ex, hkey, heap_setRow_same h2, hdc, ?_, h5⟩)
          rw [← h4, hsplit]
          simp only [List.length_append, hzl', hzl]
          omega
        · cases hj
      · simp only [List.mem_singleton, Prod.mk.injEq] at h1 h2
        obtain ⟨_, rfl⟩ := h1
        obtain ⟨_, rfl⟩ := h2
        rw [h3] at h4; cases h4

/-- The address of a field. -/
theorem op_fieldAddr {S : TypeId} {x : Operand} {j off e sz : Nat} {ti : TI} {fs : List (Nat × TypeId × Nat)} {k s i r : Nat} (ho : o.op = .fieldAddr S x j) (hx : EvOK ft x (.ptr k s i r)) (ht : TOK P S ti)
    (hkd : ti.kind = .agg fs) (hj : fs[j]? = some (off, e, sz)) (hsz : sz ≠ 0) : OpOK P o ft fk (.ptr k s i (r + off)) [] [] :=
  ok_pure fun ρ a w hp => by
    have hx := hx ρ a hp.hft
    simp only [Has, HasC] at hx
    obtain ⟨_, ⟨b, n, hkey, rfl⟩, hv⟩ := hx
    simp only [mkV, SV.isOne, if_true, List.headD_cons] at hv
    have hk := ht.kind
    rw [hkd] at hk
    obtain ⟨h1, h2, h3⟩ := hk
    have hf : ∃ fd, (P.fieldsOf S)[j]? = some fd ∧ fd.offset = off ∧ P.cellsOf fd.type = sz ∧ (P.info? fd.type).isSome = true := by
      rw [← h2, List.getElem?_map] at hj
      cases hq : (P.fieldsOf S).toList[j]? with
      | none => rw [hq] at hj; simp at hj
      | some fd =>
        rw [hq] at hj
        simp only [Option.map_some, Option.some.injEq, Prod.mk.injEq] at hj
        refine ⟨fd, by simpa using hq, hj.1, hj.2.2, ?_⟩
        exact List.all_eq_true.1 h3 fd (List.mem_of_getElem? hq)
    obtain ⟨fd, f1, f2, f3, f4⟩ := hf
    refine ⟨.pointer (some ⟨b, i * s + (r + off), none⟩), ?_, ?_⟩
    · have hadd : (⟨b, i * s + r, none⟩ : Addr).add fd.offset = ⟨b, i * s + (r + off), none⟩ := by
        unfold Addr.add
        rw [f2]
        split
        · rename_i h0; simp [h0]
        · simp [Nat.add_assoc]
      simp [execOp, ho, Instr.fieldAt, run_underlying h1, f1, Instr.sureAddr, hv, fieldPlace, cellsOf_run f4, f3, hsz, hadd]
    · simp only [Has, HasC]
      exact ⟨_, ⟨b, n, hkey, rfl⟩, by simp [mkV, SV.isOne]⟩

/-- A component of a tuple. -/
theorem op_extract {x : Operand} {ix : Nat} {l : List SV} (ho : o.op = .extract x ix) (hx : EvOK ft x (.tup l)) (hl : l[ix]? = some c) (hc : c.isOne = true ∨ (comps c).isSome = true) : OpOK P o ft fk c [] [] :=
  ok_pure fun ρ a w hp => by
    have hx := hx ρ a hp.hft
    simp only [Has] at hx
    obtain ⟨z, h1, hv⟩ := hx
    have key : ∀ (l : List SV) (z : List (List Value)) (ix : Nat), HasZ ρ l z → l[ix]? = some c → ∃ x, HasC ρ c x ∧ (List.zipWith mkV l z)[ix]? = some (mkV c x) := by
      intro l
      induction l with
      | nil => intro z ix _ h; simp at h
      | cons d l ih =>
        intro z ix hz h
        simp only [HasZ] at hz
        obtain ⟨x, r, rfl, g1, g2⟩ := hz
        cases ix with
        | zero => simp at h; subst h; exact ⟨x, g1, by simp⟩
        | succ ix => simpa using ih r ix g2 (by simpa using h)
    obtain ⟨x', g1, g2⟩ := key l z ix h1 hl
    refine ⟨mkV c x', ?_, ?_⟩
    · simp [execOp, ho, Instr.extract, hv, g2]
    · cases c <;> simp only [Has]
      case tup => simp [comps, SV.isOne] at hc
      all_goals exact ⟨x', g1, rfl⟩
end
end Go.Sx
