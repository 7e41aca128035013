/- The symbolic run of a region, in lexical order; that it serves every order; code. -/
import Derived.Test.YtghdcjhlhcoijaaDoorSxM
namespace Go.Sx

def pick (fr : List (Nat × SV)) : List Nat → List (Nat × SV)
  | [] => []
  | t :: r => match lk fr t with
    | some s => (t, s) :: pick fr r
    | none => pick fr r

theorem pick_mem {fr : List (Nat × SV)} : ∀ {ts : List Nat} {t : Nat} {s : SV}, (t, s) ∈ pick fr ts → lk fr t = some s ∧ t ∈ ts
  | u :: r, t, s, h => by
    unfold pick at h
    split at h
    · rename_i s' hs
      rcases List.mem_cons.1 h with h | h
      · cases h; exact ⟨hs, List.mem_cons_self ..⟩
      · exact ⟨(pick_mem h).1, List.mem_cons_of_mem _ (pick_mem h).2⟩
    · exact ⟨(pick_mem h).1, List.mem_cons_of_mem _ (pick_mem h).2⟩

def tmpsOf : List Operand → List Nat
  | [] => []
  | .tmp t :: r => t :: tmpsOf r
  | _ :: r => tmpsOf r

def looks (o : Oper) : List Nat := tmpsOf o.op.operands.toList

/-- A slice expression's bound. -/
def bound (fr : List (Nat × SV)) (dflt : Option Int) : Option Operand → Option Int
  | none => dflt
  | some x => match ev fr x with
    | some (.val (.int _ j)) => some j
    | _ => none

theorem bound_spec {fr : List (Nat × SV)} {d : Int} {x : Option Operand} {j : Int} (h : bound fr (some d) x = some j) : x = none ∧ j = d ∨ ∃ y kd, x = some y ∧ EvOK fr y (.val (.int kd j)) := by
  unfold bound at h
  split at h
  · simp only [Option.some.injEq] at h; exact .inl ⟨rfl, h.symm⟩
  · split at h
    · rename_i y _ kd j' hy
      simp only [Option.some.injEq] at h
      subst h
      exact .inr ⟨y, kd, rfl, ev_ok hy⟩
    · simp at h

/-- One operation, symbolically; 'k' takes the value, the blocks needed, made, written. -/
def exec (P : Program) (T : List (TypeId × TI)) (fr : List (Nat × SV)) (hp : List (Nat × Blk)) (o : Oper) (k : SV → List (Nat × Blk) → List (Nat × Blk) → List (Nat × Blk) → Prop) : Prop :=
  match o.op with
  | .move x => match ev fr x with
    | some c => k c [] [] []
    | none => False
  | .assign x => match ev fr x with
    | some c => k c [] [] []
    | none => False
  | .box e x => match o.dst, ev fr x with
    | some d, some sv => match comps sv, find hp d with
      | some cs, none => k (.ptr d 0 0 0) [] [(d, ⟨e, true, .one cs⟩)] []
      | _, _ => False
    | _, _ => False
  | .alloc e => match o.dst, tfind T e with
    | some d, some ti => match find hp d with
      | none => k (.ptr d 0 0 0) [] [(d, ⟨e, true, .one ti.zero⟩)] []
      | some _ => False
    | _, _ => False
  | .load t x => match ev fr x, tfind T t with
    | some (.ptr key s i r), some ti => match find hp key with
      | some blk => match elem blk.data s i with
        | some (ob, cs) => match sub 64 cs r ti.size, ti.size with
          | some l, _ + 1 => match shapeAs ti l with
            | some c => req ob <| k c [(key, blk)] [] []
            | none => False
          | _, _ => False
        | none => False
      | none => False
    | some (.val _), _ => ∃ c fk new, OpOK P o fr fk c new [] ∧ (∀ j b, (j, b) ∈ fk → find hp j = some b) ∧ (∀ j b, (j, b) ∈ new → find hp j = none) ∧ k c fk new []
    | _, _ => False
  | .store t x y => match ev fr x, ev fr y, tfind T t with
    | some (.ptr key s i r), some sv, some ti => match find hp key, comps sv with
      | some ⟨ty, true, d⟩, some nw => match elem d s i with
        | some (ob, cs) => match Nat.beq (SV.widthL nw) ti.size, Nat.ble (r + ti.size) (SV.widthL cs) with
          | true, true => match put 64 cs r ti.size nw with
            | some cs' => match elemPut d i cs' with
              | some d' => req ob <| k .any [(key, ⟨ty, true, d⟩)] [] [(key, ⟨ty, true, d'⟩)]
              | none => False
            | none => False
          | _, _ => False
        | none => False
      | _, _ => False
    | _, _, _ => False
  | .fieldAddr s x j => match ev fr x, tfind T s with
    | some (.ptr key sz i r), some ⟨.agg fs, _, _, _⟩ => match fs[j]? with
      | some (off, _, _ + 1) => k (.ptr key sz i (r + off)) [] [] []
      | _ => False
    | _, _ => False
  | .extract x ix => match ev fr x with
    | some (.tup l) => match l[ix]? with
      | some c => match (c.isOne || (comps c).isSome) with
        | true => k c [] [] []
        | false => False
      | none => False
    | _ => False
  | .binOp op xt x y _ => match ev fr x, ev fr y with
    | some (.val (.int k1 a)), some (.val (.int k2 b)) => match op with
      | .shl => 0 ≤ b ∧ k (.val (.int k1 (ishl k1 a b))) [] [] []
      | .shr => 0 ≤ b ∧ k (.val (.int k1 (ishr k1 a b))) [] [] []
      | op => if k1 = k2 then match ibin op k1 a b with
        | some (ob, v) => req ob <| k (.val v) [] [] []
        | none => False
        else False
    | some (.val (.bool a)), some (.val (.bool b)) => match tfind T xt with
      | some ⟨.bool, _, _, _⟩ => match op with
        | .eql => k (.val (.bool (a == b))) [] [] []
        | .neq => k (.val (.bool (a != b))) [] [] []
        | _ => False
      | _ => False
    | some (.val (.string a)), some (.val (.string b)) => match sbin op a b with
      | some (ob, v) => req ob <| k (.val v) [] [] []
      | none => False
    | some _, some _ => ∃ v, OpOK P o fr [] (.val v) [] [] ∧ k (.val v) [] [] []
    | _, _ => False
  | .unOp op _ x => match op, ev fr x with
    | .not, some (.val (.bool a)) => k (.val (.bool (!a))) [] [] []
    | .neg, some (.val (.int kd a)) => k (.val (.int kd (kd.wrap (0 - a)))) [] [] []
    | _, _ => False
  | .convert s d x => match ev fr x, tfind T s, tfind T d with
    | some (.val (.int k2 a)), some ⟨.int k1, _, _, _⟩, some ⟨.int kd, _, _, _⟩ => if k1 = k2 then k (.val (.int kd (kd.wrap a))) [] [] [] else False
    | _, _, _ => ∃ c fk new, OpOK P o fr fk c new [] ∧ (∀ j b, (j, b) ∈ fk → find hp j = some b) ∧ (∀ j b, (j, b) ∈ new → find hp j = none) ∧ k c fk new []
  | .nilCheck x => match ev fr x with
    | some (.ptr key s i r) => k (.ptr key s i r) [] [] []
    | some (.clo f a b) => k (.clo f a b) [] [] []
    | _ => False
  | .indexAddr t x ix => match ev fr x, ev fr ix, tfind T t with
    | some (.slc key s i n), some (.val (.int _ j)), some ⟨.slc e, _, _, _⟩ => match tfind T e with
      | some te => match Nat.beq te.size s with
        | true => (0 ≤ j ∧ j < (n : Int)) ∧ k (.ptr key s (i + j.toNat) 0) [] [] []
        | false => False
      | none => False
    | some (.ptr key s i r), some (.val (.int _ j)), some ⟨.arr n e, _, _, _⟩ => match tfind T e with
      | some te => (0 ≤ j ∧ j < (n : Int)) ∧ k (.ptr key s i (r + j.toNat * te.size)) [] [] []
      | none => False
    | some (.val _), _, _ => ∃ c fk new, OpOK P o fr fk c new [] ∧ (∀ j b, (j, b) ∈ fk → find hp j = some b) ∧ (∀ j b, (j, b) ∈ new → find hp j = none) ∧ k c fk new []
    | _, _, _ => False
  | .index t x ix => match ev fr x, ev fr ix, tfind T t with
    | some (.val (.string s)), some (.val (.int _ j)), some ⟨.str, _, _, _⟩ => (0 ≤ j ∧ j < (s.size : Int)) ∧ k (.val (.int .u8 (((s.data.getD j.toNat 0).toNat : Nat) : Int))) [] [] []
    | _, _, _ => ∃ c fk new, OpOK P o fr fk c new [] ∧ (∀ j b, (j, b) ∈ fk → find hp j = some b) ∧ (∀ j b, (j, b) ∈ new → find hp j = none) ∧ k c fk new []
  | .slice t x lo hi none => match bound fr (some 0) lo, ev fr x, tfind T t with
    | some l, some (.slc key s i n), some ⟨.slc e, _, _, _⟩ => match bound fr (some (n : Int)) hi, tfind T e with
      | some h, some te => match Nat.beq te.size s with
        | true => (0 ≤ l ∧ l ≤ h ∧ h ≤ (n : Int)) ∧ k (.slc key s (i + l.toNat) (h - l).toNat) [] [] []
        | false => False
      | _, _ => False
    | some l, some (.val (.string s)), some ⟨.str, _, _, _⟩ => match bound fr (some (s.size : Int)) hi with
      | some h => (0 ≤ l ∧ l ≤ h ∧ h ≤ (s.size : Int)) ∧ k (.val (.string (s.extract l.toNat h.toNat))) [] [] []
      | none => False
    | _, _, _ => False
  | .makeSlice t x y => match o.dst, ev fr x, ev fr y, tfind T t with
    | some d, some (.val (.int _ l)), some (.val (.int _ c)), some ⟨.slc e, _, _, _⟩ => match tfind T e, find hp d with
      | some te, none => match zeroOK te with
        | true => (0 ≤ l ∧ l ≤ c ∧ (te.bytes : Int) * c ≤ 281474976710656 ∧ c ≤ 9223372036854775807) ∧ k (.slc d te.size 0 l.toNat) [] [(d, ⟨e, true, zerosOf te l.toNat⟩)] []
        | false => False
      | _, _ => False
    | _, _, _, _ => False
  | .buildSlice t len parts => match o.dst, evParts fr parts.toList, tfind T t with
    | some d, some ps, some ⟨.slc e, _, _, _⟩ => match tfind T e, find hp d with
      | some te, none => match buildC 64 (fun i => some (i * te.size, te.size)) (repN len te.zero) ps with
        | some l => match dataOf te l, Nat.beq l.length len, Nat.ble (len * te.size) 16777216 with
          | some dt, true, true => k (.slc d te.size 0 len) [] [(d, ⟨e, true, dt⟩)] []
          | _, _, _ => False
        | none => False
      | _, _ => False
    | _, _, _ => False
  | .build t parts => match tfind T t, evParts fr parts.toList with
    | some ⟨.agg fs, sz, by', z⟩, some ps => match buildC 64 (placesOf fs) z ps with
      | some l => match shapeAs ⟨.agg fs, sz, by', z⟩ l with
        | some c => k c [] [] []
        | none => False
      | none => False
    | some ⟨.arr n e, sz, by', z⟩, some ps => match tfind T e with
      | some te => match buildC 64 (fun i => some (i * te.size, te.size)) z ps with
        | some l => match shapeAs ⟨.arr n e, sz, by', z⟩ l with
          | some c => k c [] [] []
          | none => False
        | none => False
      | none => False
    | _, _ => False
  | .call ⟨.builtin b, xs, ts⟩ => match b, xs.toList, ts.toList with
    | .len, [x], [t] => match ev fr x, tfind T t with
      | some (.val (.string s)), some ⟨.str, _, _, _⟩ => k (.val (.int .i64 (s.size : Int))) [] [] []
      | some (.slc _ _ _ n), some ⟨.slc _, _, _, _⟩ => k (.val (.int .i64 (n : Int))) [] [] []
      | some (.val (.slice _ n _)), some ⟨.slc _, _, _, _⟩ => k (.val (.int .i64 (n : Int))) [] [] []
      | _, _ => False
    | .min, [x, y], _ => match ev fr x, ev fr y with
      | some (.val (.int k1 a)), some (.val (.int _ b)) => k (.val (.int k1 (if b < a then b else a))) [] [] []
      | _, _ => False
    | .max, [x, y], _ => match ev fr x, ev fr y with
      | some (.val (.int k1 a)), some (.val (.int _ b)) => k (.val (.int k1 (if b > a then b else a))) [] [] []
      | _, _ => False
    | .append, [x, y], [t, t2] => match o.dst, ev fr x, ev fr y, tfind T t, tfind T t2 with
      | some kn, some (.slc k1 s 0 n), some (.slc k2 s2 i2 m), some ⟨.slc e, _, _, _⟩, some ⟨.slc e2, _, _, _⟩ => match Nat.beq e2 e, tfind T e, find hp k1, find hp k2, find hp kn with
        | true, some te, some ⟨ty, true, d⟩, some blk2, none => match Nat.beq ty e && (Nat.beq s te.size && Nat.beq s2 te.size), dwidth d, dwidth blk2.data, dapp d n blk2.data i2 m with
          | true, some wd, some wd2, some d' => match Nat.beq wd te.size && Nat.beq wd2 te.size with
            | true => (n ≤ dlen d ∧ i2 + m ≤ dlen blk2.data ∧ (n + m) * te.bytes ≤ 140737488355328 ∧ n + m ≤ 9223372036854775807) ∧ k (.slc kn te.size 0 (n + m)) [(k1, ⟨ty, true, d⟩), (k2, blk2)] [(kn, ⟨e, true, d'⟩)] [(k1, ⟨e, true, .dead⟩)]
            | false => False
          | _, _, _, _ => False
        | _, _, _, _, _ => False
      | some kn, some (.val (.slice none 0 0)), some (.slc k2 s2 i2 m), some ⟨.slc e, _, _, _⟩, some ⟨.slc e2, _, _, _⟩ => match Nat.beq e2 e, tfind T e, find hp k2, find hp kn with
        | true, some te, some blk2, none => match Nat.beq s2 te.size, dwidth blk2.data, dapp blk2.data 0 blk2.data i2 m with
          | true, some wd2, some d' => match Nat.beq wd2 te.size with
            | true => (i2 + m ≤ dlen blk2.data ∧ m * te.bytes ≤ 140737488355328 ∧ m ≤ 9223372036854775807) ∧ k (.slc kn te.size 0 m) [(k2, blk2)] [(kn, ⟨e, true, d'⟩)] []
            | false => False
          | _, _, _ => False
        | _, _, _, _ => False
      | _, _, _, _, _ => False
    | _, _, _ => ∃ c fk new upd, OpOK P o fr fk c new upd ∧ (∀ j b, (j, b) ∈ fk → find hp j = some b) ∧ (∀ j b, (j, b) ∈ new → find hp j = none) ∧ (∀ j b, (j, b) ∈ upd → ∃ b0, (j, b0) ∈ fk ∧ b0.wr = true ∧ b0.data.live = true ∧ b.wr = true) ∧ k c fk new upd
  | .call ⟨.value x, xs, _⟩ => match ev fr x with
    | some (.clo f first cap) => match evs fr xs.toList with
      | some args => ∃ fk c new upd, CallOK P f (first ++ (args ++ cap)) fk c new upd ∧ (∀ j b, (j, b) ∈ fk → find hp j = some b) ∧ (∀ j b, (j, b) ∈ new → find hp j = none) ∧ (∀ j b, (j, b) ∈ upd → ∃ b0, (j, b0) ∈ fk ∧ b0.wr = true ∧ b0.data.live = true ∧ b.wr = true) ∧ k c fk new upd
      | none => False
    | _ => False
  | _ => ∃ c fk new upd, OpOK P o fr fk c new upd ∧ (∀ j b, (j, b) ∈ fk → find hp j = some b) ∧ (∀ j b, (j, b) ∈ new → find hp j = none) ∧ (∀ j b, (j, b) ∈ upd → ∃ b0, (j, b0) ∈ fk ∧ b0.wr = true ∧ b0.data.live = true ∧ b.wr = true) ∧ k c fk new upd

/-- What a symbolic step gives. -/
def Good (P : Program) (fr : List (Nat × SV)) (hp : List (Nat × Blk)) (o : Oper) (k : SV → List (Nat × Blk) → List (Nat × Blk) → List (Nat × Blk) → Prop) : Prop :=
  ∃ c fk new upd, OpOK P o fr fk c new upd ∧ (∀ j b, (j, b) ∈ fk → find hp j = some b) ∧ (∀ j b, (j, b) ∈ new → find hp j = none) ∧ (∀ j b, (j, b) ∈ upd → ∃ b0, (j, b0) ∈ fk ∧ b0.wr = true ∧ b0.data.live = true ∧ b.wr = true) ∧ k c fk new upd

theorem nil_fk {hp : List (Nat × Blk)} : ∀ j b, (j, b) ∈ ([] : List (Nat × Blk)) → find hp j = some b := fun _ _ h => by cases h
theorem nil_new {hp : List (Nat × Blk)} : ∀ j b, (j, b) ∈ ([] : List (Nat × Blk)) → find hp j = none := fun _ _ h => by cases h
theorem nil_upd {fk : List (Nat × Blk)} : ∀ j b, (j, b) ∈ ([] : List (Nat × Blk)) → ∃ b0 : Blk, (j, b0) ∈ fk ∧ b0.wr = true ∧ b0.data.live = true ∧ b.wr = true := fun _ _ h => by cases h
theorem one_fk {hp : List (Nat × Blk)} {k : Nat} {b : Blk} (h : find hp k = some b) : ∀ j c, (j, c) ∈ [(k, b)] → find hp j = some c := fun j c hm => by
  simp only [List.mem_singleton, Prod.mk.injEq] at hm
  obtain ⟨rfl, rfl⟩ := hm; exact h
theorem one_new {hp : List (Nat × Blk)} {k : Nat} {b : Blk} (h : find hp k = none) : ∀ j c, (j, c) ∈ [(k, b)] → find hp j = none := fun j c hm => by
  simp only [List.mem_singleton, Prod.mk.injEq] at hm
  obtain ⟨rfl, rfl⟩ := hm; exact h

theorem exec_good {P : Program} {T : List (TypeId × TI)} (hT : TabOK P T) {fr : List (Nat × SV)} {hp : List (Nat × Blk)} {o : Oper} {k : SV → List (Nat × Blk) → List (Nat × Blk) → List (Nat × Blk) → Prop}
    (h : exec P T fr hp o k) : Good P fr hp o k := by
  unfold exec at h
  split at h
  case h_1 x ho =>
    split at h
    · rename_i c hc
      exact ⟨c, [], [], [], op_move (.inl ho) (ev_ok hc), nil_fk, nil_new, nil_upd, h⟩
    · exact h.elim
  case h_2 x ho =>
    split at h
    · rename_i c hc
      exact ⟨c, [], [], [], op_move (.inr ho) (ev_ok hc), nil_fk, nil_new, nil_upd, h⟩
    · exact h.elim
  case h_3 e x ho =>
    split at h
    · rename_i d sv hd hsv
      split at h
      · rename_i cs hcs hf
        exact ⟨_, [], _, [], op_box ho (ev_ok hsv) hcs, nil_fk, one_new hf, nil_upd, h⟩
      · exact h.elim
    · exact h.elim
  case h_4 e ho =>
    split at h
    · rename_i d ti hd hti
      split at h
      · rename_i hf
        exact ⟨_, [], _, [], op_alloc ho (hT.get hti), nil_fk, one_new hf, nil_upd, h⟩
      · exact h.elim
    · exact h.elim
  case h_5 t x ho =>
    split at h
    · rename_i key s i r ti hx hti
      split at h
      · rename_i blk hblk
        split at h
        · rename_i ob cs he
          split at h
          · rename_i l _ hs hsz
            split at h
            · rename_i c hc
              exact ⟨c, _, [], [], op_load ho (ev_ok hx) (hT.get hti) (List.mem_cons_self ..) he (req_spec h).1 hs (by omega) hc, one_fk hblk, nil_new, nil_upd, (req_spec h).2⟩
            · exact h.elim
          · exact h.elim
        · exact h.elim
      · exact h.elim
    · obtain ⟨c, fk, new, h1, h2, h3, h4⟩ := h
      exact ⟨c, fk, new, [], h1, h2, h3, nil_upd, h4⟩
    · exact h.elim
  case h_6 t x y ho =>
    split at h
    · rename_i key s i r sv ti hx hy hti
      split at h
      · rename_i ty d nw hblk hnw
        split at h
        · rename_i ob cs he
          split at h
          · rename_i hw hle
            split at h
            · rename_i cs' hp'
              split at h
              · rename_i d' hd'
                refine ⟨.any, _, [], _, op_store ho (ev_ok hx) (ev_ok hy) (hT.get hti) (List.mem_cons_self ..) he (req_spec h).1 hnw (Nat.eq_of_beq_eq_true hw) (Nat.le_of_ble_eq_true hle) hp' hd', one_fk hblk, nil_new, ?_, (req_spec h).2⟩
                intro j b hm
                simp only [List.mem_singleton, Prod.mk.injEq] at hm
                obtain ⟨rfl, rfl⟩ := hm
                exact ⟨_, List.mem_cons_self .., rfl, elem_live he, rfl⟩
              · exact h.elim
            · exact h.elim
          · exact h.elim
        · exact h.elim
      · exact h.elim
    · exact h.elim
  case h_7 s x j ho =>
    split at h
    · rename_i key sz i r fs _ _ _ hx hti
      split at h
      · rename_i off e _ hj
        exact ⟨_, [], [], [], op_fieldAddr ho (ev_ok hx) (hT.get hti) rfl hj (by omega), nil_fk, nil_new, nil_upd, h⟩
      · exact h.elim
    · exact h.elim
  case h_8 x ix ho =>
    split at h
    · rename_i l hx
      split at h
      · rename_i c hc
        split at h
        · rename_i hb
          refine ⟨c, [], [], [], op_extract ho (ev_ok hx) hc ?_, nil_fk, nil_new, nil_upd, h⟩
          simpa using hb
        · exact h.elim
      · exact h.elim
    · exact h.elim
  case h_9 op xt x y yt ho =>
    split at h
    · rename_i k1 a k2 b hx hy
      split at h
      · exact ⟨_, [], [], [], op_shl ho (ev_ok hx) (ev_ok hy) h.1, nil_fk, nil_new, nil_upd, h.2⟩
      · exact ⟨_, [], [], [], op_shr ho (ev_ok hx) (ev_ok hy) h.1, nil_fk, nil_new, nil_upd, h.2⟩
      · split at h
        · rename_i hk
          subst hk
          split at h
          · rename_i ob v hv
            exact ⟨_, [], [], [], op_ibin ho (ev_ok hx) (ev_ok hy) hv (req_spec h).1, nil_fk, nil_new, nil_upd, (req_spec h).2⟩
          · exact h.elim
        · exact h.elim
    · rename_i a b hx hy
      split at h
      · rename_i hti
        split at h
        · exact ⟨_, [], [], [], op_beq ho (ev_ok hx) (ev_ok hy) (hT.get hti) rfl, nil_fk, nil_new, nil_upd, h⟩
        · exact ⟨_, [], [], [], op_bne ho (ev_ok hx) (ev_ok hy) (hT.get hti) rfl, nil_fk, nil_new, nil_upd, h⟩
        · exact h.elim
      · exact h.elim
    · rename_i a b hx hy
      split at h
      · rename_i ob v hv
        exact ⟨_, [], [], [], op_sbin ho (ev_ok hx) (ev_ok hy) hv (req_spec h).1, nil_fk, nil_new, nil_upd, (req_spec h).2⟩
      · exact h.elim
    · obtain ⟨v, h1, h2⟩ := h
      exact ⟨_, [], [], [], h1, nil_fk, nil_new, nil_upd, h2⟩
    · exact h.elim
  case h_10 op xt x ho =>
    split at h
    · rename_i a hx
      exact ⟨_, [], [], [], op_not ho (ev_ok hx), nil_fk, nil_new, nil_upd, h⟩
    · rename_i kd a hx
      exact ⟨_, [], [], [], op_neg ho (ev_ok hx), nil_fk, nil_new, nil_upd, h⟩
    · exact h.elim
  case h_11 s d x ho =>
    split at h
    · rename_i k2 a k1 _ _ _ kd _ _ _ hx hs hd
      split at h
      · rename_i hk
        subst hk
        exact ⟨_, [], [], [], op_conv ho (ev_ok hx) (hT.get hs) (hT.get hd) rfl rfl, nil_fk, nil_new, nil_upd, h⟩
      · exact h.elim
    · obtain ⟨c, fk, new, h1, h2, h3, h4⟩ := h
      exact ⟨c, fk, new, [], h1, h2, h3, nil_upd, h4⟩
  case h_12 x ho =>
    split at h
    · rename_i key s i r hx
      exact ⟨_, [], [], [], op_nilCheck ho (ev_ok hx), nil_fk, nil_new, nil_upd, h⟩
    · rename_i f a b hx
      exact ⟨_, [], [], [], op_nilCheckF ho (ev_ok hx), nil_fk, nil_new, nil_upd, h⟩
    · exact h.elim
  case h_13 t x ix ho =>
    split at h
    · rename_i key s i n kd j e _ _ _ hx hi ht
      split at h
      · rename_i te hte
        split at h
        · rename_i hs
          exact ⟨_, [], [], [], op_indexAddr ho (ev_ok hx) (ev_ok hi) (hT.get ht) rfl (hT.get hte) (Nat.eq_of_beq_eq_true hs) h.1.1 h.1.2, nil_fk, nil_new, nil_upd, h.2⟩
        · exact h.elim
      · exact h.elim
    · rename_i key s i r kd j n e _ _ _ hx hi ht
      split at h
      · rename_i te hte
        exact ⟨_, [], [], [], op_indexArr ho (ev_ok hx) (ev_ok hi) (hT.get ht) rfl (hT.get hte) h.1.1 h.1.2, nil_fk, nil_new, nil_upd, h.2⟩
      · exact h.elim
    · obtain ⟨c, fk, new, h1, h2, h3, h4⟩ := h
      exact ⟨c, fk, new, [], h1, h2, h3, nil_upd, h4⟩
    · exact h.elim
  case h_14 t x ix ho =>
    split at h
    · rename_i s kd j _ _ _ hx hi ht
      exact ⟨_, [], [], [], op_strIndex ho (ev_ok hx) (ev_ok hi) (hT.get ht) rfl h.1.1 h.1.2, nil_fk, nil_new, nil_upd, h.2⟩
    · obtain ⟨c, fk, new, h1, h2, h3, h4⟩ := h
      exact ⟨c, fk, new, [], h1, h2, h3, nil_upd, h4⟩
  case h_15 t x lo hi ho =>
    split at h
    · rename_i l key s i n e _ _ _ hl hx ht
      split at h
      · rename_i h' te hh hte
        split at h
        · rename_i hs
          exact ⟨_, [], [], [], op_slice ho (ev_ok hx) (bound_spec hl) (bound_spec hh) (hT.get ht) rfl (hT.get hte) (Nat.eq_of_beq_eq_true hs) h.1.1 h.1.2.1 h.1.2.2, nil_fk, nil_new, nil_upd, h.2⟩
        · exact h.elim
      · exact h.elim
    · rename_i l s _ _ _ hl hx ht
      split at h
      · rename_i h' hh
        exact ⟨_, [], [], [], op_strSlice ho (ev_ok hx) (bound_spec hl) (bound_spec hh) (hT.get ht) rfl h.1.1 h.1.2.1 h.1.2.2, nil_fk, nil_new, nil_upd, h.2⟩
      · exact h.elim
    · exact h.elim
  case h_16 t x y ho =>
    split at h
    · rename_i d kl l kc c e _ _ _ hd hx hy ht
      split at h
      · rename_i te hte hf
        split at h
        · rename_i hz
          exact ⟨_, [], _, [], op_make ho (ev_ok hx) (ev_ok hy) (hT.get ht) rfl (hT.get hte) hz h.1.1 h.1.2.1 h.1.2.2.1 h.1.2.2.2, nil_fk, one_new hf, nil_upd, h.2⟩
        · exact h.elim
      · exact h.elim
    · exact h.elim
  case h_17 t len parts ho =>
    split at h
    · rename_i d ps e _ _ _ hd hps ht
      split at h
      · rename_i te hte hf
        split at h
        · rename_i l hb
          split at h
          · rename_i dt hdt hlen hsz
            exact ⟨_, [], _, [], op_buildSlice ho (hT.get ht) rfl (hT.get hte) hps hb hdt (Nat.eq_of_beq_eq_true hlen) (Nat.le_of_ble_eq_true hsz), nil_fk, one_new hf, nil_upd, h⟩
          · exact h.elim
        · exact h.elim
      · exact h.elim
    · exact h.elim
  case h_18 t parts ho =>
    split at h
    · rename_i fs sz by' z ps ht hps
      split at h
      · rename_i l hb
        split at h
        · rename_i c hc
          exact ⟨_, [], [], [], op_build ho (hT.get ht) rfl hps hb hc, nil_fk, nil_new, nil_upd, h⟩
        · exact h.elim
      · exact h.elim
    · rename_i n e sz by' z ps ht hps
      split at h
      · rename_i te hte
        split at h
        · rename_i l hb
          split at h
          · rename_i c hc
            exact ⟨_, [], [], [], op_buildArr ho (hT.get ht) rfl (hT.get hte) hps hb hc, nil_fk, nil_new, nil_upd, h⟩
          · exact h.elim
        · exact h.elim
      · exact h.elim
    · exact h.elim
  case h_19 b xs ts ho =>
    split at h
    · rename_i x t hxs hts
      have hxs' : xs = #[x] := by apply Array.ext'; simpa using hxs
      have hts' : ts = #[t] := by apply Array.ext'; simpa using hts
      split at h
      · rename_i s _ _ _ hx ht
        exact ⟨_, [], [], [], op_len ho hxs' hts' (ev_ok hx) rfl (hT.get ht) (.inl ⟨rfl, s, rfl⟩), nil_fk, nil_new, nil_upd, h⟩
      · rename_i n e _ _ _ hx ht
        exact ⟨_, [], [], [], op_len ho hxs' hts' (ev_ok hx) rfl (hT.get ht) (.inr ⟨⟨e, rfl⟩, fun s hs => by cases hs⟩), nil_fk, nil_new, nil_upd, h⟩
      · rename_i n _ e _ _ _ hx ht
        exact ⟨_, [], [], [], op_len ho hxs' hts' (ev_ok hx) rfl (hT.get ht) (.inr ⟨⟨e, rfl⟩, fun s hs => by cases hs⟩), nil_fk, nil_new, nil_upd, h⟩
      · exact h.elim
    · rename_i x y hxs
      have hxs' : xs = #[x, y] := by apply Array.ext'; simpa using hxs
      split at h
      · rename_i k1 a k2 b hx hy
        exact ⟨_, [], [], [], op_min ho hxs' (ev_ok hx) (ev_ok hy), nil_fk, nil_new, nil_upd, h⟩
      · exact h.elim
    · rename_i x y hxs
      have hxs' : xs = #[x, y] := by apply Array.ext'; simpa using hxs
      split at h
      · rename_i k1 a k2 b hx hy
        exact ⟨_, [], [], [], op_max ho hxs' (ev_ok hx) (ev_ok hy), nil_fk, nil_new, nil_upd, h⟩
      · exact h.elim
    · rename_i x y t t2 hxs hts
      have hxs' : xs = #[x, y] := by apply Array.ext'; simpa using hxs
      have hts' : ts = #[t, t2] := by apply Array.ext'; simpa using hts
      split at h
      · rename_i kn k1 s n k2 s2 i2 m e _ _ _ e2 _ _ _ hd hx hy ht ht2
        split at h
        · rename_i te ty d blk2 he2 hte hb1 hb2 hbn
          split at h
          · rename_i wd wd2 d' hc hw1 hw2 happ
            split at h
            · rename_i hww
              simp only [Bool.and_eq_true, Nat.beq_eq] at hc hww
              obtain ⟨rfl, rfl, rfl⟩ := hc
              obtain ⟨rfl, rfl⟩ := hww
              have he2' := Nat.eq_of_beq_eq_true he2
              subst he2'
              have hl1 : d.live = true := by cases d <;> simp [dwidth] at hw1 <;> rfl
              have hl2 : blk2.data.live = true := by cases hq : blk2.data <;> rw [hq] at hw2 <;> simp [dwidth] at hw2 <;> rfl
              refine ⟨_, _, _, _, op_append ho hxs' hts' (ev_ok hx) (ev_ok hy) (hT.get ht) rfl (hT.get ht2) rfl (hT.get hte) (List.mem_cons_self ..) (List.mem_cons_of_mem _ (List.mem_cons_self ..)) hl1 hl2 hw1 hw2 h.1.1 h.1.2.1 happ h.1.2.2.1 h.1.2.2.2, ?_, one_new hbn, ?_, h.2⟩
              · intro j b hm
                simp only [List.mem_cons, Prod.mk.injEq, List.not_mem_nil, or_false] at hm
                rcases hm with ⟨rfl, rfl⟩ | ⟨rfl, rfl⟩
                · exact hb1
                · exact hb2
              · intro j b hm
                simp only [List.mem_singleton, Prod.mk.injEq] at hm
                obtain ⟨rfl, rfl⟩ := hm
                exact ⟨_, List.mem_cons_self .., rfl, hl1, rfl⟩
            · exact h.elim
          · exact h.elim
        · exact h.elim
      · rename_i kn k2 s2 i2 m e _ _ _ e2 _ _ _ hd hx hy ht ht2
        split at h
        · rename_i te blk2 he2 hte hb2 hbn
          split at h
          · rename_i wd2 d' hc hw2 happ
            split at h
            · rename_i hww
              have hc' := Nat.eq_of_beq_eq_true hc
              subst hc'
              have hww' := Nat.eq_of_beq_eq_true hww
              subst hww'
              have he2' := Nat.eq_of_beq_eq_true he2
              subst he2'
              have hl2 : blk2.data.live = true := by cases hq : blk2.data <;> rw [hq] at hw2 <;> simp [dwidth] at hw2 <;> rfl
              exact ⟨_, _, _, [], op_append_nil ho hxs' hts' (ev_ok hx) (ev_ok hy) (hT.get ht) rfl (hT.get ht2) rfl (hT.get hte) (List.mem_cons_self ..) hl2 hw2 h.1.1 happ h.1.2.1 h.1.2.2, one_fk hb2, one_new hbn, nil_upd, h.2⟩
            · exact h.elim
          · exact h.elim
        · exact h.elim
      · exact h.elim
    · exact h
  case h_20 x xs ts ho =>
    split at h
    · rename_i f first cap hx
      split at h
      · rename_i args hargs
        obtain ⟨fk, c, new, upd, h1, h2, h3, h4, h5⟩ := h
        exact ⟨c, fk, new, upd, op_call ho hx hargs h1, h2, h3, h4, h5⟩
      · exact h.elim
    · exact h.elim
  case h_21 => exact h

end Go.Sx
