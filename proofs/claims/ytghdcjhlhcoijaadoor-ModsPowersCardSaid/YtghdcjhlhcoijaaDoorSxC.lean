/- Components of values: expansion, taking a part, putting a part. The table of types. -/
import Derived.Test.YtghdcjhlhcoijaaDoorSxB
import Derived.Laws.CopyRow
import Derived.Laws.Tables
import Derived.Laws.StructEq
namespace Go.Sx

/-- A component as smaller components. -/
def expand : SV → Option (List SV)
  | .nat n => some [.val (.int .u64 (low n)), .val (.string (big n))]
  | .int z => some [.nat z.natAbs, .val (.bool (decide (z < 0)))]
  | .frac q => some [.int q.num, .nat (q.den - 1)]
  | .agg cs => some cs
  | _ => none

theorem HasZ_append {ρ : Rho} : ∀ {l r : List SV} {z y : List (List Value)}, HasZ ρ l z → HasZ ρ r y → HasZ ρ (l ++ r) (z ++ y)
  | [], r, z, y, h, h' => by simp only [HasZ] at h; subst h; exact h'
  | c :: l, r, z, y, h, h' => by
    simp only [HasZ] at h
    obtain ⟨x, t, rfl, h1, h2⟩ := h
    simp only [List.cons_append, HasZ]
    exact ⟨x, t ++ y, rfl, h1, HasZ_append h2 h'⟩

theorem HasZ_split {ρ : Rho} : ∀ {l r : List SV} {z : List (List Value)}, HasZ ρ (l ++ r) z → ∃ z1 z2, z = z1 ++ z2 ∧ HasZ ρ l z1 ∧ HasZ ρ r z2
  | [], r, z, h => ⟨[], z, rfl, by simp [HasZ], h⟩
  | c :: l, r, z, h => by
    simp only [List.cons_append, HasZ] at h
    obtain ⟨x, t, rfl, h1, h2⟩ := h
    obtain ⟨z1, z2, rfl, h3, h4⟩ := HasZ_split h2
    exact ⟨x :: z1, z2, rfl, by simp only [HasZ]; exact ⟨x, z1, rfl, h1, h3⟩, h4⟩

theorem expand_has {ρ : Rho} {c : SV} {l : List SV} {x : List Value} (he : expand c = some l) (h : HasC ρ c x) : ∃ z, HasZ ρ l z ∧ x = z.flatten := by
  cases c <;> simp only [expand, Option.some.injEq, reduceCtorEq] at he
  case nat n =>
    subst he
    simp only [HasC] at h
    refine ⟨[[.int .u64 (low n)], [.string (big n)]], ?_, ?_⟩
    · simp [HasZ, HasC, Value.oneCell']
    · rw [h]; rfl
  case int z =>
    subst he
    simp only [HasC] at h
    refine ⟨[natCells z.natAbs, [.bool (decide (z < 0))]], ?_, ?_⟩
    · simp [HasZ, HasC, Value.oneCell']
    · rw [h]; rfl
  case frac q =>
    subst he
    simp only [HasC] at h
    refine ⟨[intCells q.num, natCells (q.den - 1)], ?_, ?_⟩
    · simp [HasZ, HasC]
    · rw [h]; simp [fracCells]
  case agg cs =>
    subst he
    simpa only [HasC] using h

/-- The cells from 'off' on, 'w' of them, as components. -/
def sub : Nat → List SV → Nat → Nat → Option (List SV)
  | 0, _, _, _ => none
  | f + 1, cs, off, w =>
    match w with
    | 0 => some []
    | w' + 1 =>
      match cs with
      | [] => none
      | c :: r =>
        match Nat.ble c.width off with
        | true => sub f r (off - c.width) (w' + 1)
        | false =>
          match off with
          | 0 =>
            match Nat.ble c.width (w' + 1) with
            | true =>
              match sub f r 0 (w' + 1 - c.width) with
              | some l => some (c :: l)
              | none => none
            | false =>
              match expand c with
              | some l => sub f (l ++ r) 0 (w' + 1)
              | none => none
          | o' + 1 =>
            match expand c with
            | some l => sub f (l ++ r) (o' + 1) (w' + 1)
            | none => none

theorem sub_has {ρ : Rho} : ∀ (f : Nat) (cs : List SV) (off w : Nat) (l : List SV) (z : List (List Value)), sub f cs off w = some l → HasZ ρ cs z →
    ∃ y, HasZ ρ l y ∧ y.flatten = (z.flatten.drop off).take w ∧ (w = 0 ∨ off + w ≤ z.flatten.length) := by
  intro f
  induction f with
  | zero => intro cs off w l z h; simp [sub] at h
  | succ f ih =>
    intro cs off w l z h hz
    unfold sub at h
    cases w with
    | zero => simp at h; subst h; exact ⟨[], by simp [HasZ], by simp, .inl rfl⟩
    | succ w' =>
      simp only at h
      cases cs with
      | nil => simp at h
      | cons c r =>
        simp only at h
        simp only [HasZ] at hz
        obtain ⟨x, t, rfl, hx, ht⟩ := hz
        have hlen := (HasC.len c x hx).1
        cases hb : Nat.ble c.width off with
        | true =>
          rw [hb] at h
          have hle := Nat.le_of_ble_eq_true hb
          obtain ⟨y, h1, h2, h3⟩ := ih r (off - c.width) (w' + 1) l t h ht
          refine ⟨y, h1, ?_, ?_⟩
          · rw [h2]
            congr 1
            simp only [List.flatten_cons]
            have hxl : x.length ≤ off := by omega
            rw [List.drop_append, List.drop_eq_nil_of_le hxl, hlen]
            simp
          · simp only [List.flatten_cons, List.length_append]
            omega
        | false =>
          rw [hb] at h
          have hgt : ¬ c.width ≤ off := fun hle => by rw [Nat.ble_eq_true_of_le hle] at hb; cases hb
          have hexp : ∀ o', (match expand c with | some l' => sub f (l' ++ r) o' (w' + 1) | none => none) = some l → ∃ y, HasZ ρ l y ∧ y.flatten = ((x :: t).flatten.drop o').take (w' + 1) ∧ (w' + 1 = 0 ∨ o' + (w' + 1) ≤ (x :: t).flatten.length) := by
            intro o' h
            cases he : expand c with
            | none => rw [he] at h; simp at h
            | some l' =>
              rw [he] at h
              obtain ⟨zc, h1, rfl⟩ := expand_has he hx
              obtain ⟨y, h2, h3, h4⟩ := ih (l' ++ r) o' (w' + 1) l (zc ++ t) h (HasZ_append h1 ht)
              exact ⟨y, h2, by rw [h3]; simp, by simpa using h4⟩
          cases off with
          | succ o' => exact hexp (o' + 1) h
          | zero =>
            simp only at h
            cases hb2 : Nat.ble c.width (w' + 1) with
            | false => rw [hb2] at h; exact hexp 0 h
            | true =>
              rw [hb2] at h
              have hle := Nat.le_of_ble_eq_true hb2
              cases hs : sub f r 0 (w' + 1 - c.width) with
              | none => rw [hs] at h; simp at h
              | some l' =>
                rw [hs] at h
                simp at h
                subst h
                obtain ⟨y, h1, h2, h3⟩ := ih r 0 (w' + 1 - c.width) l' t hs ht
                refine ⟨x :: y, by simp only [HasZ]; exact ⟨x, y, rfl, hx, h1⟩, ?_, ?_⟩
                · simp only [List.flatten_cons, List.drop_zero] at h2 ⊢
                  have hxl : x.length ≤ w' + 1 := by omega
                  rw [h2, List.take_append, List.take_of_length_le hxl, hlen]
                · simp only [List.flatten_cons, List.length_append]
                  omega

/-- The components with those from 'off' on, 'w' cells of them, in place of what was there. -/
def put (f : Nat) (cs : List SV) (off w : Nat) (new : List SV) : Option (List SV) :=
  match sub f cs 0 off, sub f cs (off + w) (SV.widthL cs - (off + w)) with
  | some a, some b => some (a ++ (new ++ b))
  | _, _ => none

theorem put_has {ρ : Rho} {f : Nat} {cs new l : List SV} {off w : Nat} {z y : List (List Value)} (h : put f cs off w new = some l) (hz : HasZ ρ cs z) (hy : HasZ ρ new y) :
    ∃ t, HasZ ρ l t ∧ t.flatten = z.flatten.take off ++ y.flatten ++ z.flatten.drop (off + w) := by
  unfold put at h
  cases ha : sub f cs 0 off with
  | none => rw [ha] at h; simp at h
  | some a =>
    cases hb : sub f cs (off + w) (SV.widthL cs - (off + w)) with
    | none => rw [ha, hb] at h; simp at h
    | some b =>
      rw [ha, hb] at h
      simp at h
      subst h
      obtain ⟨ya, h1, h2, _⟩ := sub_has f cs 0 off a z ha hz
      obtain ⟨yb, h3, h4, _⟩ := sub_has f cs (off + w) _ b z hb hz
      refine ⟨ya ++ (y ++ yb), HasZ_append h1 (HasZ_append hy h3), ?_⟩
      have hl := (HasZ.len cs z hz).1
      simp only [List.flatten_append, h2, h4, List.drop_zero, List.append_assoc]
      congr 2
      rw [List.take_of_length_le (by rw [List.length_drop, hl]; exact Nat.le_refl _)]

/-- What a type is, as far as operations ask. -/
inductive TK where
  | bool
  | int (k : IntKind)
  | str
  | agg (fields : List (Nat × TypeId × Nat))
  | arr (n : Nat) (e : TypeId)
  | slc (e : TypeId)
  | ptr (e : TypeId)
  | other

structure TI where
  kind : TK
  size : Nat
  bytes : Nat
  zero : List SV

def TK.isAgg : TK → Bool
  | .agg _ | .arr _ _ => true
  | _ => false

def TK.ok (P : Program) (t : TypeId) : TK → Prop
  | .bool => P.underlying t = some .bool
  | .int k => P.underlying t = some (.int k)
  | .str => P.underlying t = some .string
  | .agg fs => P.underlying t = some (.struct (P.fieldsOf t)) ∧ (P.fieldsOf t).toList.map (fun f => (f.offset, f.type, P.cellsOf f.type)) = fs ∧ (P.fieldsOf t).toList.all (fun f => (P.info? f.type).isSome) = true
  | .arr n e => P.underlying t = some (.array n e)
  | .slc e => P.underlying t = some (.slice e)
  | .ptr e => P.underlying t = some (.pointer e)
  | .other => ∃ d, P.underlying t = some d ∧ (match d with | .struct _ | .array _ _ => true | _ => false) = false

/-- The cells of components that name no key. -/
def zcell : SV → List Value
  | .val v => [v]
  | .nat n => natCells n
  | .int z => intCells z
  | .frac q => fracCells q
  | _ => []

def zok : SV → Bool
  | .val v => v.oneCell'
  | .nat _ | .int _ | .frac _ => true
  | _ => false

structure TOK (P : Program) (t : TypeId) (ti : TI) : Prop where
  kind : ti.kind.ok P t
  info : ∃ i z, P.info? t = some i ∧ i.size = ti.size ∧ i.bytes = ti.bytes ∧ i.zero = some z ∧ z.cells.toList = ti.zero.flatMap zcell ∧ ti.zero.all zok = true ∧ (z.cells.size = ti.size) ∧ z = (if ti.kind.isAgg then .agg z.cells else z.cells.getD 0 undef)

def tfind (T : List (TypeId × TI)) (t : TypeId) : Option TI := match T with
  | [] => none
  | (u, ti) :: r => match Nat.beq u t with | true => some ti | false => tfind r t

def TabOK (P : Program) : List (TypeId × TI) → Prop
  | [] => True
  | (t, ti) :: r => TOK P t ti ∧ TabOK P r

theorem TabOK.get {P : Program} : ∀ {T : List (TypeId × TI)} {t : TypeId} {ti : TI}, TabOK P T → tfind T t = some ti → TOK P t ti
  | (u, ti') :: r, t, ti, h, hf => by
    unfold tfind at hf
    split at hf
    · rename_i hu
      obtain rfl : u = t := Nat.eq_of_beq_eq_true hu
      cases hf
      exact h.1
    · exact TabOK.get h.2 hf

theorem TOK.of {P : Program} {t : TypeId} {ti : TI} {z : Value} (hk : ti.kind.ok P t) (h1 : (P.info? t).map (fun i => (i.size, i.bytes, i.zero)) = some (ti.size, ti.bytes, some z))
    (h2 : z.cells.toList = ti.zero.flatMap zcell) (h3 : ti.zero.all zok = true) (h4 : z.cells.size = ti.size) (h5 : z = (if ti.kind.isAgg then .agg z.cells else z.cells.getD 0 undef)) : TOK P t ti := by
  refine ⟨hk, ?_⟩
  cases hi : P.info? t with
  | none => rw [hi] at h1; simp at h1
  | some i =>
    rw [hi] at h1
    simp only [Option.map_some, Option.some.injEq, Prod.mk.injEq] at h1
    exact ⟨i, z, rfl, h1.1, h1.2.1, h1.2.2, h2, h3, h4, h5⟩

theorem zcell_has {ρ : Rho} {c : SV} (h : zok c = true) : HasC ρ c (zcell c) := by
  cases c <;> simp [zok] at h <;> simp [HasC, zcell, h]

theorem zero_has {ρ : Rho} : ∀ {l : List SV}, l.all zok = true → HasZ ρ l (l.map zcell)
  | [], _ => by simp [HasZ]
  | c :: l, h => by
    simp only [List.all_cons, Bool.and_eq_true] at h
    simp only [List.map_cons, HasZ]
    exact ⟨_, _, rfl, zcell_has h.1, zero_has h.2⟩

theorem TOK.isAgg {P : Program} {t : TypeId} {ti : TI} (h : TOK P t ti) (w : World) : (Go.isAgg t).run P w = .ok ti.kind.isAgg w := by
  unfold Go.isAgg
  rw [Sem.run_bind]
  have hk := h.kind
  cases hkd : ti.kind <;> rw [hkd] at hk <;> simp only [TK.ok] at hk
  case other => obtain ⟨d, h1, h2⟩ := hk; rw [run_underlying h1]; cases d <;> simp_all [TK.isAgg]
  case agg fs => rw [run_underlying hk.1]; rfl
  all_goals (rw [run_underlying hk]; rfl)

theorem TOK.sizeOf {P : Program} {t : TypeId} {ti : TI} (h : TOK P t ti) (w : World) : (Go.sizeOf t).run P w = .ok ti.size w := by
  obtain ⟨i, z, h1, h2, _⟩ := h.info
  simp [Go.sizeOf, typeInfo, h1, h2]

theorem TOK.zeroValue {P : Program} {t : TypeId} {ti : TI} (h : TOK P t ti) : ∃ z, (∀ w, (Go.zeroValue t).run P w = .ok z w) ∧ z.cells.toList = ti.zero.flatMap zcell := by
  obtain ⟨i, z, h1, h2, h3, h4, h5, _⟩ := h.info
  exact ⟨z, fun w => by simp [Go.zeroValue, typeInfo, h1, h4], h5⟩

/-- A value as components. -/
def comps : SV → Option (List SV)
  | .any => none
  | .tup _ => none
  | .agg cs => some cs
  | c => some [c]

theorem comps_has {ρ : Rho} {c : SV} {l : List SV} {v : Value} (h : comps c = some l) (hv : Has ρ c v) : ∃ z, HasZ ρ l z ∧ v.cells.toList = z.flatten := by
  have one : ∀ c : SV, ∀ x, HasC ρ c x → c.width = 1 → c.isOne = true → (mkV c x).cells.toList = x := by
    intro c x hx hw h1
    obtain ⟨h2, h3⟩ := HasC.len c x hx
    rw [hw] at h2
    match x, h2 with
    | [v], _ =>
      have := h3 v (by simp)
      simp only [mkV, h1, if_true, List.headD_cons]
      cases v <;> simp_all [Value.cells, Value.oneCell']
  have many : ∀ c : SV, ∀ x : List Value, c.isOne = false → (mkV c x).cells.toList = x := by
    intro c x h1
    simp [mkV, h1, Value.cells]
  have sing : ∀ c : SV, ∀ x, HasC ρ c x → HasZ ρ [c] [x] := fun c x hx => by simp only [HasZ]; exact ⟨x, [], rfl, hx, rfl⟩
  cases c <;> simp only [comps, Option.some.injEq, reduceCtorEq] at h <;> subst h <;> simp only [Has] at hv
  case agg cs =>
    obtain ⟨x, h1, rfl⟩ := hv
    simp only [HasC] at h1
    obtain ⟨z, h2, rfl⟩ := h1
    exact ⟨z, h2, by simp [mkV, SV.isOne, Value.cells]⟩
  case atom p =>
    obtain ⟨x, h1, rfl⟩ := hv
    refine ⟨[x], sing _ _ h1, ?_⟩
    simp only [List.flatten_cons, List.flatten_nil, List.append_nil]
    cases hb : p.bare with
    | true => exact one (.atom p) x h1 (by simp [SV.width, p.bareLen hb]) (by simp [SV.isOne, hb])
    | false => exact many (.atom p) x (by simp [SV.isOne, hb])
  all_goals
    obtain ⟨x, h1, rfl⟩ := hv
    refine ⟨[x], sing _ _ h1, ?_⟩
    simp only [List.flatten_cons, List.flatten_nil, List.append_nil]
    first
      | exact one _ x h1 rfl rfl
      | exact many _ x rfl

/-- Components read as a value of a type. -/
def shapeAs (ti : TI) (l : List SV) : Option SV :=
  match ti.kind.isAgg with
  | true => match l with
    | [c] => match c.isOne with
      | false => some c
      | true => some (.agg [c])
    | l => some (.agg l)
  | false => match l with
    | [c] => match c.isOne with
      | true => some c
      | false => none
    | _ => none

theorem shapeAs_has {ρ : Rho} {ti : TI} {l : List SV} {c : SV} {z : List (List Value)} {v : Value} (h : shapeAs ti l = some c) (hz : HasZ ρ l z)
    (hv : v = if ti.kind.isAgg then .agg z.flatten.toArray else z.flatten.headD undef) : Has ρ c v := by
  have aggs : ∀ l z, HasZ ρ l z → Has ρ (.agg l) (.agg z.flatten.toArray) := fun l z hz => by
    simp only [Has, HasC, mkV, SV.isOne]
    exact ⟨_, ⟨z, hz, rfl⟩, rfl⟩
  have notTup : ∀ (c : SV) x, HasC ρ c x → c.isOne = false → Has ρ c (.agg x.toArray) := by
    intro c x hx h1
    cases c <;> simp only [SV.isOne, Bool.true_eq_false] at h1 <;> simp only [Has]
    case tup => simp only [HasC] at hx
    all_goals exact ⟨x, hx, by simp [mkV, SV.isOne, h1]⟩
  have isOne : ∀ (c : SV) x, HasC ρ c x → c.isOne = true → Has ρ c (x.headD undef) := by
    intro c x hx h1
    cases c <;> simp only [SV.isOne, Bool.false_eq_true] at h1 <;> simp only [Has]
    all_goals exact ⟨x, hx, by simp [mkV, SV.isOne, h1]⟩
  unfold shapeAs at h
  cases ha : ti.kind.isAgg with
  | true =>
    rw [ha] at h hv
    simp only [if_true] at hv h
    subst hv
    match l, hz with
    | [], hz => simp at h; subst h; exact aggs [] z hz
    | [d], hz =>
      simp only [HasZ] at hz
      obtain ⟨x, r, rfl, h1, rfl⟩ := hz
      simp only at h
      cases hd : d.isOne with
      | false => rw [hd] at h; simp at h; subst h; simpa using notTup d x h1 hd
      | true => rw [hd] at h; simp at h; subst h; exact aggs [d] [x] (by simp only [HasZ]; exact ⟨x, [], rfl, h1, rfl⟩)
    | d :: e :: r, hz => simp at h; subst h; exact aggs _ z hz
  | false =>
    rw [ha] at h hv
    simp only [Bool.false_eq_true, if_false] at hv h
    subst hv
    match l, hz with
    | [], _ => simp at h
    | [d], hz =>
      simp only [HasZ] at hz
      obtain ⟨x, r, rfl, h1, rfl⟩ := hz
      simp only at h
      cases hd : d.isOne with
      | false => rw [hd] at h; simp at h
      | true => rw [hd] at h; simp at h; subst h; simpa using isOne d x h1 hd
    | d :: e :: r, _ => simp at h

end Go.Sx
