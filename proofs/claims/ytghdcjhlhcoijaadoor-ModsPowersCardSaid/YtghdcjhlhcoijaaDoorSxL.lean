/- Building structs and slices; append; bytes into a string; copy. -/
import Derived.Test.YtghdcjhlhcoijaaDoorSxK
namespace Go.Sx

/-! ### build -/

theorem foldl_set_list (off : Nat) : ∀ (v : List Value) (j : Nat) (L : Array Value), off + j + v.length ≤ L.size →
    ((v.zipIdx j).foldl (fun cs (c, j) => cs.setIfInBounds (off + j) c) L).toList = L.toList.take (off + j) ++ v ++ L.toList.drop (off + j + v.length)
  | [], j, L, _ => by simp
  | c :: v, j, L, h => by
    simp only [List.length_cons] at h
    simp only [List.zipIdx_cons, List.foldl_cons]
    rw [foldl_set_list off v (j + 1) (L.setIfInBounds (off + j) c) (by simp; omega)]
    simp only [Array.toList_setIfInBounds, List.length_cons]
    have hlt : off + j < L.toList.length := by rw [Array.length_toList]; omega
    rw [show off + (j + 1) = (off + j) + 1 from by omega, List.take_succ_eq_append_getElem (by rw [List.length_set]; exact hlt), List.getElem_set_self, List.take_set_of_le (Nat.le_refl _),
      show off + j + 1 + v.length = off + j + (v.length + 1) from by omega, List.drop_set_of_lt (by omega)]
    simp

def buildC (f : Nat) (place : Nat → Option (Nat × Nat)) (cs : List SV) : List (Nat × List SV) → Option (List SV)
  | [] => some cs
  | (i, new) :: r => match place i with
    | none => none
    | some (off, sz) => match Nat.beq (SV.widthL new) sz, Nat.ble (off + sz) (SV.widthL cs) with
      | true, true => match put f cs off sz new with
        | some cs' => buildC f place cs' r
        | none => none
      | _, _ => none

theorem fill_has {ρ : Rho} {f : Nat} {place : Nat → Option (Nat × Nat)} : ∀ (parts : List (Nat × List SV)) (cs l : List SV) (rp : List (Nat × Value)) (L : Array Value) (z : List (List Value)), buildC f place cs parts = some l →
    HasZ ρ cs z → L.toList = z.flatten → rp.length = parts.length → (∀ (j i : Nat) (new : List SV), parts[j]? = some (i, new) → ∃ v y, rp[j]? = some (i, v) ∧ HasZ ρ new y ∧ v.cells.toList = y.flatten) →
    ∃ L' z', Instr.fill place L rp = some L' ∧ HasZ ρ l z' ∧ L'.toList = z'.flatten
  | [], cs, l, rp, L, z, h, hz, hL, hlen, _ => by
    simp only [buildC, Option.some.injEq] at h
    subst h
    obtain rfl : rp = [] := List.length_eq_zero_iff.1 hlen
    exact ⟨L, z, rfl, hz, hL⟩
  | (i, new) :: r, cs, l, rp, L, z, h, hz, hL, hlen, hp => by
    match rp, hlen with
    | (i', v) :: rp', hlen =>
      obtain ⟨v', y, h1, h2, h3⟩ := hp 0 i new rfl
      simp only [List.getElem?_cons_zero, Option.some.injEq, Prod.mk.injEq] at h1
      obtain ⟨rfl, rfl⟩ := h1
      unfold buildC at h
      cases hpl : place i' with
      | none => rw [hpl] at h; simp at h
      | some x =>
        obtain ⟨off, sz⟩ := x
        rw [hpl] at h
        simp only at h
        split at h
        · rename_i hw hle
          have hw := Nat.eq_of_beq_eq_true hw
          have hle := Nat.le_of_ble_eq_true hle
          cases hput : put f cs off sz new with
          | none => rw [hput] at h; simp at h
          | some cs' =>
            rw [hput] at h
            simp only at h
            obtain ⟨t, g1, g2⟩ := put_has hput hz h2
            have hyl := (HasZ.len new y h2).1
            have hzl := (HasZ.len cs z hz).1
            have hvs : v.cells.size = sz := by rw [← Array.length_toList, h3, hyl, hw]
            have hLs : L.size = z.flatten.length := by rw [← hL, Array.length_toList]
            have hset := foldl_set_list off v.cells.toList 0 L (by rw [Array.length_toList, hvs, hLs, hzl]; omega)
            have hfold : (v.cells.zipIdx.foldl (fun cs (c, j) => cs.setIfInBounds (off + j) c) L).toList = t.flatten := by
              rw [← Array.foldl_toList, Array.toList_zipIdx, hset, g2, hL, h3, hyl, hw]
              simp
            obtain ⟨L', z', e1, e2, e3⟩ := fill_has r cs' l rp' _ t h g1 hfold (by simpa using hlen) (fun j i2 new2 hj => by
              obtain ⟨v2, y2, k1, k2, k3⟩ := hp (j + 1) i2 new2 (by simpa using hj)
              exact ⟨v2, y2, by simpa using k1, k2, k3⟩)
            refine ⟨L', z', ?_, e2, e3⟩
            unfold Instr.fill
            rw [hpl]
            have hc1 : (v.cells.size ≠ sz || off + v.cells.size > L.size) = false := by
              rw [hvs, hLs, hzl]
              simp; omega
            simp only [hc1, Bool.false_eq_true, if_false]
            exact e1
        · simp at h

/-- The parts of a composite: each one component. -/
def evParts (fr : List (Nat × SV)) : List (Nat × Operand) → Option (List (Nat × List SV))
  | [] => some []
  | (i, x) :: r => match ev fr x with
    | none => none
    | some c => match passable c with
      | false => none
      | true => match evParts fr r with
        | none => none
        | some l => some ((i, [c]) :: l)

theorem evParts_ok {fr : List (Nat × SV)} : ∀ {ps : List (Nat × Operand)} {l : List (Nat × List SV)}, evParts fr ps = some l → ∀ ρ a, (∀ t s, (t, s) ∈ fr → Has ρ s (a.tmps.getD t undef)) →
    (ps.map fun p => (p.1, Act.eval a p.2)).length = l.length ∧ ∀ (j i : Nat) (new : List SV), l[j]? = some (i, new) → ∃ v y, (ps.map fun p => (p.1, Act.eval a p.2))[j]? = some (i, v) ∧ HasZ ρ new y ∧ v.cells.toList = y.flatten
  | [], l, h, ρ, a, _ => by simp [evParts] at h; subst h; exact ⟨rfl, fun j i new h => by simp at h⟩
  | (i, x) :: r, l, h, ρ, a, hf => by
    simp only [evParts] at h
    cases hx : ev fr x with
    | none => rw [hx] at h; simp at h
    | some c =>
      rw [hx] at h
      simp only at h
      cases hp : passable c with
      | false => rw [hp] at h; simp at h
      | true =>
        rw [hp] at h
        simp only at h
        cases hr : evParts fr r with
        | none => rw [hr] at h; simp at h
        | some l' =>
          rw [hr] at h
          simp only [Option.some.injEq] at h
          subst h
          obtain ⟨h1, h2⟩ := evParts_ok hr ρ a hf
          refine ⟨by simpa using h1, fun j i2 new hj => ?_⟩
          cases j with
          | succ j => simpa using h2 j i2 new (by simpa using hj)
          | zero =>
            simp only [List.getElem?_cons_zero, Option.some.injEq, Prod.mk.injEq] at hj
            obtain ⟨rfl, rfl⟩ := hj
            have hv := ev_ok hx ρ a hf
            have hc : ∃ y, HasZ ρ [c] y ∧ (a.eval x).cells.toList = y.flatten := by
              cases c <;> simp only [passable, Bool.false_eq_true] at hp
              case agg cs =>
                obtain ⟨y, k1, k2⟩ := comps_has rfl hv
                exact ⟨[y.flatten], by simp only [HasZ]; exact ⟨_, [], rfl, by simp only [HasC]; exact ⟨y, k1, rfl⟩, rfl⟩, by rw [k2]; simp⟩
              all_goals exact comps_has rfl hv
            obtain ⟨y, k1, k2⟩ := hc
            exact ⟨_, y, by simp, k1, k2⟩

/-- Where the fields lie. -/
def placesOf (fs : List (Nat × TypeId × Nat)) (i : Nat) : Option (Nat × Nat) := match fs[i]? with
  | some (off, _, sz) => some (off, sz)
  | none => none

section
variable {P : Program} {o : Oper} {fr : List (Nat × SV)} {fk : List (Nat × Blk)}

theorem run_places {fl : List Field} (h : fl.all (fun f => (P.info? f.type).isSome) = true) (w : World) :
    (fl.mapM (fun f => do pure (f.offset, ← Go.sizeOf f.type) : Field → Sem (Nat × Nat))).run P w = .ok (fl.map (fun f => (f.offset, P.cellsOf f.type))) w := by
  induction fl with
  | nil => rfl
  | cons f fl ih =>
    simp only [List.all_cons, Bool.and_eq_true] at h
    rw [List.mapM_cons]
    simp only [Sem.run_bind, cellsOf_run h.1, Result.andThen_ok, Sem.run_pure, ih h.2, List.map_cons]

theorem op_build {t : TypeId} {parts : Array (Nat × Operand)} {ti : TI} {fs : List (Nat × TypeId × Nat)} {ps : List (Nat × List SV)} {l : List SV} {c : SV} (ho : o.op = .build t parts) (ht : TOK P t ti) (hk : ti.kind = .agg fs)
    (hps : evParts fr parts.toList = some ps) (hb : buildC 64 (placesOf fs) ti.zero ps = some l) (hsh : shapeAs ti l = some c) : OpOK P o fr fk c [] [] :=
  ok_pure fun ρ a w hp => by
    obtain ⟨i, z, i1, i2, i3, i4, i5, i6, i7, _⟩ := ht.info
    have hkd := ht.kind; rw [hk] at hkd
    obtain ⟨k1, k2, k3⟩ := hkd
    obtain ⟨p1, p2⟩ := evParts_ok hps ρ a hp.hft
    obtain ⟨L', z', e1, e2, e3⟩ := fill_has (ρ := ρ) ps ti.zero l (parts.toList.map fun p => (p.1, Act.eval a p.2)) z.cells _ hb (zero_has i6) (by rw [i5, List.flatMap_def]) p1 p2
    have hagg : ti.kind.isAgg = true := by rw [hk]; rfl
    refine ⟨.agg L', ?_, shapeAs_has hsh e2 (by rw [hagg, if_pos rfl, ← e3])⟩
    have hzv : (Go.zeroValue t).run P w = .ok z w := by simp [Go.zeroValue, typeInfo, i1, i4]
    have hpl : ((P.fieldsOf t).mapM (fun f => do pure (f.offset, ← Go.sizeOf f.type) : Field → Sem (Nat × Nat))).run P w = .ok ((P.fieldsOf t).toList.map (fun f => (f.offset, P.cellsOf f.type))).toArray w := by
      rw [Array.mapM_eq_mapM_toList, Sem.run_map, run_places k3]
      rfl
    have hfun : (fun x => ((P.fieldsOf t).toList.map (fun f => (f.offset, P.cellsOf f.type))).toArray[x]?) = placesOf fs := by
      funext j
      rw [← k2]
      simp only [placesOf, List.getElem?_map, List.getElem?_toArray]
      cases (P.fieldsOf t).toList[j]? <;> rfl
    have hmap : (parts.map fun (i, x) => (i, Act.eval a x)).toList = parts.toList.map fun p => (p.1, Act.eval a p.2) := by simp
    simp only [execOp, ho, Instr.build, Sem.run_bind, hzv, Result.andThen_ok, run_underlying k1, hpl, hfun, hmap, e1, Sem.run_pure]

theorem op_buildArr {t e : TypeId} {n : Nat} {parts : Array (Nat × Operand)} {ti te : TI} {ps : List (Nat × List SV)} {l : List SV} {c : SV} (ho : o.op = .build t parts) (ht : TOK P t ti) (hk : ti.kind = .arr n e) (he : TOK P e te)
    (hps : evParts fr parts.toList = some ps) (hb : buildC 64 (fun i => some (i * te.size, te.size)) ti.zero ps = some l) (hsh : shapeAs ti l = some c) : OpOK P o fr fk c [] [] :=
  ok_pure fun ρ a w hp => by
    obtain ⟨i, z, i1, i2, i3, i4, i5, i6, i7, _⟩ := ht.info
    have hkd := ht.kind; rw [hk] at hkd
    obtain ⟨p1, p2⟩ := evParts_ok hps ρ a hp.hft
    obtain ⟨L', z', e1, e2, e3⟩ := fill_has (ρ := ρ) ps ti.zero l (parts.toList.map fun p => (p.1, Act.eval a p.2)) z.cells _ hb (zero_has i6) (by rw [i5, List.flatMap_def]) p1 p2
    have hagg : ti.kind.isAgg = true := by rw [hk]; rfl
    refine ⟨.agg L', ?_, shapeAs_has hsh e2 (by rw [hagg, if_pos rfl, ← e3])⟩
    have hzv : (Go.zeroValue t).run P w = .ok z w := by simp [Go.zeroValue, typeInfo, i1, i4]
    have hmap : (parts.map fun (i, x) => (i, Act.eval a x)).toList = parts.toList.map fun p => (p.1, Act.eval a p.2) := by simp
    have hkd : P.underlying t = some (.array n e) := hkd
    simp only [execOp, ho, Instr.build, Sem.run_bind, hzv, Result.andThen_ok, run_underlying hkd, he.sizeOf, hmap, e1, Sem.run_pure]
end
end Go.Sx
