/- Equality of numbers; closures; indexing of array values; the tables; calls; results recast; integers that fit. -/
import Derived.Test.YtghdcjhlhcoijaaDoorSxO
namespace Go.Sx

/-! ### Words -/
def ofWords : List Nat → Nat
  | [] => 0
  | w :: l => w + 4294967296 * ofWords l

theorem wordsFuel_of : ∀ (f n : Nat), n ≤ f → ofWords (wordsFuel f n) = n ∧ (∀ w ∈ wordsFuel f n, w < 4294967296) ∧ (wordsFuel f n ≠ [] → (wordsFuel f n).getLast? ≠ some 0) ∧ (wordsFuel f n = [] ↔ n = 0)
  | 0, n, h => by
    obtain rfl : n = 0 := by omega
    simp [wordsFuel, ofWords]
  | f + 1, n, h => by
    simp only [wordsFuel]
    by_cases hn : n = 0
    · simp [hn, ofWords]
    · have ih := wordsFuel_of f (n / 4294967296) (by omega)
      simp only [hn, if_false]
      refine ⟨?_, ?_, fun _ => ?_, by simp⟩
      · simp only [ofWords, ih.1]; omega
      · intro w hw
        rcases List.mem_cons.1 hw with rfl | hw
        · omega
        · exact ih.2.1 w hw
      · by_cases hz : n / 4294967296 = 0
        · have : wordsFuel f (n / 4294967296) = [] := ih.2.2.2.2 hz
          rw [this]
          simp
          omega
        · have hne : wordsFuel f (n / 4294967296) ≠ [] := fun he => hz (ih.2.2.2.1 he)
          rw [List.getLast?_cons, Option.getD_of_ne_none (by simp [hne])]
          have := ih.2.2.1 hne
          exact this

theorem ofWords_words (n : Nat) : ofWords (words n) = n := (wordsFuel_of n n (Nat.le_refl n)).1
theorem words_lt {n w : Nat} (h : w ∈ words n) : w < 4294967296 := (wordsFuel_of n n (Nat.le_refl n)).2.1 w h
theorem words_nil {n : Nat} : words n = [] ↔ n = 0 := (wordsFuel_of n n (Nat.le_refl n)).2.2.2

theorem wordBytes_inj {a b : Nat} (ha : a < 4294967296) (hb : b < 4294967296) (h : wordBytes a = wordBytes b) : a = b := by
  simp only [wordBytes, List.cons.injEq, and_true] at h
  obtain ⟨h1, h2, h3, h4⟩ := h
  have e := fun (x y : Nat) (h : UInt8.ofNat x = UInt8.ofNat y) => by
    have := congrArg UInt8.toNat h
    simpa [UInt8.toNat_ofNat'] using this
  have e1 := e _ _ h1; have e2 := e _ _ h2; have e3 := e _ _ h3; have e4 := e _ _ h4
  omega

theorem bytes_inj : ∀ (l m : List Nat), (∀ w ∈ l, w < 4294967296) → (∀ w ∈ m, w < 4294967296) → l.flatMap wordBytes = m.flatMap wordBytes → l = m
  | [], [], _, _, _ => rfl
  | [], y :: m, _, _, h => by simp [wordBytes] at h
  | x :: l, [], _, _, h => by simp [wordBytes] at h
  | x :: l, y :: m, hl, hm, h => by
    simp only [List.flatMap_cons] at h
    have := List.append_inj h (by simp [wordBytes])
    rw [wordBytes_inj (hl x (List.mem_cons_self ..)) (hm y (List.mem_cons_self ..)) this.1, bytes_inj l m (fun w hw => hl w (List.mem_cons_of_mem _ hw)) (fun w hw => hm w (List.mem_cons_of_mem _ hw)) this.2]

theorem big_toList (n : Nat) : (big n).toList = if n < 18446744073709551616 then [] else (words n).flatMap wordBytes := by
  unfold big
  split
  · rw [ByteArray.toList_eq]; rfl
  · rw [ByteArray.toList_eq]

theorem big_empty {n : Nat} : (big n).toList = [] ↔ n < 18446744073709551616 := by
  rw [big_toList]
  split
  · simp [*]
  · rename_i h
    refine iff_of_false (fun he => ?_) h
    cases hw : words n with
    | nil => have := words_nil.1 hw; omega
    | cons x l => rw [hw] at he; simp [wordBytes] at he

theorem nat_eq_iff (a b : Nat) : ((low a == low b) && ((big a).toList == (big b).toList)) = decide (a = b) := by
  rw [Bool.eq_iff_iff]
  simp only [Bool.and_eq_true, beq_iff_eq, decide_eq_true_eq]
  constructor
  · rintro ⟨h1, h2⟩
    by_cases ha : a < 18446744073709551616
    · have hb : b < 18446744073709551616 := big_empty.1 (h2 ▸ big_empty.2 ha)
      simp only [low, ha, hb, if_true] at h1
      omega
    · have hb : ¬ b < 18446744073709551616 := fun hb => ha (big_empty.1 (h2 ▸ big_empty.2 hb))
      simp only [big_toList, ha, hb, if_false] at h2
      have := bytes_inj _ _ (fun w => words_lt) (fun w => words_lt) h2
      rw [← ofWords_words a, ← ofWords_words b, this]
  · rintro rfl; exact ⟨rfl, rfl⟩

/-! ### Equality of aggregates -/
def leafEq : TK → List Value → List Value → Option Bool
  | .int _, [.int k a], [.int k' b] => if k = k' then some (a == b) else none
  | .bool, [.bool a], [.bool b] => some (a == b)
  | .str, [.string a], [.string b] => some (a.toList == b.toList)
  | _, _, _ => none

mutual
/-- Whether two values of a type are equal, from their cells. -/
def eqTy (T : List (TypeId × TI)) (good : List TypeId) : Nat → TypeId → List Value → List Value → Option Bool
  | 0, _, _, _ => none
  | f + 1, t, xs, ys => match tfind T t with
    | some ti => match ti.kind with
      | .agg fs => match good.contains t with
        | true => eqFs T good f fs xs ys
        | false => none
      | k => leafEq k xs ys
    | none => none
def eqFs (T : List (TypeId × TI)) (good : List TypeId) : Nat → List (Nat × TypeId × Nat) → List Value → List Value → Option Bool
  | 0, _, _, _ => none
  | _ + 1, [], _, _ => some true
  | f + 1, (off, t, n) :: fs, xs, ys => match eqTy T good f t ((xs.drop off).take n) ((ys.drop off).take n), eqFs T good f fs xs ys with
    | some a, some b => some (a && b)
    | _, _ => none
end

/-- The struct types whose equality is field by field. -/
def GoodOK (P : Program) (good : List TypeId) : Prop := ∀ t ∈ good, P.stoodInHeld t = false ∧ (P.fieldsOf t).toList.all (fun f => f.name != "_") = true

def mkT (ti : TI) (xs : List Value) : Value := match ti.kind with
  | .agg _ => .agg xs.toArray
  | _ => xs.headD undef

theorem part_run {P : Program} {t : TypeId} {ti : TI} (ht : TOK P t ti) {xs : Array Value} {off : Nat} (hsz : ti.kind.isAgg = false → ∃ v, (xs.toList.drop off).take ti.size = [v]) (harr : ∀ n e, ti.kind ≠ .arr n e) (w : World) :
    (part t xs off).run P w = .ok (mkT ti ((xs.toList.drop off).take ti.size)) w := by
  unfold part
  rw [Sem.run_bind, ht.isAgg]
  simp only [Result.andThen_ok]
  cases hk : ti.kind.isAgg with
  | true =>
    have : ∃ fs, ti.kind = .agg fs := by
      cases hq : ti.kind <;> rw [hq] at hk <;> simp [TK.isAgg] at hk
      · exact ⟨_, rfl⟩
      · exact absurd hq (harr _ _)
    obtain ⟨fs, hfs⟩ := this
    simp only [if_true, Sem.run_bind, ht.sizeOf, Result.andThen_ok, Sem.run_pure, mkT, hfs]
    congr 2
    apply Array.ext'
    simp [List.take_drop]
  | false =>
    obtain ⟨v, hv⟩ := hsz hk
    have hg : xs[off]? = some v := by
      have : ((xs.toList.drop off).take ti.size)[0]? = some v := by rw [hv]; rfl
      rw [List.getElem?_take] at this
      split at this
      · rw [List.getElem?_drop] at this
        simpa using this
      · cases this
    simp only [Bool.false_eq_true, if_false, hg, Sem.run_pure, mkT]
    cases hq : ti.kind <;> rw [hq] at hk <;> simp [TK.isAgg] at hk <;> simp [hv]

theorem leafEq_run {P : Program} {t : TypeId} {d : Nat} {w : World} {k : TK} (hk : k.ok P t) {xs ys : List Value} {r : Bool} (h : leafEq k xs ys = some r) : ∃ x y, xs = [x] ∧ ys = [y] ∧ (Op.equalIn (d + 1) t x y).run P w = .ok r w := by
  unfold leafEq at h
  split at h
  · split at h
    · rename_i hkk
      subst hkk
      simp only [Option.some.injEq] at h
      subst h
      exact ⟨_, _, rfl, rfl, run_equalIn_int w d t _ _ _ _ hk⟩
    · simp at h
  · simp only [Option.some.injEq] at h
    subst h
    exact ⟨_, _, rfl, rfl, run_equalIn_bool' w d t _ _ hk⟩
  · simp only [Option.some.injEq] at h
    subst h
    exact ⟨_, _, rfl, rfl, run_equalIn_string w d t _ _ hk⟩
  · simp at h

mutual
theorem eqTy_run {P : Program} {T : List (TypeId × TI)} {good : List TypeId} (hT : TabOK P T) (hg : GoodOK P good) : ∀ (f : Nat) (t : TypeId) (xs ys : List Value) (r : Bool), eqTy T good f t xs ys = some r → ∀ (d : Nat) (w : World), f ≤ d → ∃ ti, tfind T t = some ti ∧ (∀ n e, ti.kind ≠ .arr n e) ∧ (ti.kind.isAgg = false → (∃ v, xs = [v]) ∧ ∃ v, ys = [v]) ∧ (Op.equalIn d t (mkT ti xs) (mkT ti ys)).run P w = .ok r w
  | 0, _, _, _, _, h, _, _, _ => by simp [eqTy] at h
  | f + 1, t, xs, ys, r, h, d, w, hd => by
    obtain ⟨d, rfl⟩ : ∃ d', d = d' + 1 := ⟨d - 1, by omega⟩
    unfold eqTy at h
    split at h
    · rename_i ti hti
      have hk := (hT.get hti).kind
      refine ⟨ti, hti, ?_⟩
      cases hq : ti.kind <;> rw [hq] at h hk <;> simp only at h
      case agg fs =>
        split at h
        · rename_i hgood
          obtain ⟨h1, h2, h3⟩ := hk
          obtain ⟨g1, g2⟩ := hg t (by simpa using hgood)
          refine ⟨by simp, by simp [TK.isAgg], ?_⟩
          simp only [mkT, hq]
          rw [run_equalIn_struct w d t _ _ h1 g1]
          exact eqFs_run hT hg f fs xs ys r h (P.fieldsOf t).toList h2 g2 d w (by omega)
        · simp at h
      case arr => simp [leafEq] at h
      all_goals (obtain ⟨x, y, rfl, rfl, h1⟩ := leafEq_run (d := d) (w := w) hk h; exact ⟨by simp, fun _ => ⟨⟨_, rfl⟩, ⟨_, rfl⟩⟩, by simpa only [mkT, hq, List.headD_cons] using h1⟩)
    · simp at h
theorem eqFs_run {P : Program} {T : List (TypeId × TI)} {good : List TypeId} (hT : TabOK P T) (hg : GoodOK P good) : ∀ (f : Nat) (fs : List (Nat × TypeId × Nat)) (xs ys : List Value) (r : Bool), eqFs T good f fs xs ys = some r →
    ∀ (l : List Field), l.map (fun f => (f.offset, f.type, P.cellsOf f.type)) = fs → l.all (fun f => f.name != "_") = true → ∀ (d : Nat) (w : World), f ≤ d → (Op.eqFields d xs.toArray ys.toArray l).run P w = .ok r w
  | 0, _, _, _, _, h, _, _, _, _, _, _ => by simp [eqFs] at h
  | f + 1, [], xs, ys, r, h, l, hl, _, d, w, _ => by
    simp only [eqFs, Option.some.injEq] at h
    subst h
    obtain rfl : l = [] := by simpa using hl
    simp [Op.eqFields]
  | f + 1, (off, t, n) :: fs, xs, ys, r, h, l, hl, hn, d, w, hd => by
    cases l with
    | nil => simp at hl
    | cons g l =>
      simp only [List.map_cons, List.cons.injEq, Prod.mk.injEq] at hl
      obtain ⟨⟨rfl, rfl, rfl⟩, hl⟩ := hl
      simp only [List.all_cons, Bool.and_eq_true, bne_iff_ne, ne_eq] at hn
      unfold eqFs at h
      split at h
      · rename_i a b ha hb
        simp only [Option.some.injEq] at h
        subst h
        obtain ⟨ti, h1, h2, h3, h4⟩ := eqTy_run hT hg f _ _ _ _ ha d w (by omega)
        have ht := hT.get h1
        have hsz : P.cellsOf g.type = ti.size := by
          obtain ⟨i, z, e1, e2, _⟩ := ht.info
          simp [Program.cellsOf, e1, e2]
        rw [hsz] at h3 h4
        have hrest := eqFs_run hT hg f fs xs ys b hb l hl hn.2 d w (by omega)
        have p1 := part_run ht (xs := xs.toArray) (off := g.offset) (fun hk => (h3 hk).1) h2 w
        have p2 := part_run ht (xs := ys.toArray) (off := g.offset) (fun hk => (h3 hk).2) h2 w
        have hn1 : ¬ g.name = "_" := hn.1
        simp only [Op.eqFields, hn1, ne_eq, not_false_eq_true, if_true, Sem.run_bind, p1, p2, Result.andThen_ok, h4]
        cases a
        · simp
        · simp [hrest]
      · simp at h
end

/-- The cells of a value that names no key. -/
def flatC : SV → Option (List Value)
  | .nat n => some (natCells n)
  | .int z => some (intCells z)
  | .frac q => some (fracCells q)
  | .agg cs => flatL cs
  | _ => none
where flatL : List SV → Option (List Value)
  | [] => some []
  | .val v :: l => (flatL l).map (v :: ·)
  | .nat n :: l => (flatL l).map (natCells n ++ ·)
  | .int z :: l => (flatL l).map (intCells z ++ ·)
  | .frac q :: l => (flatL l).map (fracCells q ++ ·)
  | _ => none

theorem flatL_spec {ρ : Rho} : ∀ {l : List SV} {cells : List Value} {z : List (List Value)}, flatC.flatL l = some cells → HasZ ρ l z → z.flatten = cells
  | [], cells, z, h, hz => by simp only [flatC.flatL, Option.some.injEq] at h; simp only [HasZ] at hz; subst h; subst hz; rfl
  | c :: l, cells, z, h, hz => by
    simp only [HasZ] at hz
    obtain ⟨x, r, rfl, h1, h2⟩ := hz
    cases c <;> simp only [flatC.flatL, Option.map_eq_some_iff, reduceCtorEq] at h <;> obtain ⟨m, hm, rfl⟩ := h <;> simp only [HasC] at h1 <;> have ih := flatL_spec hm h2
    case val => obtain ⟨rfl, _⟩ := h1; simp [ih]
    all_goals (subst h1; simp [ih])

theorem flatC_spec {ρ : Rho} {c : SV} {cells : List Value} {v : Value} (h : flatC c = some cells) (hv : Has ρ c v) : v = .agg cells.toArray := by
  cases c <;> simp only [flatC, Option.some.injEq, reduceCtorEq] at h <;> simp only [Has, HasC] at hv <;> obtain ⟨x, hx, rfl⟩ := hv <;> simp only [mkV, SV.isOne, Bool.false_eq_true, if_false]
  case agg => obtain ⟨z, h1, rfl⟩ := hx; rw [flatL_spec h h1]
  all_goals (subst h; subst hx; rfl)

section
variable {P : Program} {o : Oper} {ft : List (Nat × SV)} {fk : List (Nat × Blk)} {c c' : SV}

theorem op_eqAgg {T : List (TypeId × TI)} {good : List TypeId} {t t2 : TypeId} {x y : Operand} {l l' : List Value} {r : Bool} {fs : List (Nat × TypeId × Nat)} {ti : TI} (hT : TabOK P T) (hg : GoodOK P good) (ho : o.op = .binOp .eql t x y t2) (hx : EvOK ft x c) (hy : EvOK ft y c')
    (hl : flatC c = some l) (hl' : flatC c' = some l') (hti : tfind T t = some ti) (hk : ti.kind = .agg fs) (hr : eqTy T good 10 t l l' = some r) (hgd : P.eqGuardType P.depth t = false) : OpOK P o ft fk (.val (.bool r)) [] [] :=
  ok_pure fun ρ a w hp => by
    have e1 := flatC_spec hl (hx ρ a hp.hft)
    have e2 := flatC_spec hl' (hy ρ a hp.hft)
    obtain ⟨ti', h1, _, _, h4⟩ := eqTy_run hT hg 10 t l l' r hr 10000 w (by omega)
    rw [hti] at h1
    cases h1
    simp only [mkT, hk] at h4
    refine ⟨_, ?_, has_val rfl⟩
    simp only [execOp, ho, e1, e2, Sem.run_bind, run_eqGuard_agg w .eql t x y _ _ hgd, Result.andThen_ok, run_eql_struct, h4, Sem.run_pure]

theorem op_neAgg {T : List (TypeId × TI)} {good : List TypeId} {t t2 : TypeId} {x y : Operand} {l l' : List Value} {r : Bool} {fs : List (Nat × TypeId × Nat)} {ti : TI} (hT : TabOK P T) (hg : GoodOK P good) (ho : o.op = .binOp .neq t x y t2) (hx : EvOK ft x c) (hy : EvOK ft y c')
    (hl : flatC c = some l) (hl' : flatC c' = some l') (hti : tfind T t = some ti) (hk : ti.kind = .agg fs) (hr : eqTy T good 10 t l l' = some r) (hgd : P.eqGuardType P.depth t = false) : OpOK P o ft fk (.val (.bool (!r))) [] [] :=
  ok_pure fun ρ a w hp => by
    have e1 := flatC_spec hl (hx ρ a hp.hft)
    have e2 := flatC_spec hl' (hy ρ a hp.hft)
    obtain ⟨ti', h1, _, _, h4⟩ := eqTy_run hT hg 10 t l l' r hr 10000 w (by omega)
    rw [hti] at h1
    cases h1
    simp only [mkT, hk] at h4
    refine ⟨_, ?_, has_val rfl⟩
    simp only [execOp, ho, e1, e2, Sem.run_bind, run_eqGuard_agg w .neq t x y _ _ hgd, Result.andThen_ok, run_neq_struct, h4, Sem.run_pure]
end
section
variable {P : Program} {o : Oper} {ft fr : List (Nat × SV)} {fk : List (Nat × Blk)} {c c' : SV}

theorem op_makeFunc {f : FuncId} {xs ys : Array Operand} {l m : List SV} (ho : o.op = .makeFunc (.func f) xs ys) (hx : evs fr xs.toList = some l) (hy : evs fr ys.toList = some m) : OpOK P o fr fk (.clo f l m) [] [] :=
  ok_pure fun ρ a w hp => by
    obtain ⟨z, h1, h2⟩ := evs_ok hx ρ a hp.hft
    obtain ⟨y, h3, h4⟩ := evs_ok hy ρ a hp.hft
    refine ⟨.func (.func f) (xs.map (Act.eval a)) (ys.map (Act.eval a)), by simp [execOp, ho, Instr.makeFunc], ?_⟩
    simp only [Has, HasC]
    refine ⟨_, ⟨z, y, h1, h3, rfl⟩, ?_⟩
    simp only [mkV, SV.isOne, if_true, List.headD_cons, ← h2, ← h4]
    congr 1 <;> (apply Array.ext'; simp)

theorem op_indexAgg {t e : TypeId} {x ix : Operand} {ti te : TI} {n : Nat} {kd kd' : IntKind} {j : Int} {l : List Value} {v : Value} (ho : o.op = .index t x ix) (hx : EvOK ft x c) (hl : flatC c = some l) (hi : EvOK ft ix (.val (.int kd j)))
    (ht : TOK P t ti) (hk : ti.kind = .arr n e) (he : TOK P e te) (hke : te.kind = .int kd') (hs : te.size = 1) (h0 : 0 ≤ j) (hj : j < n) (hv : l[j.toNat]? = some v) (hone : v.oneCell' = true) : OpOK P o ft fk (.val v) [] [] :=
  ok_pure fun ρ a w hp => by
    have e1 := flatC_spec hl (hx ρ a hp.hft)
    have e2 := of_has_val (hi ρ a hp.hft)
    have hu := ht.kind; rw [hk] at hu
    have hue := he.kind; rw [hke] at hue
    refine ⟨v, ?_, has_val hone⟩
    have hlt : 0 ≤ j ∧ j < (n : Int) := ⟨h0, hj⟩
    have hp' : (part e l.toArray j.toNat).run P w = .ok v w := by
      unfold part
      rw [Sem.run_bind, he.isAgg]
      simp [hke, TK.isAgg, hv]
    simp only [execOp, ho, Instr.index, e1, e2, asIntOf, Sem.run_bind, Sem.run_pure, Result.andThen_ok, run_underlying hu, hlt, and_self, if_true, he.sizeOf, hs, Nat.mul_one, hp']

theorem op_globIndex {t e : TypeId} {x ix : Operand} {ti te : TI} {g off n : Nat} {kd : IntKind} {j : Int} (ho : o.op = .indexAddr t x ix) (hx : EvOK ft x (.val (.pointer (some ⟨g, off, none⟩)))) (hi : EvOK ft ix (.val (.int kd j)))
    (ht : TOK P t ti) (hk : ti.kind = .arr n e) (he : TOK P e te) (h0 : 0 ≤ j) (hj : j < n) : OpOK P o ft fk (.val (.pointer (some ⟨g, off + j.toNat * te.size, none⟩))) [] [] :=
  ok_pure fun ρ a w hp => by
    have e1 := of_has_val (hx ρ a hp.hft)
    have e2 := of_has_val (hi ρ a hp.hft)
    have hu := ht.kind; rw [hk] at hu
    refine ⟨_, ?_, has_val rfl⟩
    have hadd : (⟨g, off, none⟩ : Addr).add (j.toNat * te.size) = ⟨g, off + j.toNat * te.size, none⟩ := by
      unfold Addr.add
      split
      · rename_i h0; simp [h0]
      · simp
    have hj' : 0 ≤ j ∧ j < (n : Int) := ⟨h0, hj⟩
    simp only [execOp, ho, Instr.indexAt, e1, e2, asIntOf, Sem.run_bind, Sem.run_pure, Result.andThen_ok, run_underlying hu, Instr.sureAddr, hj', and_self, if_true, he.sizeOf, hadd]

theorem op_globLoad {t : TypeId} {x : Operand} {ti : TI} {g j : Nat} {kd kd' : IntKind} {l : List Int} {v : Int} (ho : o.op = .load t x) (hx : EvOK ft x (.val (.pointer (some ⟨g, j, none⟩)))) (ht : TOK P t ti) (hk : ti.kind = .int kd')
    (hg : (g, kd, l) ∈ globTabs) (hv : l[j]? = some v) : OpOK P o ft fk (.val (.int kd v)) [] [] :=
  ok_pure fun ρ a w hp => by
    have e1 := of_has_val (hx ρ a hp.hft)
    obtain ⟨ob, h1, h2⟩ := ρ.glob g kd l hg
    have hc := h2 w (hp.imm g ob h1) j v hv
    refine ⟨_, ?_, has_val rfl⟩
    have hld : (loadVar t ⟨g, j, none⟩).run P w = .ok (.int kd v) w := by
      unfold loadVar
      simp [ht.isAgg, hk, TK.isAgg, hc]
    simp [execOp, ho, Instr.loadAt, Instr.sureAddr, e1, hld]
end

/-! ### Results recast -/
-- (Recast: SxI)

theorem hasZ_vals {ρ : Rho} : ∀ {l : List SV} {z : List (List Value)} {cells : List Value}, flatC.flatL l = some cells → HasZ ρ l z → z.flatten = cells := flatL_spec

/-- Two values that are their cells, the same. -/
theorem recast_flat {c d : SV} {l : List Value} (hc : flatC c = some l) (hd : flatC d = some l) (hnc : ∀ cs, d ≠ .agg cs) : Recast c d := by
  intro ρ v h
  have := flatC_spec hc h
  subst this
  cases d <;> simp only [flatC, Option.some.injEq, reduceCtorEq] at hd
  case agg cs => exact absurd rfl (hnc cs)
  all_goals (subst hd; simp only [Has, HasC]; exact ⟨_, rfl, by simp [mkV, SV.isOne]⟩)

mutual
/-- Two values with the same cells, component by component. -/
def sameC : SV → SV → Prop
  | .tup l, .tup m => sameL l m
  | c, d => ∀ ρ x, HasC ρ c x → HasC ρ d x ∧ c.isOne = d.isOne
def sameL : List SV → List SV → Prop
  | [], [] => True
  | c :: l, d :: m => sameC c d ∧ sameL l m
  | _, _ => False
end

theorem recast_tup2 {a b a' b' : SV} (h1 : ∀ ρ x, HasC ρ a x → HasC ρ a' x) (i1 : a.isOne = a'.isOne) (h2 : ∀ ρ x, HasC ρ b x → HasC ρ b' x) (i2 : b.isOne = b'.isOne) : Recast (.tup [a, b]) (.tup [a', b']) := by
  intro ρ v h
  simp only [Has, HasZ] at h ⊢
  obtain ⟨_, ⟨x, _, rfl, hx, y, _, rfl, hy, rfl⟩, rfl⟩ := h
  exact ⟨_, ⟨x, _, rfl, h1 ρ x hx, y, _, rfl, h2 ρ y hy, rfl⟩, by simp [mkV, i1, i2]⟩

theorem recast_tup3 {a b c a' b' c' : SV} (h1 : ∀ ρ x, HasC ρ a x → HasC ρ a' x) (i1 : a.isOne = a'.isOne) (h2 : ∀ ρ x, HasC ρ b x → HasC ρ b' x) (i2 : b.isOne = b'.isOne) (h3 : ∀ ρ x, HasC ρ c x → HasC ρ c' x) (i3 : c.isOne = c'.isOne) : Recast (.tup [a, b, c]) (.tup [a', b', c']) := by
  intro ρ v h
  simp only [Has, HasZ] at h ⊢
  obtain ⟨_, ⟨x, _, rfl, hx, y, _, rfl, hy, z, _, rfl, hz, rfl⟩, rfl⟩ := h
  exact ⟨_, ⟨x, _, rfl, h1 ρ x hx, y, _, rfl, h2 ρ y hy, z, _, rfl, h3 ρ z hz, rfl⟩, by simp [mkV, i1, i2, i3]⟩

theorem hasC_flat {c d : SV} {l : List Value} (hc : flatC c = some l) (hd : flatC d = some l) (hnc : ∀ cs, d ≠ .agg cs) : ∀ ρ x, HasC ρ c x → HasC ρ d x := by
  intro ρ x h
  have hx : x = l := by
    cases c <;> simp only [flatC, Option.some.injEq, reduceCtorEq] at hc <;> simp only [HasC] at h
    case agg cs => obtain ⟨z, h1, rfl⟩ := h; exact flatL_spec hc h1
    all_goals (subst hc; exact h)
  subst hx
  cases d <;> simp only [flatC, Option.some.injEq, reduceCtorEq] at hd
  case agg cs => exact absurd rfl (hnc cs)
  all_goals (subst hd; simp only [HasC])

/-! ### Numbers that fit -/
theorem wrap_u64 {n : Int} (h0 : 0 ≤ n) (h : n < 18446744073709551616) : IntKind.u64.wrap n = n := by simp [IntKind.wrap, IntKind.bits, IntKind.signed]; omega
theorem wrap_u32 {n : Int} (h0 : 0 ≤ n) (h : n < 4294967296) : IntKind.u32.wrap n = n := by simp [IntKind.wrap, IntKind.bits, IntKind.signed]; omega
theorem wrap_i64 {n : Int} (h0 : -9223372036854775808 ≤ n) (h : n < 9223372036854775808) : IntKind.i64.wrap n = n := by
  simp only [IntKind.wrap, IntKind.bits, IntKind.signed, Bool.true_and]
  split <;> simp_all <;> omega
theorem wrap_u64' (n : Int) : IntKind.u64.wrap n = n % 18446744073709551616 := by simp [IntKind.wrap, IntKind.bits, IntKind.signed]
theorem wrap_u32' (n : Int) : IntKind.u32.wrap n = n % 4294967296 := by simp [IntKind.wrap, IntKind.bits, IntKind.signed]

theorem low_small {n : Nat} (h : n < 18446744073709551616) : low n = n := by simp [low, h]
theorem big_small {n : Nat} (h : n < 18446744073709551616) : big n = ByteArray.empty := by simp [big, h]
theorem natCells_small {n : Nat} (h : n < 18446744073709551616) : natCells n = [.int .u64 n, .string .empty] := by simp [natCells, low_small h, big_small h]

theorem iand_u64 {x y : Nat} (hx : x < 18446744073709551616) (hy : y < 18446744073709551616) : iand .u64 x y = ((x &&& y : Nat) : Int) := by
  have : x &&& y < 18446744073709551616 := Nat.lt_of_le_of_lt Nat.and_le_left hx
  show IntKind.u64.wrap (((BitVec.ofInt 64 x &&& BitVec.ofInt 64 y).toNat : Nat) : Int) = _
  rw [BitVec.toNat_and, BitVec.ofInt_natCast, BitVec.ofInt_natCast, BitVec.toNat_ofNat, BitVec.toNat_ofNat, Nat.mod_eq_of_lt (a := x) (by omega), Nat.mod_eq_of_lt (a := y) (by omega)]
  exact wrap_u64 (by omega) (by omega)
theorem iand_u32 {x y : Nat} (hx : x < 4294967296) (hy : y < 4294967296) : iand .u32 x y = ((x &&& y : Nat) : Int) := by
  have : x &&& y < 4294967296 := Nat.lt_of_le_of_lt Nat.and_le_left hx
  show IntKind.u32.wrap (((BitVec.ofInt 32 x &&& BitVec.ofInt 32 y).toNat : Nat) : Int) = _
  rw [BitVec.toNat_and, BitVec.ofInt_natCast, BitVec.ofInt_natCast, BitVec.toNat_ofNat, BitVec.toNat_ofNat, Nat.mod_eq_of_lt (a := x) (by omega), Nat.mod_eq_of_lt (a := y) (by omega)]
  exact wrap_u32 (by omega) (by omega)
theorem ior_u64 {x y : Nat} (hx : x < 18446744073709551616) (hy : y < 18446744073709551616) : ior .u64 x y = ((x ||| y : Nat) : Int) := by
  have : x ||| y < 2 ^ 64 := Nat.or_lt_two_pow hx hy
  show IntKind.u64.wrap (((BitVec.ofInt 64 x ||| BitVec.ofInt 64 y).toNat : Nat) : Int) = _
  rw [BitVec.toNat_or, BitVec.ofInt_natCast, BitVec.ofInt_natCast, BitVec.toNat_ofNat, BitVec.toNat_ofNat, Nat.mod_eq_of_lt (a := x) (by omega), Nat.mod_eq_of_lt (a := y) (by omega)]
  exact wrap_u64 (by omega) (by omega)
theorem ishr_nat (k : IntKind) {x s : Nat} (hs : s ≤ k.bits) : ishr k x s = ((x / 2 ^ s : Nat) : Int) := by
  simp only [ishr, Int.toNat_natCast, Nat.min_eq_left hs]
  rw [Int.fdiv_eq_ediv_of_nonneg _ (by exact Int.le_of_lt (Int.pow_pos (by decide)))]
  simp
end Go.Sx
