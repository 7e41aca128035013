/- Numbers, bools, strings; conversions; calls under contract. -/
import Derived.Test.YtghdcjhlhcoijaaDoorSxE
import Derived.Laws.Concat
namespace Go.Sx

def iand (k : IntKind) (x y : Int) : Int := k.wrap (BitVec.ofInt k.bits x &&& BitVec.ofInt k.bits y).toNat
def ior (k : IntKind) (x y : Int) : Int := k.wrap (BitVec.ofInt k.bits x ||| BitVec.ofInt k.bits y).toNat
def ixor (k : IntKind) (x y : Int) : Int := k.wrap (BitVec.ofInt k.bits x ^^^ BitVec.ofInt k.bits y).toNat
def ishl (k : IntKind) (x y : Int) : Int := k.wrap (x * 2 ^ (min y.toNat k.bits))
def ishr (k : IntKind) (x y : Int) : Int := x.fdiv (2 ^ (min y.toNat k.bits))

/-- A binary operation on two integers of one kind. -/
def ibin (op : BinOp) (k : IntKind) (a b : Int) : Option (Option Prop × Value) :=
  match op with
  | .add => some (none, .int k (k.wrap (a + b)))
  | .sub => some (none, .int k (k.wrap (a - b)))
  | .mul => some (none, .int k (k.wrap (a * b)))
  | .quo => some (some (b ≠ 0), .int k (k.wrap (a.tdiv b)))
  | .rem => some (some (b ≠ 0), .int k (a.tmod b))
  | .and => some (none, .int k (iand k a b))
  | .or => some (none, .int k (ior k a b))
  | .xor => some (none, .int k (ixor k a b))
  | .eql => some (none, .bool (a == b))
  | .neq => some (none, .bool (a != b))
  | .lss => some (none, .bool (decide (a < b)))
  | .leq => some (none, .bool (decide (a ≤ b)))
  | .gtr => some (none, .bool (decide (a > b)))
  | .geq => some (none, .bool (decide (a ≥ b)))
  | _ => none

theorem has_val {ρ : Rho} {v : Value} (h : v.oneCell' = true) : Has ρ (.val v) v := by
  simp only [Has, HasC]
  exact ⟨[v], ⟨rfl, h⟩, by simp [mkV, SV.isOne]⟩

theorem of_has_val {ρ : Rho} {u v : Value} (h : Has ρ (.val u) v) : v = u := by
  simp only [Has, HasC] at h
  obtain ⟨_, ⟨rfl, _⟩, rfl⟩ := h
  rfl

section
variable {P : Program} {o : Oper} {ft : List (Nat × SV)} {fk : List (Nat × Blk)}

theorem op_ibin {op : BinOp} {xt yt : TypeId} {x y : Operand} {k : IntKind} {a b : Int} {ob : Option Prop} {v : Value} (ho : o.op = .binOp op xt x y yt) (hx : EvOK ft x (.val (.int k a))) (hy : EvOK ft y (.val (.int k b)))
    (h : ibin op k a b = some (ob, v)) (hob : obP ob) : OpOK P o ft fk (.val v) [] [] :=
  ok_pure fun ρ ac w hp => by
    have e1 := of_has_val (hx ρ ac hp.hft)
    have e2 := of_has_val (hy ρ ac hp.hft)
    refine ⟨v, ?_, ?_⟩
    · cases op <;> simp only [ibin, Option.some.injEq, Prod.mk.injEq, reduceCtorEq] at h <;> obtain ⟨rfl, rfl⟩ := h <;>
        first
        | (simp [execOp, ho, e1, e2, eqGuard, binOp, Op.intArith]; done)
        | (have hob : b ≠ 0 := hob; simp [execOp, ho, e1, e2, eqGuard, binOp, Op.intDiv, hob]; done)
        | (simp [execOp, ho, e1, e2, eqGuard, binOp, Op.intBits, iand, ior, ixor]; done)
        | (simp [execOp, ho, e1, e2, eqGuard, binOp, Op.intCmp]; done)
    · refine has_val ?_
      cases op <;> simp only [ibin, Option.some.injEq, Prod.mk.injEq, reduceCtorEq] at h <;> obtain ⟨rfl, rfl⟩ := h <;> rfl

theorem op_shl {xt yt : TypeId} {x y : Operand} {k k' : IntKind} {a b : Int} (ho : o.op = .binOp .shl xt x y yt) (hx : EvOK ft x (.val (.int k a))) (hy : EvOK ft y (.val (.int k' b)))
    (hob : 0 ≤ b) : OpOK P o ft fk (.val (.int k (ishl k a b))) [] [] :=
  ok_pure fun ρ ac w hp => by
    have e1 := of_has_val (hx ρ ac hp.hft)
    have e2 := of_has_val (hy ρ ac hp.hft)
    refine ⟨_, ?_, has_val rfl⟩
    have : ¬ b < 0 := by omega
    simp [execOp, ho, e1, e2, eqGuard, binOp, Op.shift, this, ishl]

theorem op_shr {xt yt : TypeId} {x y : Operand} {k k' : IntKind} {a b : Int} (ho : o.op = .binOp .shr xt x y yt) (hx : EvOK ft x (.val (.int k a))) (hy : EvOK ft y (.val (.int k' b)))
    (hob : 0 ≤ b) : OpOK P o ft fk (.val (.int k (ishr k a b))) [] [] :=
  ok_pure fun ρ ac w hp => by
    have e1 := of_has_val (hx ρ ac hp.hft)
    have e2 := of_has_val (hy ρ ac hp.hft)
    refine ⟨_, ?_, has_val rfl⟩
    have : ¬ b < 0 := by omega
    simp [execOp, ho, e1, e2, eqGuard, binOp, Op.shift, this, ishr]

theorem op_beq {xt yt : TypeId} {x y : Operand} {a b : Bool} {ti : TI} (ho : o.op = .binOp .eql xt x y yt) (hx : EvOK ft x (.val (.bool a))) (hy : EvOK ft y (.val (.bool b))) (ht : TOK P xt ti) (hk : ti.kind = .bool) :
    OpOK P o ft fk (.val (.bool (a == b))) [] [] :=
  ok_pure fun ρ ac w hp => by
    have e1 := of_has_val (hx ρ ac hp.hft)
    have e2 := of_has_val (hy ρ ac hp.hft)
    have h := ht.kind; rw [hk] at h
    refine ⟨_, ?_, has_val rfl⟩
    simp [execOp, ho, e1, e2, eqGuard, run_eql_bool w xt a b h]

theorem op_bne {xt yt : TypeId} {x y : Operand} {a b : Bool} {ti : TI} (ho : o.op = .binOp .neq xt x y yt) (hx : EvOK ft x (.val (.bool a))) (hy : EvOK ft y (.val (.bool b))) (ht : TOK P xt ti) (hk : ti.kind = .bool) :
    OpOK P o ft fk (.val (.bool (a != b))) [] [] :=
  ok_pure fun ρ ac w hp => by
    have e1 := of_has_val (hx ρ ac hp.hft)
    have e2 := of_has_val (hy ρ ac hp.hft)
    have h := ht.kind; rw [hk] at h
    refine ⟨_, ?_, has_val rfl⟩
    simp [execOp, ho, e1, e2, eqGuard, run_neq_bool w xt a b h]
    cases a <;> cases b <;> rfl

/-- A binary operation on two strings. -/
def sbin (op : BinOp) (a b : ByteArray) : Option (Option Prop × Value) :=
  match op with
  | .add => some (some (a.size + b.size ≤ 9223372036854775807), .string (a ++ b))
  | .eql => some (none, .bool (a.toList == b.toList))
  | .neq => some (none, .bool (!(a.toList == b.toList)))
  | _ => none

theorem op_sbin {op : BinOp} {xt yt : TypeId} {x y : Operand} {a b : ByteArray} {ob : Option Prop} {v : Value} (ho : o.op = .binOp op xt x y yt) (hx : EvOK ft x (.val (.string a))) (hy : EvOK ft y (.val (.string b)))
    (h : sbin op a b = some (ob, v)) (hob : obP ob) : OpOK P o ft fk (.val v) [] [] :=
  ok_pure fun ρ ac w hp => by
    have e1 := of_has_val (hx ρ ac hp.hft)
    have e2 := of_has_val (hy ρ ac hp.hft)
    refine ⟨v, ?_, ?_⟩
    · cases op <;> simp only [sbin, Option.some.injEq, Prod.mk.injEq, reduceCtorEq] at h <;> obtain ⟨rfl, rfl⟩ := h
      case add =>
        simp [execOp, ho, e1, e2, eqGuard, binOp, run_string_add_sum w a b (show a.size + b.size ≤ 9223372036854775807 from hob)]
      all_goals simp [execOp, ho, e1, e2, eqGuard, binOp, Op.stringOp]
    · refine has_val ?_
      cases op <;> simp only [sbin, Option.some.injEq, Prod.mk.injEq, reduceCtorEq] at h <;> obtain ⟨rfl, rfl⟩ := h <;> rfl

theorem op_not {xt : TypeId} {x : Operand} {a : Bool} (ho : o.op = .unOp .not xt x) (hx : EvOK ft x (.val (.bool a))) : OpOK P o ft fk (.val (.bool (!a))) [] [] :=
  ok_pure fun ρ ac w hp => by
    have e1 := of_has_val (hx ρ ac hp.hft)
    exact ⟨_, by simp [execOp, ho, e1, Op.unary], has_val rfl⟩

theorem op_neg {xt : TypeId} {x : Operand} {k : IntKind} {a : Int} (ho : o.op = .unOp .neg xt x) (hx : EvOK ft x (.val (.int k a))) : OpOK P o ft fk (.val (.int k (k.wrap (0 - a)))) [] [] :=
  ok_pure fun ρ ac w hp => by
    have e1 := of_has_val (hx ρ ac hp.hft)
    exact ⟨_, by simp [execOp, ho, e1, Op.unary, Op.intArith], has_val rfl⟩

theorem op_conv {src dst : TypeId} {x : Operand} {k k' : IntKind} {a : Int} {ts td : TI} (ho : o.op = .convert src dst x) (hx : EvOK ft x (.val (.int k' a))) (hs : TOK P src ts) (hd : TOK P dst td) (hk : td.kind = .int k) (hk' : ts.kind = .int k') :
    OpOK P o ft fk (.val (.int k (k.wrap a))) [] [] :=
  ok_pure fun ρ ac w hp => by
    have e1 := of_has_val (hx ρ ac hp.hft)
    have h1 := hs.kind; rw [hk'] at h1
    have h2 := hd.kind; rw [hk] at h2
    exact ⟨_, by simp [execOp, ho, e1, convert, run_underlying h1, run_underlying h2, Conv.intToInt], has_val rfl⟩

theorem op_pick {x y z : Operand} {b : Bool} {c c1 c2 : SV} (ho : o.op = .pick x y z) (hx : EvOK ft x (.val (.bool b))) (hy : b = true → EvOK ft y c1) (hz : b = false → EvOK ft z c2) (hc : c = if b then c1 else c2) : OpOK P o ft fk c [] [] :=
  ok_pure fun ρ ac w hp => by
    have e1 := of_has_val (hx ρ ac hp.hft)
    cases b
    · refine ⟨ac.eval z, by simp [execOp, ho, e1, asBool], ?_⟩
      rw [hc]; simpa using hz rfl ρ ac hp.hft
    · refine ⟨ac.eval y, by simp [execOp, ho, e1, asBool], ?_⟩
      rw [hc]; simpa using hy rfl ρ ac hp.hft
end

/-- The function can be entered. -/
def FnOK (P : Program) (f : FuncId) : Prop := ∃ fn, P.funcs[f]? = some fn ∧ (fn.name == "runtime.NumGoroutine") = false ∧ fn.body.isNone = false

/-- What a world must be for a contract. -/
structure PreW (fk new : List (Nat × Blk)) (ρ : Rho) (w : World) : Prop where
  hfk : ∀ k b, (k, b) ∈ fk → BlkOK ρ w k b
  sep : ∀ k k' x x' b b', (k, b) ∈ fk → (k', b') ∈ fk → ρ.key k = some x → ρ.key k' = some x' → k ≠ k' → x.1 = x'.1 → b.data.live = true → b'.data.live = true → b.wr = false
  imm : ∀ b o, ρ.imm b = some o → w.heap[b]? = some o
  immw : ∀ k b x, (k, b) ∈ fk → b.wr = true → b.data.live = true → ρ.key k = some x → ρ.imm x.1 = none
  fresh : ∀ k b, (k, b) ∈ new → ρ.key k = none

theorem Pre.toW {ft : List (Nat × SV)} {fk new : List (Nat × Blk)} {ρ : Rho} {a : Act} {w : World} (h : Pre ft fk new ρ a w) : PreW fk new ρ w := ⟨h.hfk, h.sep, h.imm, h.immw, h.fresh⟩

/-- THE CONTRACT of a function: its result and what it does to the blocks that it is handed, for these arguments. -/
def CallOK (P : Program) (f : FuncId) (args : List SV) (fk : List (Nat × Blk)) (c : SV) (new upd : List (Nat × Blk)) : Prop :=
  (FnOK P f ∧ ∀ ρ w z, HasZ ρ args z → PreW fk new ρ w →
    Calls P f (List.zipWith mkV args z).toArray w fun e w' => ∃ v ρ', e = .returned v ∧ Post ρ w c new upd v ρ' w') ∨
  (∀ ρ w z, HasZ ρ args z → PreW fk new ρ w → ∃ v ρ' w', (callFunc f (List.zipWith mkV args z).toArray).run P w = .ok (.value v) w' ∧ Post ρ w c new upd v ρ' w')

/-- A value that can be handed on. -/
def passable : SV → Bool
  | .any | .tup _ => false
  | _ => true

theorem has_pass {ρ : Rho} {c : SV} {v : Value} (h : passable c = true) (hv : Has ρ c v) : ∃ x, HasC ρ c x ∧ v = mkV c x := by
  cases c <;> simp [passable] at h <;> simpa only [Has] using hv

def evs (fr : List (Nat × SV)) : List Operand → Option (List SV)
  | [] => some []
  | x :: r => match ev fr x with
    | none => none
    | some c => match passable c with
      | false => none
      | true => match evs fr r with
        | none => none
        | some l => some (c :: l)

theorem evs_ok {fr : List (Nat × SV)} : ∀ {xs : List Operand} {l : List SV}, evs fr xs = some l → ∀ ρ a, (∀ t s, (t, s) ∈ fr → Has ρ s (a.tmps.getD t undef)) → ∃ z, HasZ ρ l z ∧ xs.map (Act.eval a) = List.zipWith mkV l z
  | [], l, h, ρ, a, _ => by simp [evs] at h; subst h; exact ⟨[], by simp [HasZ], rfl⟩
  | x :: r, l, h, ρ, a, hf => by
    simp only [evs] at h
    cases hx : ev fr x with
    | none => rw [hx] at h; simp at h
    | some c =>
      rw [hx] at h
      simp only at h
      cases hp : passable c with
      | false => rw [hp] at h; simp at h
      | true =>
        rw [hp] at h
        simp only at h
        cases hr : evs fr r with
        | none => rw [hr] at h; simp at h
        | some l' =>
          rw [hr] at h
          simp only [Option.some.injEq] at h
          subst h
          obtain ⟨z, h1, h2⟩ := evs_ok hr ρ a hf
          obtain ⟨y, h3, h4⟩ := has_pass hp (ev_ok hx ρ a hf)
          exact ⟨y :: z, by simp only [HasZ]; exact ⟨y, z, rfl, h3, h1⟩, by simp [h2, h4]⟩

section
variable {P : Program} {o : Oper} {fr : List (Nat × SV)}

/-- A call of a function by name, or through a value that is known. -/
theorem op_call {x : Operand} {xs : Array Operand} {ts : Array TypeId} {f : FuncId} {first cap args : List SV} {fk new upd : List (Nat × Blk)} {c : SV}
    (ho : o.op = .call ⟨.value x, xs, ts⟩) (hx : ev fr x = some (.clo f first cap)) (hxs : evs fr xs.toList = some args)
    (hc : CallOK P f (first ++ (args ++ cap)) fk c new upd) : OpOK P o fr fk c new upd := by
  intro ρ a w hp
  have e1 := ev_ok hx ρ a hp.hft
  simp only [Has, HasC] at e1
  obtain ⟨_, ⟨fz, cz, h1, h2, rfl⟩, hv⟩ := e1
  simp only [mkV, SV.isOne, if_true, List.headD_cons] at hv
  obtain ⟨z, h3, h4⟩ := evs_ok hxs ρ a hp.hft
  have zl : ∀ (l : List SV) (z : List (List Value)), HasZ ρ l z → l.length = z.length := by
    intro l
    induction l with
    | nil => intro z hz; simp only [HasZ] at hz; subst hz; rfl
    | cons c l ih => intro z hz; simp only [HasZ] at hz; obtain ⟨x, r, rfl, _, h⟩ := hz; simp [ih r h]
  have hargs : (List.zipWith mkV (first ++ (args ++ cap)) (fz ++ (z ++ cz))).toArray = ((List.zipWith mkV first fz).toArray ++ xs.map (Act.eval a)) ++ (List.zipWith mkV cap cz).toArray := by
    rw [List.zipWith_append (zl _ _ h1), List.zipWith_append (zl _ _ h3), ← h4]
    apply Array.ext'
    simp
  have hrun0 : (execOp a.eval o).run P w = (callFunc f (List.zipWith mkV (first ++ (args ++ cap)) (fz ++ (z ++ cz))).toArray).run P w := by
    rw [hargs]
    simp [execOp, ho, resolve, hv, Deferred.ofValue, invoke]
  rcases hc with ⟨⟨fn, hf, hn, hb⟩, hcall⟩ | hext
  · have hrun : (execOp a.eval o).run P w = .ok (.enter f (List.zipWith mkV (first ++ (args ++ cap)) (fz ++ (z ++ cz))).toArray) w := by
      have hn' : ¬ fn.name = "runtime.NumGoroutine" := by simpa using hn
      have hb' : ¬ fn.body = none := fun h => by rw [h] at hb; cases hb
      rw [hrun0]
      simp [callFunc, hf, hn', hb']
    unfold Oper.wp
    rw [hrun]
    simp only [Oper.upon]
    refine (hcall ρ w _ (HasZ_append h1 (HasZ_append h3 h2)) hp.toW).mono ?_
    rintro e w' ⟨v, ρ', rfl, hpost⟩
    exact ⟨v, ρ', rfl, hpost⟩
  · obtain ⟨v, ρ', w', hr, hpost⟩ := hext ρ w _ (HasZ_append h1 (HasZ_append h3 h2)) hp.toW
    unfold Oper.wp
    rw [hrun0, hr]
    simp only [Oper.upon]
    exact ⟨v, ρ', rfl, hpost⟩
end
end Go.Sx
