/- Symbolic values, blocks and states; what it means that a machine state fits one; one operation's effect laid into the state. -/
import Derived.Test.YtghdcjhlhcoijaaDoorSxA
import Derived.Test.YtghdcjhlhcoijaaDoorSxZ
import Derived.Below
import Derived.Laws.Rows
namespace Go.Sx

/-- The words of a number, 32 bits each, least significant first. -/
def wordsFuel : Nat → Nat → List Nat
  | 0, _ => []
  | f + 1, n => if n = 0 then [] else n % 4294967296 :: wordsFuel f (n / 4294967296)
def words (n : Nat) : List Nat := wordsFuel n n
def wordBytes (w : Nat) : List UInt8 := [UInt8.ofNat w, UInt8.ofNat (w / 256), UInt8.ofNat (w / 65536), UInt8.ofNat (w / 16777216)]
def low (n : Nat) : Int := if n < 18446744073709551616 then (n : Int) else 0
def big (n : Nat) : ByteArray := if n < 18446744073709551616 then ByteArray.empty else ⟨((words n).flatMap wordBytes).toArray⟩
def natCells (n : Nat) : List Value := [.int .u64 (low n), .string (big n)]
def intCells (z : Int) : List Value := natCells z.natAbs ++ [.bool (decide (z < 0))]
def fracCells (q : Rat) : List Value := intCells q.num ++ natCells (q.den - 1)

/-- Where the keys lie (block, cells), and which blocks hold what for good. -/
structure Rho where
  key : Nat → Option (Nat × Nat)
  imm : Nat → Option Obj
  glob : globOK imm

structure Rho.Le (ρ ρ' : Rho) : Prop where
  key : ∀ k x, ρ.key k = some x → ρ'.key k = some x
  imm : ∀ b o, ρ.imm b = some o → ρ'.imm b = some o

theorem Rho.Le.refl (ρ : Rho) : ρ.Le ρ := ⟨fun _ _ h => h, fun _ _ h => h⟩
theorem Rho.Le.trans {ρ σ τ : Rho} (h : ρ.Le σ) (h' : σ.Le τ) : ρ.Le τ := ⟨fun k x hx => h'.key k x (h.key k x hx), fun b o ho => h'.imm b o (h.imm b o ho)⟩

/-- A value of a kind of one's own: its cells. -/
structure Pred where
  h : (Nat → Option Obj) → List Value → Prop
  mono : ∀ i i' vs, (∀ b o, i b = some o → i' b = some o) → h i vs → h i' vs
  width : Nat
  len : ∀ i vs, h i vs → vs.length = width ∧ ∀ v ∈ vs, v.oneCell' = true
  bare : Bool
  bareLen : bare = true → width = 1

inductive SV where
  | any
  | val (v : Value)
  | ptr (k s i r : Nat)
  | slc (k s i n : Nat)
  | nat (n : Nat)
  | int (z : Int)
  | frac (q : Rat)
  | atom (p : Pred)
  | agg (cs : List SV)
  | tup (vs : List SV)
  | clo (f : FuncId) (first cap : List SV)

def SV.isOne : SV → Bool
  | .any | .val _ | .ptr .. | .slc .. | .clo .. => true
  | .atom p => p.bare
  | _ => false

mutual
def SV.width : SV → Nat
  | .any | .val _ | .ptr .. | .slc .. | .clo .. => 1
  | .nat _ => 2
  | .int _ => 3
  | .frac _ => 5
  | .atom p => p.width
  | .agg cs => SV.widthL cs
  | .tup _ => 0
def SV.widthL : List SV → Nat
  | [] => 0
  | c :: l => SV.width c + SV.widthL l
end

def mkV (c : SV) (cells : List Value) : Value := if c.isOne then cells.headD undef else .agg cells.toArray

mutual
/-- The cells of a component. -/
def HasC (ρ : Rho) : SV → List Value → Prop
  | .any, vs => ∃ v, vs = [v] ∧ v.oneCell' = true
  | .val v, vs => vs = [v] ∧ v.oneCell' = true
  | .ptr k s i r, vs => ∃ b t, ρ.key k = some (b, t) ∧ vs = [.pointer (some ⟨b, i * s + r, none⟩)]
  | .slc k s i n, vs => (∃ b t cap, ρ.key k = some (b, t) ∧ n ≤ cap ∧ (i + cap) * s ≤ t ∧ vs = [.slice (some ⟨b, i * s, none⟩) n cap]) ∨ (n = 0 ∧ ∃ a, vs = [.slice a 0 0])
  | .nat n, vs => vs = natCells n
  | .int z, vs => vs = intCells z
  | .frac q, vs => vs = fracCells q
  | .atom p, vs => p.h ρ.imm vs
  | .agg cs, vs => ∃ z, HasZ ρ cs z ∧ vs = z.flatten
  | .tup _, _ => False
  | .clo f first cap, vs => ∃ fz cz, HasZ ρ first fz ∧ HasZ ρ cap cz ∧ vs = [.func (.func f) (List.zipWith mkV first fz).toArray (List.zipWith mkV cap cz).toArray]
/-- The cells of each of some components. -/
def HasZ (ρ : Rho) : List SV → List (List Value) → Prop
  | [], z => z = []
  | c :: l, z => ∃ x r, z = x :: r ∧ HasC ρ c x ∧ HasZ ρ l r
end

def Has (ρ : Rho) : SV → Value → Prop
  | .any, _ => True
  | .tup l, v => ∃ z, HasZ ρ l z ∧ v = .tuple (List.zipWith mkV l z).toArray
  | c, v => ∃ x, HasC ρ c x ∧ v = mkV c x

mutual
theorem HasC.mono {ρ ρ' : Rho} (h : ρ.Le ρ') : ∀ (c : SV) (vs : List Value), HasC ρ c vs → HasC ρ' c vs
  | .any, _, hc => by simpa only [HasC] using hc
  | .val _, _, hc => by simpa only [HasC] using hc
  | .ptr k s i r, _, hc => by
    simp only [HasC] at hc ⊢
    obtain ⟨b, t, h1, h2⟩ := hc
    exact ⟨b, t, h.key _ _ h1, h2⟩
  | .slc k s i n, _, hc => by
    simp only [HasC] at hc ⊢
    rcases hc with ⟨b, t, cap, h1, h2⟩ | hc
    · exact .inl ⟨b, t, cap, h.key _ _ h1, h2⟩
    · exact .inr hc
  | .nat _, _, hc => by simpa only [HasC] using hc
  | .int _, _, hc => by simpa only [HasC] using hc
  | .frac _, _, hc => by simpa only [HasC] using hc
  | .atom p, _, hc => by simp only [HasC] at hc ⊢; exact p.mono _ _ _ h.imm hc
  | .agg cs, _, hc => by
    simp only [HasC] at hc ⊢
    obtain ⟨z, h1, h2⟩ := hc
    exact ⟨z, HasZ.mono h cs z h1, h2⟩
  | .tup _, _, hc => by simp only [HasC] at hc
  | .clo f first cap, _, hc => by
    simp only [HasC] at hc ⊢
    obtain ⟨fz, cz, h1, h2, h3⟩ := hc
    exact ⟨fz, cz, HasZ.mono h first fz h1, HasZ.mono h cap cz h2, h3⟩
theorem HasZ.mono {ρ ρ' : Rho} (h : ρ.Le ρ') : ∀ (l : List SV) (z : List (List Value)), HasZ ρ l z → HasZ ρ' l z
  | [], _, hz => by simpa only [HasZ] using hz
  | c :: l, _, hz => by
    simp only [HasZ] at hz ⊢
    obtain ⟨x, r, h1, h2, h3⟩ := hz
    exact ⟨x, r, h1, HasC.mono h c x h2, HasZ.mono h l r h3⟩
end

theorem Has.mono {ρ ρ' : Rho} (h : ρ.Le ρ') (c : SV) (v : Value) (hc : Has ρ c v) : Has ρ' c v := by
  cases c <;> simp only [Has] at hc ⊢
  case tup l => obtain ⟨z, h1, h2⟩ := hc; exact ⟨z, HasZ.mono h _ _ h1, h2⟩
  all_goals (obtain ⟨x, h1, h2⟩ := hc; exact ⟨x, HasC.mono h _ _ h1, h2⟩)

theorem natCells_one (n : Nat) : (natCells n).length = 2 ∧ ∀ v ∈ natCells n, v.oneCell' = true := by simp [natCells, Value.oneCell']
theorem intCells_one (z : Int) : (intCells z).length = 3 ∧ ∀ v ∈ intCells z, v.oneCell' = true := by simp [intCells, natCells, Value.oneCell']
theorem fracCells_one (q : Rat) : (fracCells q).length = 5 ∧ ∀ v ∈ fracCells q, v.oneCell' = true := by simp [fracCells, intCells, natCells, Value.oneCell']

mutual
theorem HasC.len {ρ : Rho} : ∀ (c : SV) (vs : List Value), HasC ρ c vs → vs.length = c.width ∧ ∀ v ∈ vs, v.oneCell' = true
  | .any, _, hc => by simp only [HasC] at hc; obtain ⟨v, rfl, h⟩ := hc; simp [SV.width, h]
  | .val _, _, hc => by simp only [HasC] at hc; obtain ⟨rfl, h⟩ := hc; simp [SV.width, h]
  | .ptr .., _, hc => by simp only [HasC] at hc; obtain ⟨b, t, _, rfl⟩ := hc; simp [SV.width, Value.oneCell']
  | .slc .., _, hc => by
    simp only [HasC] at hc
    rcases hc with ⟨b, t, cap, _, _, _, rfl⟩ | ⟨_, a, rfl⟩ <;> simp [SV.width, Value.oneCell']
  | .nat n, _, hc => by simp only [HasC] at hc; subst hc; exact natCells_one n
  | .int z, _, hc => by simp only [HasC] at hc; subst hc; exact intCells_one z
  | .frac q, _, hc => by simp only [HasC] at hc; subst hc; exact fracCells_one q
  | .atom p, _, hc => by simp only [HasC] at hc; exact p.len _ _ hc
  | .agg cs, _, hc => by
    simp only [HasC] at hc
    obtain ⟨z, h1, rfl⟩ := hc
    exact HasZ.len cs z h1
  | .tup _, _, hc => by simp only [HasC] at hc
  | .clo .., _, hc => by simp only [HasC] at hc; obtain ⟨fz, cz, _, _, rfl⟩ := hc; simp [SV.width, Value.oneCell']
theorem HasZ.len {ρ : Rho} : ∀ (l : List SV) (z : List (List Value)), HasZ ρ l z → z.flatten.length = SV.widthL l ∧ ∀ v ∈ z.flatten, v.oneCell' = true
  | [], _, hz => by simp only [HasZ] at hz; subst hz; simp [SV.widthL]
  | c :: l, _, hz => by
    simp only [HasZ] at hz
    obtain ⟨x, r, rfl, h2, h3⟩ := hz
    obtain ⟨a1, a2⟩ := HasC.len c x h2
    obtain ⟨b1, b2⟩ := HasZ.len l r h3
    refine ⟨by simp [SV.widthL, a1, b1], fun v hv => ?_⟩
    simp only [List.flatten_cons, List.mem_append] at hv
    exact hv.elim (a2 v) (b2 v)
end

/-- What a block holds. -/
inductive Data where
  | one (cs : List SV)
  | ints (kd : IntKind) (xs : List Int)
  | fracs (xs : List Rat)
  | seq (w : Nat) (xs : List SV)
  | dead

def DataC (ρ : Rho) : Data → List Value → Prop
  | .one cs, vs => ∃ z, HasZ ρ cs z ∧ vs = z.flatten
  | .ints kd xs, vs => vs = xs.map (.int kd)
  | .fracs xs, vs => vs = xs.flatMap fracCells
  | .seq w xs, vs => ∃ z, HasZ ρ xs z ∧ vs = z.flatten ∧ ∀ x ∈ xs, x.width = w
  | .dead, _ => False

def Data.empty : Data → Prop
  | .ints _ xs => xs = []
  | .fracs xs => xs = []
  | .seq _ xs => xs = []
  | .one _ => False
  | .dead => False

def Data.live : Data → Bool
  | .dead => false
  | _ => true

theorem DataC.mono {ρ ρ' : Rho} (h : ρ.Le ρ') {d : Data} {vs : List Value} (hd : DataC ρ d vs) : DataC ρ' d vs := by
  cases d <;> simp only [DataC] at hd ⊢
  case one cs => obtain ⟨z, h1, h2⟩ := hd; exact ⟨z, HasZ.mono h _ _ h1, h2⟩
  case seq w xs => obtain ⟨z, h1, h2⟩ := hd; exact ⟨z, HasZ.mono h _ _ h1, h2⟩
  all_goals exact hd

theorem DataC.one' {ρ : Rho} {d : Data} {vs : List Value} (hd : DataC ρ d vs) : ∀ v ∈ vs, v.oneCell' = true := by
  cases d <;> simp only [DataC] at hd
  case one cs => obtain ⟨z, h1, rfl⟩ := hd; exact (HasZ.len _ _ h1).2
  case seq w xs => obtain ⟨z, h1, rfl, _⟩ := hd; exact (HasZ.len _ _ h1).2
  case ints kd xs => subst hd; intro v hv; obtain ⟨x, _, rfl⟩ := List.mem_map.1 hv; rfl
  case fracs xs => subst hd; intro v hv; obtain ⟨x, _, hx⟩ := List.mem_flatMap.1 hv; exact (fracCells_one x).2 v hx

structure Blk where
  ty : TypeId
  wr : Bool
  data : Data

def BlkOK (ρ : Rho) (w : World) (k : Nat) (blk : Blk) : Prop :=
  blk.data.live = false ∨ (∃ b t vs ex, ρ.key k = some (b, t) ∧ w.heap[b]? = some (.cells (vs ++ ex).toArray blk.ty (0, 0)) ∧ DataC ρ blk.data vs ∧ (vs ++ ex).length = t ∧ ∀ v ∈ ex, v.oneCell' = true) ∨
  (ρ.key k = none ∧ blk.data.empty)

/-- Blocks that were there hold what they held, but for those of W. -/
structure Pres (W : Nat → Prop) (w w' : World) : Prop where
  os : w'.os = w.os
  tape : w'.tape = w.tape
  output : w'.output = w.output
  size : w.heap.size ≤ w'.heap.size
  block : ∀ b, b < w.heap.size → ¬ W b → w'.heap[b]? = w.heap[b]?

theorem Pres.refl (W : Nat → Prop) (w : World) : Pres W w w := ⟨rfl, rfl, rfl, Nat.le_refl _, fun _ _ _ => rfl⟩
theorem Pres.trans {W : Nat → Prop} {a b c : World} (h : Pres W a b) (k : Pres W b c) : Pres W a c :=
  ⟨k.os.trans h.os, k.tape.trans h.tape, k.output.trans h.output, Nat.le_trans h.size k.size, fun i hi hw => (k.block i (Nat.lt_of_lt_of_le hi h.size) hw).trans (h.block i hi hw)⟩
theorem Pres.mono {W W' : Nat → Prop} {w w' : World} (h : Pres W w w') (hW : ∀ b, b < w.heap.size → W b → W' b) : Pres W' w w' :=
  ⟨h.os, h.tape, h.output, h.size, fun b hb hn => h.block b hb (fun hw => hn (hW b hb hw))⟩
theorem Pres.below {w w' : World} (h : Pres (fun _ => False) w w') : RowKit.Below w.heap.size w w' := ⟨h.os, h.tape, h.output, h.size, fun k hk => h.block k hk (fun h => h)⟩
theorem Pres.of_below {W : Nat → Prop} {w w' : World} (h : RowKit.Below w.heap.size w w') : Pres W w w' := ⟨h.os, h.tape, h.output, h.size, fun k hk _ => h.block k hk⟩

inductive Loc where
  | t (n : Nat)
  | k (n : Nat)
  deriving DecidableEq

inductive LV where
  | t (s : Option SV)
  | k (b : Option Blk)

def LV.sv : LV → Option SV
  | .t s => s
  | .k _ => none
def LV.blk : LV → Option Blk
  | .k b => b
  | .t _ => none

/-- The heap's part of 'the machine fits the symbolic state'. -/
structure HpR (B : Nat) (W0 : Nat → Prop) (ρ : Rho) (s : Loc → LV) (w : World) : Prop where
  blk : ∀ k b, (s (.k k)).blk = some b → BlkOK ρ w k b
  sep : ∀ k k' x x' b b', ρ.key k = some x → ρ.key k' = some x' → k ≠ k' → x.1 = x'.1 → (s (.k k)).blk = some b → (s (.k k')).blk = some b' → b.data.live = true → b'.data.live = true → b.wr = false
  own : ∀ k b x, (s (.k k)).blk = some b → b.wr = true → b.data.live = true → ρ.key k = some x → B ≤ x.1 ∨ W0 x.1
  dom : ∀ k x, ρ.key k = some x → ∃ b, (s (.k k)).blk = some b
  imm : ∀ b o, ρ.imm b = some o → w.heap[b]? = some o
  immw : ∀ k b x, (s (.k k)).blk = some b → b.wr = true → b.data.live = true → ρ.key k = some x → ρ.imm x.1 = none

/-- The machine fits the symbolic state. -/
structure R (W0 : Nat → Prop) (w0 : World) (n : Nat) (ρ : Rho) (s : Loc → LV) (a : Act) (w : World) : Prop where
  defers : a.defers = []
  size : a.tmps.size = n
  fr : ∀ t sv, (s (.t t)).sv = some sv → Has ρ sv (a.tmps.getD t undef)
  pres : Pres W0 w0 w
  hp : HpR w0.heap.size W0 ρ s w

/-- What an operation leaves. -/
structure Post (ρ : Rho) (w : World) (val : SV) (new upd : List (Nat × Blk)) (v : Value) (ρ' : Rho) (w' : World) : Prop where
  le : ρ.Le ρ'
  has : Has ρ' val v
  key : ∀ k, (∀ b, (k, b) ∉ new) → ρ'.key k = ρ.key k
  pres : Pres (fun b => ∃ k blk t, (k, blk) ∈ upd ∧ ρ.key k = some (b, t)) w w'
  blk : ∀ k b, (k, b) ∈ upd ∨ (k, b) ∈ new → BlkOK ρ' w' k b
  once : ∀ k b b', (k, b) ∈ upd → (k, b') ∈ upd → b.data.live = false → b'.data.live = true → False
  newb : ∀ k b x, (k, b) ∈ new → ρ'.key k = some x → w.heap.size ≤ x.1 ∨ ∃ k0 b0 t, (k0, b0) ∈ upd ∧ b0.data.live = false ∧ ρ.key k0 = some (x.1, t)
  newsep : ∀ k b k' b' x x', (k, b) ∈ new → (k', b') ∈ new → k ≠ k' → ρ'.key k = some x → ρ'.key k' = some x' → x.1 ≠ x'.1
  imm : ∀ b o, ρ'.imm b = some o → ρ.imm b = some o ∨ (w.heap.size ≤ b ∧ w'.heap[b]? = some o ∧ ∀ k blk x, (k, blk) ∈ new → ρ'.key k = some x → x.1 ≠ b)

/-- What an operation needs of the state, and what it leaves. -/
structure Pre (ft : List (Nat × SV)) (fk : List (Nat × Blk)) (new : List (Nat × Blk)) (ρ : Rho) (a : Act) (w : World) : Prop where
  defers : a.defers = []
  hft : ∀ t sv, (t, sv) ∈ ft → Has ρ sv (a.tmps.getD t undef)
  hfk : ∀ k b, (k, b) ∈ fk → BlkOK ρ w k b
  sep : ∀ k k' x x' b b', (k, b) ∈ fk → (k', b') ∈ fk → ρ.key k = some x → ρ.key k' = some x' → k ≠ k' → x.1 = x'.1 → b.data.live = true → b'.data.live = true → b.wr = false
  imm : ∀ b o, ρ.imm b = some o → w.heap[b]? = some o
  immw : ∀ k b x, (k, b) ∈ fk → b.wr = true → b.data.live = true → ρ.key k = some x → ρ.imm x.1 = none
  fresh : ∀ k b, (k, b) ∈ new → ρ.key k = none

def OpOK (P : Program) (o : Oper) (ft : List (Nat × SV)) (fk : List (Nat × Blk)) (val : SV) (new upd : List (Nat × Blk)) : Prop :=
  ∀ ρ a w, Pre ft fk new ρ a w → o.wp P a w (fun a' w' => ∃ v ρ', a' = a.put o.dst v ∧ Post ρ w val new upd v ρ' w') (fun _ _ _ => False)

def find (l : List (Nat × Blk)) (k : Nat) : Option Blk := match l with
  | [] => none
  | (j, b) :: r => match Nat.beq j k with | true => some b | false => find r k

theorem find_mem : ∀ {l : List (Nat × Blk)} {k : Nat} {b : Blk}, find l k = some b → (k, b) ∈ l
  | (j, b') :: r, k, b, h => by
    unfold find at h
    split at h
    · rename_i hj
      obtain rfl : j = k := Nat.eq_of_beq_eq_true hj
      cases h
      exact List.mem_cons_self ..
    · exact List.mem_cons_of_mem _ (find_mem h)

theorem find_none : ∀ {l : List (Nat × Blk)} {k : Nat}, find l k = none → ∀ b, (k, b) ∉ l
  | [], _, _, _, hm => by cases hm
  | (j, b') :: r, k, h, b, hm => by
    unfold find at h
    split at h
    · cases h
    · rename_i hj
      rcases List.mem_cons.1 hm with h1 | h1
      · cases h1
        simp [Nat.beq_refl] at hj
      · exact find_none h b h1

/-- The state with an operation's effect. -/
def lay (dst : Option Tmp) (val : SV) (ks : List (Nat × Blk)) (s : Loc → LV) : Loc → LV
  | .t n => if dst = some n then .t (some val) else s (.t n)
  | .k n => match find ks n with
    | some b => .k (some b)
    | none => s (.k n)

theorem lay_R_le {P : Program} {o : Oper} {ft : List (Nat × SV)} {fk : List (Nat × Blk)} {val : SV} {new upd : List (Nat × Blk)}
    (hop : OpOK P o ft fk val new upd) {W0 : Nat → Prop} {w0 : World} {n : Nat} {ρ : Rho} {s : Loc → LV} {a : Act} {w : World} (h : R W0 w0 n ρ s a w)
    (hft : ∀ t sv, (t, sv) ∈ ft → (s (.t t)).sv = some sv) (hfk : ∀ k b, (k, b) ∈ fk → (s (.k k)).blk = some b)
    (hnew : ∀ k b, (k, b) ∈ new → (s (.k k)).blk = none) (hupd : ∀ k b, (k, b) ∈ upd → ∃ b0, (k, b0) ∈ fk ∧ b0.wr = true ∧ b0.data.live = true ∧ b.wr = true)
    (hdst : ∀ d, o.dst = some d → d < n) :
    o.wp P a w (fun a' w' => ∃ ρ', ρ.Le ρ' ∧ (∀ k, (s (.k k)).blk ≠ none → ρ'.key k = ρ.key k) ∧ (∀ b o, ρ'.imm b = some o → ρ.imm b = some o ∨ w0.heap.size ≤ b) ∧ R W0 w0 n ρ' (lay o.dst val (upd ++ new) s) a' w') (fun _ _ _ => False) := by
  have hfresh : ∀ k b, (k, b) ∈ new → ρ.key k = none := by
    intro k b hk
    cases hx : ρ.key k with
    | none => rfl
    | some x =>
      obtain ⟨b', hb'⟩ := h.hp.dom k x hx
      rw [hnew k b hk] at hb'
      cases hb'
  have hpre : Pre ft fk new ρ a w := {
    defers := h.defers
    hft := fun t sv ht => h.fr t sv (hft t sv ht)
    hfk := fun k b hk => h.hp.blk k b (hfk k b hk)
    sep := fun k k' x x' b b' hk hk' hx hx' hne he => h.hp.sep k k' x x' b b' hx hx' hne he (hfk k b hk) (hfk k' b' hk')
    imm := h.hp.imm
    immw := fun k b x hk hw hl hx => h.hp.immw k b x (hfk k b hk) hw hl hx
    fresh := hfresh }
  have hupd' : ∀ k b, (k, b) ∈ upd → ∃ b0, (s (.k k)).blk = some b0 ∧ b0.wr = true ∧ b0.data.live = true ∧ b.wr = true := fun k b hk => by
    obtain ⟨b0, h1, h2, h3, h4⟩ := hupd k b hk
    exact ⟨b0, hfk k b0 h1, h2, h3, h4⟩
  refine Oper.wp_mono ?_ (hop ρ a w hpre)
  rintro a' w' ⟨v, ρ', rfl, hp⟩
  have hbsz : ∀ k b x, (s (.k k)).blk = some b → b.data.live = true → ρ.key k = some x → x.1 < w.heap.size := by
    intro k b x hb hl hx
    rcases h.hp.blk k b hb with h0 | ⟨b', t, vs, ex, h1, h2, _⟩ | ⟨h1, _⟩
    · rw [hl] at h0; cases h0
    · rw [hx] at h1; cases h1
      rcases Nat.lt_or_ge b' w.heap.size with h' | h'
      · exact h'
      · simp [Array.getElem?_eq_none h'] at h2
    · rw [hx] at h1; cases h1
  -- which block a key of the new state has
  have hkey : ∀ k x, ρ'.key k = some x → (∃ b, (k, b) ∈ new) ∨ ((∀ b, (k, b) ∉ new) ∧ ρ.key k = some x) := by
    intro k x hx
    rcases Classical.em (∃ b, (k, b) ∈ new) with hk | hk
    · exact .inl hk
    · have hk' : ∀ b, (k, b) ∉ new := fun b hb => hk ⟨b, hb⟩
      rw [hp.key k hk'] at hx
      exact .inr ⟨hk', hx⟩
  have hfind : ∀ k b, find (upd ++ new) k = some b → (k, b) ∈ upd ∨ (k, b) ∈ new := fun k b hf => List.mem_append.1 (find_mem hf)
  have hnofind : ∀ k, find (upd ++ new) k = none → (∀ b, (k, b) ∉ upd) ∧ (∀ b, (k, b) ∉ new) := fun k hf =>
    ⟨fun b hb => find_none hf b (List.mem_append.2 (.inl hb)), fun b hb => find_none hf b (List.mem_append.2 (.inr hb))⟩
  have hlayk : ∀ k b, (lay o.dst val (upd ++ new) s (.k k)).blk = some b → (k, b) ∈ upd ∨ (k, b) ∈ new ∨ ((∀ b, (k, b) ∉ upd) ∧ (∀ b, (k, b) ∉ new) ∧ (s (.k k)).blk = some b) := by
    intro k b hb
    simp only [lay] at hb
    cases hf : find (upd ++ new) k with
    | some b' =>
      rw [hf] at hb
      cases hb
      rcases hfind k _ hf with h1 | h1
      · exact .inl h1
      · exact .inr (.inl h1)
    | none =>
      rw [hf] at hb
      exact .inr (.inr ⟨(hnofind k hf).1, (hnofind k hf).2, hb⟩)
  have hnotnew : ∀ k b, (k, b) ∈ upd → ∀ b', (k, b') ∉ new := fun k b hu b' hn => by
    obtain ⟨b0, h1, _⟩ := hupd' k b hu
    rw [hnew k b' hn] at h1; cases h1
  -- a live old key's block is not among the written ones
  have hnotupd : ∀ k b x, (s (.k k)).blk = some b → b.data.live = true → ρ.key k = some x → (∀ b, (k, b) ∉ upd) → ¬ ∃ k' blk t, (k', blk) ∈ upd ∧ ρ.key k' = some (x.1, t) := by
    rintro k b x hb hl hx hku ⟨k', blk, t, hu, hk'⟩
    obtain ⟨b0, h1, h2, h3, _⟩ := hupd' k' blk hu
    have hne : k' ≠ k := fun he => hku blk (he ▸ hu)
    have := h.hp.sep k' k (x.1, t) x b0 b hk' hx hne rfl h1 hb h3 hl
    rw [h2] at this; cases this
  -- the block of an updated live key
  have hlive : ∀ k b, (k, b) ∈ upd → ∀ x, ρ.key k = some x → ∀ k2 b2 x2, (s (.k k2)).blk = some b2 → b2.data.live = true → ρ.key k2 = some x2 → x2.1 = x.1 → k2 = k := by
    intro k b hu x hx k2 b2 x2 hb2 hl2 hx2 he
    refine Classical.byContradiction fun hne => ?_
    obtain ⟨b0, h1, h2, h3, _⟩ := hupd' k b hu
    have := h.hp.sep k k2 x x2 b0 b2 hx hx2 (fun h => hne h.symm) he.symm h1 hb2 h3 hl2
    rw [h2] at this; cases this
  have hpres : Pres W0 w0 w' := by
    refine ⟨hp.pres.os.trans h.pres.os, hp.pres.tape.trans h.pres.tape, hp.pres.output.trans h.pres.output, Nat.le_trans h.pres.size hp.pres.size, fun b hb hw => ?_⟩
    rw [hp.pres.block b (Nat.lt_of_lt_of_le hb h.pres.size) ?_, h.pres.block b hb hw]
    rintro ⟨k, blk, t, hu, hk⟩
    obtain ⟨b0, h1, h2, h3, _⟩ := hupd' k blk hu
    rcases h.hp.own k b0 _ h1 h2 h3 hk with h3 | h3
    · simp at h3; omega
    · exact hw h3
  refine ⟨ρ', hp.le, fun k hk => hp.key k (fun b hb => hk (hnew k b hb)), fun b o hb => (hp.imm b o hb).imp id (fun h1 => Nat.le_trans h.pres.size h1.1), ?_⟩
  refine { defers := ?_, size := ?_, fr := ?_, pres := hpres, hp := ?_ }
  · cases hd : o.dst <;> simp [Act.put, h.defers]
  · cases hd : o.dst <;> simp [Act.put, h.size]
  · intro t sv ht
    simp only [lay] at ht
    by_cases hd : o.dst = some t
    · rw [if_pos hd] at ht
      cases ht
      have : (a.put o.dst v).tmps.getD t undef = v := by
        have := hdst t hd
        simp [Act.put, hd, h.size, this]
      rw [this]; exact hp.has
    · rw [if_neg hd] at ht
      have : (a.put o.dst v).tmps.getD t undef = a.tmps.getD t undef := by
        cases hd' : o.dst with
        | none => rfl
        | some d =>
          have hne : d ≠ t := fun he => hd (by rw [hd', he])
          simp [Act.put, Array.getElem?_setIfInBounds_ne hne]
      rw [this]; exact Has.mono hp.le _ _ (h.fr t sv ht)
  · constructor
    · -- blk
      intro k b hb
      rcases hlayk k b hb with h1 | h1 | ⟨h1, h2, h3⟩
      · exact hp.blk k b (.inl h1)
      · exact hp.blk k b (.inr h1)
      · rcases h.hp.blk k b h3 with g0 | ⟨b', t, vs, ex, g1, g2, g3, g4, g5⟩ | ⟨g1, g2⟩
        · exact .inl g0
        · cases hl : b.data.live with
          | false => exact .inl hl
          | true =>
            refine .inr (.inl ⟨b', t, vs, ex, hp.le.key _ _ g1, ?_, g3.mono hp.le, g4, g5⟩)
            rw [hp.pres.block b' (hbsz k b (b', t) h3 hl g1) (hnotupd k b (b', t) h3 hl g1 h1)]
            exact g2
        · exact .inr (.inr ⟨by rw [hp.key k h2]; exact g1, g2⟩)
    · -- sep
      intro k k' x x' b b' hx hx' hne he hb hb' hl hl'
      -- an old live key that is not updated against a new key
      have mixed : ∀ k k' x x' b b', ρ'.key k = some x → ρ.key k' = some x' → x.1 = x'.1 → (k, b) ∈ new → (∀ b, (k', b) ∉ new) → (lay o.dst val (upd ++ new) s (.k k')).blk = some b' → b'.data.live = true → False := by
        intro k k' x x' b b' hx hx' he hn hn' hb' hl'
        have hold : ∃ b2, (s (.k k')).blk = some b2 ∧ b2.data.live = true := by
          rcases hlayk k' b' hb' with h1 | h1 | ⟨_, _, h3⟩
          · obtain ⟨b0, g1, _, g3, _⟩ := hupd' k' b' h1
            exact ⟨b0, g1, g3⟩
          · exact absurd h1 (hn' b')
          · exact ⟨b', h3, hl'⟩
        obtain ⟨b2, e1, e2⟩ := hold
        rcases hp.newb k b x hn hx with h1 | ⟨k0, b0, t, g1, g2, g3⟩
        · have := hbsz k' b2 x' e1 e2 hx'
          omega
        · have := hlive k0 b0 g1 _ g3 k' b2 x' e1 e2 hx' he.symm
          subst this
          rcases hlayk k' b' hb' with h1 | h1 | ⟨h1, _, _⟩
          · -- updated twice: the first found wins; it is live, so it is not the dead one alone
            have hf : find (upd ++ new) k' = some b' := by
              simp only [lay] at hb'
              cases hf : find (upd ++ new) k' with
              | some b3 => rw [hf] at hb'; simp only [LV.blk, Option.some.injEq] at hb'; rw [hb']
              | none => exact absurd g1 ((hnofind k' hf).1 b0)
            exact hp.once k' b0 b' g1 h1 g2 hl'
          · exact absurd h1 (hn' b')
          · exact absurd g1 (h1 b0)
      rcases hkey k x hx with ⟨bk, hk⟩ | ⟨hkn, hk⟩
      · rcases hkey k' x' hx' with ⟨bk', hk'⟩ | ⟨hkn', hk'⟩
        · exact absurd he (hp.newsep k bk k' bk' x x' hk hk' hne hx hx')
        · exact (mixed k k' x x' bk b' hx hk' he hk hkn' hb' hl').elim
      · rcases hkey k' x' hx' with ⟨bk', hk'⟩ | ⟨hkn', hk'⟩
        · exact (mixed k' k x' x bk' b hx' hk he.symm hk' hkn hb hl).elim
        · have hold : ∀ k b, (∀ b, (k, b) ∉ new) → (lay o.dst val (upd ++ new) s (.k k)).blk = some b → b.data.live = true → ∃ b2, (s (.k k)).blk = some b2 ∧ b2.data.live = true ∧ (b2.wr = b.wr ∨ b2.wr = true) := by
            intro k b hn hb hl
            rcases hlayk k b hb with h1 | h1 | ⟨_, _, h3⟩
            · obtain ⟨b0, g1, g2, g3, _⟩ := hupd' k b h1
              exact ⟨b0, g1, g3, .inr g2⟩
            · exact absurd h1 (hn b)
            · exact ⟨b, h3, hl, .inl rfl⟩
          obtain ⟨b2, e1, e2, e3⟩ := hold k b hkn hb hl
          obtain ⟨b2', e1', e2', _⟩ := hold k' b' hkn' hb' hl'
          have := h.hp.sep k k' x x' b2 b2' hk hk' hne he e1 e1' e2 e2'
          rcases e3 with e3 | e3
          · rw [← e3]; exact this
          · rw [this] at e3; cases e3
    · -- own
      intro k b x hb hw hl hx
      rcases hlayk k b hb with h1 | h1 | ⟨h1, h2, h3⟩
      · obtain ⟨b0, g1, g2, g3, _⟩ := hupd' k b h1
        have hkx : ρ.key k = some x := by
          rcases hkey k x hx with ⟨bk, hk⟩ | ⟨_, hk⟩
          · rw [hnew k bk hk] at g1; cases g1
          · exact hk
        exact h.hp.own k b0 x g1 g2 g3 hkx
      · rcases hp.newb k b x h1 hx with h4 | ⟨k0, b0, t, g1, g2, g3⟩
        · exact .inl (Nat.le_trans h.pres.size h4)
        · obtain ⟨b1, e1, e2, e3, _⟩ := hupd' k0 b0 g1
          exact h.hp.own k0 b1 (x.1, t) e1 e2 e3 g3
      · rw [hp.key k h2] at hx
        exact h.hp.own k b x h3 hw hl hx
    · -- dom
      intro k x hx
      simp only [lay]
      cases hf : find (upd ++ new) k with
      | some b => exact ⟨b, rfl⟩
      | none =>
        rw [hp.key k (hnofind k hf).2] at hx
        exact h.hp.dom k x hx
    · -- imm
      intro b ob hb
      rcases hp.imm b ob hb with h1 | ⟨_, h1, _⟩
      · have h2 := h.hp.imm b ob h1
        have hlt : b < w.heap.size := by
          rcases Nat.lt_or_ge b w.heap.size with h' | h'
          · exact h'
          · simp [Array.getElem?_eq_none h'] at h2
        rw [hp.pres.block b hlt ?_]
        · exact h2
        · rintro ⟨k, blk, t, hu, hk⟩
          obtain ⟨b0, g1, g2, g3, _⟩ := hupd' k blk hu
          have := h.hp.immw k b0 _ g1 g2 g3 hk
          rw [h1] at this; cases this
      · exact h1
    · -- immw
      intro k b x hb hw hl hx
      cases hi : ρ'.imm x.1 with
      | none => rfl
      | some ob =>
        exfalso
        rcases hlayk k b hb with h1 | h1 | ⟨h1, h2, h3⟩
        · obtain ⟨b0, g1, g2, g3, _⟩ := hupd' k b h1
          have hkx : ρ.key k = some x := by
            rcases hkey k x hx with ⟨bk, hk⟩ | ⟨_, hk⟩
            · rw [hnew k bk hk] at g1; cases g1
            · exact hk
          rcases hp.imm _ _ hi with h4 | ⟨h4, _⟩
          · have := h.hp.immw k b0 x g1 g2 g3 hkx
            rw [h4] at this; cases this
          · have := hbsz k b0 x g1 g3 hkx
            omega
        · rcases hp.imm _ _ hi with h4 | ⟨h6, _, h4⟩
          · have h5 := h.hp.imm _ _ h4
            rcases hp.newb k b x h1 hx with h7 | ⟨k0, b0, t, g1, g2, g3⟩
            · simp [Array.getElem?_eq_none h7] at h5
            · obtain ⟨b1, e1, e2, e3, _⟩ := hupd' k0 b0 g1
              have := h.hp.immw k0 b1 _ e1 e2 e3 g3
              rw [h4] at this; cases this
          · exact h4 k b x h1 hx rfl
        · rw [hp.key k h2] at hx
          rcases hp.imm _ _ hi with h4 | ⟨h4, _⟩
          · have := h.hp.immw k b x h3 hw hl hx
            rw [h4] at this; cases this
          · have := hbsz k b x h3 hl hx
            omega

end Go.Sx
