/- Regions, code, functions. -/
import Derived.Test.YtghdcjhlhcoijaaDoorSxG
import Derived.Tactics
namespace Go.Sx

/-- What a step touched. -/
structure Foot where
  rt : List Nat
  rk : List Nat
  wt : Option Nat
  wk : List Nat

def keysOf : List (Nat × Blk) → List Nat
  | [] => []
  | (k, _) :: r => k :: keysOf r

theorem keysOf_mem {l : List (Nat × Blk)} {k : Nat} : k ∈ keysOf l ↔ ∃ b, (k, b) ∈ l := by
  induction l with
  | nil => simp [keysOf]
  | cons x l ih =>
    obtain ⟨j, b⟩ := x
    simp only [keysOf, List.mem_cons, ih, Prod.mk.injEq]
    constructor
    · rintro (rfl | ⟨b', h⟩)
      · exact ⟨b, .inl ⟨rfl, rfl⟩⟩
      · exact ⟨b', .inr h⟩
    · rintro ⟨b', ⟨rfl, rfl⟩ | h⟩
      · exact .inl rfl
      · exact .inr ⟨b', h⟩

def layF (dst : Option Nat) (c : SV) (fr : List (Nat × SV)) : List (Nat × SV) :=
  match dst with
  | some d => (d, c) :: fr
  | none => fr

/-- Replace a block. -/
def setB (hp : List (Nat × Blk)) (k : Nat) (b : Blk) : List (Nat × Blk) :=
  match hp with
  | [] => [(k, b)]
  | (j, c) :: r => match Nat.beq j k with
    | true => (k, b) :: r
    | false => (j, c) :: setB r k b

def layH (ks : List (Nat × Blk)) (hp : List (Nat × Blk)) : List (Nat × Blk) :=
  match ks with
  | [] => hp
  | (k, b) :: r => setB (layH r hp) k b

theorem find_setB {k : Nat} {b : Blk} : ∀ (hp : List (Nat × Blk)) (j : Nat), find (setB hp k b) j = if j = k then some b else find hp j
  | [], j => by
    simp only [setB, find]
    cases h : Nat.beq k j with
    | true => rw [if_pos (Nat.eq_of_beq_eq_true h).symm]
    | false => rw [if_neg]; rintro rfl; simp [Nat.beq_refl] at h
  | (i, c) :: r, j => by
    have ih := find_setB (k := k) (b := b) r j
    simp only [setB]
    cases h : Nat.beq i k with
    | true =>
      have hik := Nat.eq_of_beq_eq_true h
      subst hik
      simp only [find]
      cases h2 : Nat.beq i j with
      | true => rw [if_pos (Nat.eq_of_beq_eq_true h2).symm]
      | false => rw [if_neg]; rintro rfl; simp [Nat.beq_refl] at h2
    | false =>
      simp only [find]
      cases h2 : Nat.beq i j with
      | true =>
        have hij := Nat.eq_of_beq_eq_true h2
        subst hij
        rw [if_neg]
        rintro rfl
        simp [Nat.beq_refl] at h
      | false => exact ih

theorem find_layH : ∀ (ks hp : List (Nat × Blk)) (j : Nat), find (layH ks hp) j = match find ks j with
    | some b => some b
    | none => find hp j
  | [], hp, j => by simp [layH, find]
  | (k, b) :: r, hp, j => by
    have ih := find_layH r hp j
    simp only [layH, find_setB, find]
    cases h : Nat.beq k j with
    | true => rw [if_pos (Nat.eq_of_beq_eq_true h).symm]
    | false => rw [if_neg (by rintro rfl; simp [Nat.beq_refl] at h), ih]

/-- The state as a function of places. -/
def fn (fr : List (Nat × SV)) (hp : List (Nat × Blk)) : Loc → LV
  | .t n => .t (lk fr n)
  | .k n => .k (find hp n)

theorem fn_lay (dst : Option Nat) (c : SV) (ks : List (Nat × Blk)) (fr : List (Nat × SV)) (hp : List (Nat × Blk)) : lay dst c ks (fn fr hp) = fn (layF dst c fr) (layH ks hp) := by
  funext l
  cases l with
  | t n =>
    simp only [lay, fn]
    cases dst with
    | none => simp [layF]
    | some d =>
      simp only [Option.some.injEq, layF, lk]
      cases h : Nat.beq d n with
      | true => rw [if_pos (Nat.eq_of_beq_eq_true h)]
      | false => rw [if_neg (by rintro rfl; simp [Nat.beq_refl] at h)]
  | k n =>
    simp only [lay, fn, find_layH]
    cases find ks n <;> rfl

/-- What is fixed while one function is walked. -/
structure Env where
  P : Program
  T : List (TypeId × TI)
  W0 : Nat → Prop
  w0 : World
  n : Nat
  ρ0 : Rho
  fx : List Nat

/-- The map is an extension of the one that the function began with. -/
structure Ext (E : Env) (ρ : Rho) : Prop where
  le : E.ρ0.Le ρ
  imm : ∀ b o, ρ.imm b = some o → E.ρ0.imm b = some o ∨ E.w0.heap.size ≤ b
  fix : ∀ k, k ∈ E.fx → ρ.key k = E.ρ0.key k

/-- The machine fits the state. The keys of 'fx' are those that the function was handed: they stay. -/
def RR (E : Env) (s : Loc → LV) (a : Act) (w : World) : Prop := ∃ ρ, Ext E ρ ∧ (∀ k, k ∈ E.fx → (s (.k k)).blk ≠ none) ∧ R E.W0 E.w0 E.n ρ s a w

/-- A step of the lexical run: what it puts, from whatever state that agrees with the lexical one where it looks. -/
def StepOK (E : Env) (ops : Array Oper) (o : Oper) (fr : List (Nat × SV)) (hp : List (Nat × Blk)) (f : Foot) (c : SV) (ks : List (Nat × Blk)) : Prop :=
  f.wt = o.dst ∧ (∀ k, k ∈ f.wk ↔ ∃ b, (k, b) ∈ ks) ∧
    ∀ s, (∀ t, t ∈ f.rt → s (.t t) = fn fr hp (.t t)) → (∀ k, k ∈ f.rk ∨ k ∈ f.wk → s (.k k) = fn fr hp (.k k)) → ∀ a w, RR E s a w →
      (if Region.wanted o (yielded ops a.tmps) then o.wp E.P a w (fun a' w' => RR E (lay o.dst c ks s) a' w') (fun _ _ _ => False) else RR E (lay o.dst c ks s) (a.put o.dst undef) w)

def dstOK (n : Nat) : Option Nat → Bool
  | none => true
  | some d => Nat.blt d n

/-! ### Forcing: continuations that take values written out -/

def forceL (F : SV → (SV → Prop) → Prop) (l : List SV) : (List SV → Prop) → Prop :=
  List.rec (motive := fun _ => (List SV → Prop) → Prop) (fun K => K []) (fun c _ ih K => F c fun c' => ih fun l' => K (c' :: l')) l

def forceS1 (F : SV → (SV → Prop) → Prop) (c : SV) (K : SV → Prop) : Prop := match c with
    | .agg cs => forceL F cs fun l => K (.agg l)
    | .tup cs => forceL F cs fun l => K (.tup l)
    | .any => K .any
    | .val v => K (.val v)
    | .ptr k s i r => K (.ptr k s i r)
    | .slc k s i n => K (.slc k s i n)
    | .nat n => K (.nat n)
    | .int z => K (.int z)
    | .frac q => K (.frac q)
    | .atom p => K (.atom p)
    | .clo f a b => K (.clo f a b)

def forceS (c : SV) (K : SV → Prop) : Prop := forceS1 (forceS1 (forceS1 (forceS1 fun c K => K c))) c K

def forceBlk (b : Blk) (K : Blk → Prop) : Prop := match b with
  | ⟨ty, wr, d⟩ => match d with
    | .one cs => forceL forceS cs fun l => K ⟨ty, wr, .one l⟩
    | .ints kd xs => K ⟨ty, wr, .ints kd xs⟩
    | .fracs xs => K ⟨ty, wr, .fracs xs⟩
    | .seq w xs => K ⟨ty, wr, .seq w xs⟩
    | .dead => K ⟨ty, wr, .dead⟩

def forceB (l : List (Nat × Blk)) : (List (Nat × Blk) → Prop) → Prop :=
  List.rec (motive := fun _ => (List (Nat × Blk) → Prop) → Prop) (fun K => K []) (fun x _ ih K => match x with
    | (k, b) => forceBlk b fun b' => ih fun r' => K ((k, b') :: r')) l

def forceN (l : List Nat) : (List Nat → Prop) → Prop :=
  List.rec (motive := fun _ => (List Nat → Prop) → Prop) (fun K => K []) (fun x _ ih K => ih fun r' => K (x :: r')) l

def forceF (l : List (Nat × SV)) : (List (Nat × SV) → Prop) → Prop :=
  List.rec (motive := fun _ => (List (Nat × SV) → Prop) → Prop) (fun K => K []) (fun x _ ih K => match x with
    | (t, c) => ih fun r' => K ((t, c) :: r')) l

def forceO (d : Option Nat) (K : Option Nat → Prop) : Prop := match d with
  | none => K none
  | some t => K (some t)

def layFK (dst : Option Nat) (c : SV) (fr : List (Nat × SV)) (K : List (Nat × SV) → Prop) : Prop := match dst with
  | some d => K ((d, c) :: fr)
  | none => K fr

def setBK (hp : List (Nat × Blk)) (k : Nat) (b : Blk) : (List (Nat × Blk) → Prop) → Prop :=
  List.rec (motive := fun _ => (List (Nat × Blk) → Prop) → Prop) (fun K => K [(k, b)]) (fun x r ih K => match x with
    | (j, c) => match Nat.beq j k with
      | true => K ((k, b) :: r)
      | false => ih fun r' => K ((j, c) :: r')) hp

def layHK (ks hp : List (Nat × Blk)) : (List (Nat × Blk) → Prop) → Prop :=
  List.rec (motive := fun _ => (List (Nat × Blk) → Prop) → Prop) (fun K => K hp) (fun x _ ih K => match x with
    | (k, b) => ih fun hp' => setBK hp' k b K) ks

theorem forceL_eq {F : SV → (SV → Prop) → Prop} (hF : ∀ c K, F c K = K c) : ∀ (l : List SV) (K : List SV → Prop), forceL F l K = K l
  | [], K => rfl
  | c :: l, K => by
    show F c (fun c' => forceL F l fun l' => K (c' :: l')) = _
    rw [hF, forceL_eq hF l]

theorem forceS1_eq {F : SV → (SV → Prop) → Prop} (hF : ∀ c K, F c K = K c) (c : SV) (K : SV → Prop) : forceS1 F c K = K c := by
  cases c <;> simp only [forceS1, forceL_eq hF]

theorem forceS_eq (c : SV) (K : SV → Prop) : forceS c K = K c := forceS1_eq (forceS1_eq (forceS1_eq (forceS1_eq fun _ _ => rfl))) c K

theorem forceBlk_eq (b : Blk) (K : Blk → Prop) : forceBlk b K = K b := by
  obtain ⟨ty, wr, d⟩ := b
  cases d <;> simp only [forceBlk, forceL_eq forceS_eq]

theorem forceB_eq : ∀ (l : List (Nat × Blk)) (K : List (Nat × Blk) → Prop), forceB l K = K l
  | [], K => rfl
  | (k, b) :: l, K => by
    show forceBlk b (fun b' => forceB l fun r' => K ((k, b') :: r')) = _
    rw [forceBlk_eq, forceB_eq l]

theorem forceN_eq : ∀ (l : List Nat) (K : List Nat → Prop), forceN l K = K l
  | [], K => rfl
  | x :: l, K => by
    show forceN l (fun r' => K (x :: r')) = _
    rw [forceN_eq l]

theorem forceF_eq : ∀ (l : List (Nat × SV)) (K : List (Nat × SV) → Prop), forceF l K = K l
  | [], K => rfl
  | (t, c) :: l, K => by
    show forceF l (fun r' => K ((t, c) :: r')) = _
    rw [forceF_eq l]

theorem forceO_eq (d : Option Nat) (K : Option Nat → Prop) : forceO d K = K d := by cases d <;> rfl
theorem layFK_eq (dst : Option Nat) (c : SV) (fr : List (Nat × SV)) (K : List (Nat × SV) → Prop) : layFK dst c fr K = K (layF dst c fr) := by cases dst <;> rfl

theorem setBK_eq : ∀ (hp : List (Nat × Blk)) (k : Nat) (b : Blk) (K : List (Nat × Blk) → Prop), setBK hp k b K = K (setB hp k b)
  | [], k, b, K => rfl
  | (j, c) :: r, k, b, K => by
    show (match Nat.beq j k with
      | true => K ((k, b) :: r)
      | false => setBK r k b fun r' => K ((j, c) :: r')) = _
    simp only [setB, setBK_eq r]
    cases Nat.beq j k <;> rfl

theorem layHK_eq : ∀ (ks hp : List (Nat × Blk)) (K : List (Nat × Blk) → Prop), layHK ks hp K = K (layH ks hp)
  | [], hp, K => rfl
  | (k, b) :: r, hp, K => by
    show layHK r hp (fun hp' => setBK hp' k b K) = _
    rw [layHK_eq r, setBK_eq, layH]

/-- The state behind a step, written out. -/
def stepK (dst : Option Nat) (rt : List Nat) (fr : List (Nat × SV)) (hp : List (Nat × Blk)) (fs : List Foot) (c : SV) (fk new upd : List (Nat × Blk)) (K : List (Nat × SV) → List (Nat × Blk) → List Foot → Prop) : Prop :=
  forceO dst fun dst => forceS c fun c => forceB new fun new => forceB upd fun upd => layFK dst c fr fun fr' => layHK (upd ++ new) hp fun hp' =>
    forceN rt fun rt => forceN (keysOf fk) fun rk => forceN (keysOf (upd ++ new)) fun wk => K fr' hp' (⟨rt, rk, dst, wk⟩ :: fs)

theorem stepK_eq (dst : Option Nat) (rt : List Nat) (fr : List (Nat × SV)) (hp : List (Nat × Blk)) (fs : List Foot) (c : SV) (fk new upd : List (Nat × Blk)) (K : List (Nat × SV) → List (Nat × Blk) → List Foot → Prop) :
    stepK dst rt fr hp fs c fk new upd K = K (layF dst c fr) (layH (upd ++ new) hp) (⟨rt, keysOf fk, dst, keysOf (upd ++ new)⟩ :: fs) := by
  simp only [stepK, forceO_eq, forceS_eq, forceB_eq, layFK_eq, layHK_eq, forceN_eq]

/-- One step of the lexical run; 'ih' goes on. -/
def lexCons (E : Env) (ops : List Oper) (o : Oper) (_ : List Oper) (ih : List (Nat × SV) → List (Nat × Blk) → List Foot → (List (Nat × SV) → List (Nat × Blk) → List Foot → Prop) → Prop)
    (fr : List (Nat × SV)) (hp : List (Nat × Blk)) (fs : List Foot) (K : List (Nat × SV) → List (Nat × Blk) → List Foot → Prop) : Prop :=
    match dstOK E.n o.dst with
    | false => False
    | true =>
      match o.guard with
      | none => forceF (pick fr (looks o)) fun p => exec E.P E.T p hp o fun c fk new upd => stepK o.dst (looks o) fr hp fs c fk new upd fun fr' hp' fs' => ih fr' hp' fs' K
      | some (j, want) =>
        match (ops[j]?).bind (·.dst) with
        | none => False
        | some d => match lk fr d with
          | some (.val (.bool b)) =>
            (b = want → forceF (pick fr (looks o)) fun p => exec E.P E.T p hp o fun c fk new upd => stepK o.dst (d :: looks o) fr hp fs c fk new upd fun fr' hp' fs' => ih fr' hp' fs' K) ∧
            (b = !want → stepK o.dst [d] fr hp fs (.tup []) [] [] [] fun fr' hp' fs' => ih fr' hp' fs' K)
          | some (.tup []) => stepK o.dst [d] fr hp fs (.tup []) [] [] [] fun fr' hp' fs' => ih fr' hp' fs' K
          | _ => False

def lexNil (fr : List (Nat × SV)) (hp : List (Nat × Blk)) (fs : List Foot) (K : List (Nat × SV) → List (Nat × Blk) → List Foot → Prop) : Prop := K fr hp fs

/-- The lexical run: 'K' takes the state behind it and what each step touched. By the recursor itself: so the kernel and the elaborator write one text. -/
def lex (E : Env) (ops : List Oper) (l : List Oper) : List (Nat × SV) → List (Nat × Blk) → List Foot → (List (Nat × SV) → List (Nat × Blk) → List Foot → Prop) → Prop :=
  List.rec (motive := fun _ => List (Nat × SV) → List (Nat × Blk) → List Foot → (List (Nat × SV) → List (Nat × Blk) → List Foot → Prop) → Prop) lexNil (lexCons E ops) l

theorem lex_nil (E : Env) (ops : List Oper) (fr : List (Nat × SV)) (hp : List (Nat × Blk)) (fs : List Foot) (K : List (Nat × SV) → List (Nat × Blk) → List Foot → Prop) : lex E ops [] fr hp fs K = K fr hp fs := rfl
theorem lex_cons (E : Env) (ops : List Oper) (o : Oper) (r : List Oper) (fr : List (Nat × SV)) (hp : List (Nat × Blk)) (fs : List Foot) (K : List (Nat × SV) → List (Nat × Blk) → List Foot → Prop) :
    lex E ops (o :: r) fr hp fs K = lexCons E ops o r (lex E ops r) fr hp fs K := rfl

theorem RR_lay_undef {E : Env} {s : Loc → LV} {a : Act} {w : World} {dst : Option Nat} (h : RR E s a w) (hd : dstOK E.n dst = true) : RR E (lay dst (.tup []) [] s) (a.put dst undef) w := by
  obtain ⟨ρ, hle, hfx, h⟩ := h
  have hk : ∀ k, lay dst (.tup []) [] s (.k k) = s (.k k) := fun k => by simp [lay, find]
  refine ⟨ρ, hle, fun k hf => by rw [hk]; exact hfx k hf, ?_⟩
  refine { defers := ?_, size := ?_, fr := ?_, pres := h.pres, hp := ?_ }
  · cases dst <;> simp [Act.put, h.defers]
  · cases dst <;> simp [Act.put, h.size]
  · intro t sv ht
    simp only [lay] at ht
    by_cases hdt : dst = some t
    · rw [if_pos hdt] at ht
      cases ht
      have : (a.put dst undef).tmps.getD t undef = undef := by
        subst hdt
        simp only [dstOK] at hd
        have hlt : t < E.n := by simpa [Nat.blt_eq] using hd
        simp [Act.put, h.size, hlt]
      rw [this]
      simp only [Has]
      exact ⟨[], by simp [HasZ], by simp [undef]⟩
    · rw [if_neg hdt] at ht
      have : (a.put dst undef).tmps.getD t undef = a.tmps.getD t undef := by
        cases hd' : dst with
        | none => rfl
        | some d =>
          have hne : d ≠ t := fun he => hdt (by rw [hd', he])
          simp [Act.put, Array.getElem?_setIfInBounds_ne hne]
      rw [this]; exact h.fr t sv ht
  · exact {
      blk := fun k b hb => h.hp.blk k b (by rwa [hk] at hb)
      sep := fun k k' x x' b b' h1 h2 h3 h4 hb hb' => h.hp.sep k k' x x' b b' h1 h2 h3 h4 (by rwa [hk] at hb) (by rwa [hk] at hb')
      own := fun k b x hb => h.hp.own k b x (by rwa [hk] at hb)
      dom := fun k x hx => by rw [hk]; exact h.hp.dom k x hx
      imm := h.hp.imm
      immw := fun k b x hb => h.hp.immw k b x (by rwa [hk] at hb) }

theorem lay_nil_layH (hp : List (Nat × Blk)) : layH [] hp = hp := rfl

/-- A step that is carried out. -/
theorem step_do {E : Env} {ops : Array Oper} {o : Oper} {fr : List (Nat × SV)} {hp : List (Nat × Blk)} {c : SV} {fk new upd : List (Nat × Blk)} {rt : List Nat}
    (hd : dstOK E.n o.dst = true) (hop : OpOK E.P o (pick fr (looks o)) fk c new upd) (hfk : ∀ j b, (j, b) ∈ fk → find hp j = some b) (hnew : ∀ j b, (j, b) ∈ new → find hp j = none)
    (hupd : ∀ j b, (j, b) ∈ upd → ∃ b0, (j, b0) ∈ fk ∧ b0.wr = true ∧ b0.data.live = true ∧ b.wr = true) (hrt : ∀ t, t ∈ looks o → t ∈ rt)
    (hw : ∀ s, (∀ t, t ∈ rt → s (.t t) = fn fr hp (.t t)) → ∀ a w, RR E s a w → Region.wanted o (yielded ops a.tmps) = true) :
    StepOK E ops o fr hp ⟨rt, keysOf fk, o.dst, keysOf (upd ++ new)⟩ c (upd ++ new) := by
  refine ⟨rfl, fun k => keysOf_mem, fun s ht hk a w hR => ?_⟩
  rw [if_pos (hw s ht a w hR)]
  obtain ⟨ρ, hle, hfx, hR⟩ := hR
  have hk' : ∀ k, (∃ b, (k, b) ∈ fk) ∨ (∃ b, (k, b) ∈ upd ++ new) → (s (.k k)).blk = find hp k := by
    intro k h
    rw [hk k (h.imp keysOf_mem.2 keysOf_mem.2)]
    rfl
  -- the keys of the new map lie where the old did
  have hlt : ∀ d, o.dst = some d → d < E.n := fun d h => by rw [h] at hd; simpa [dstOK, Nat.blt_eq] using hd
  refine Oper.wp_mono ?_ (lay_R_le hop hR (fun t sv h => by rw [ht t (hrt t (pick_mem h).2)]; exact (pick_mem h).1) (fun k b h => by rw [hk' k (.inl ⟨b, h⟩)]; exact hfk k b h)
    (fun k b h => by rw [hk' k (.inr ⟨b, List.mem_append.2 (.inr h)⟩)]; exact hnew k b h) hupd hlt)
  rintro a' w' ⟨ρ', h1, h4, h3, h2⟩
  refine ⟨ρ', ⟨hle.le.trans h1, fun b o hb => (h3 b o hb).elim (hle.imm b o) .inr, fun k hf => by rw [h4 k (hfx k hf)]; exact hle.fix k hf⟩, fun k hf => ?_, h2⟩
  simp only [lay]
  cases find (upd ++ new) k with
  | some b => simp [LV.blk]
  | none => exact hfx k hf


/-- A step that is passed over. -/
theorem step_skip' {E : Env} {ops : Array Oper} {o : Oper} {fr : List (Nat × SV)} {hp : List (Nat × Blk)} {rt : List Nat} (hd : dstOK E.n o.dst = true)
    (hw : ∀ s, (∀ t, t ∈ rt → s (.t t) = fn fr hp (.t t)) → ∀ a w, RR E s a w → Region.wanted o (yielded ops a.tmps) = false) :
    StepOK E ops o fr hp ⟨rt, [], o.dst, []⟩ (.tup []) [] := by
  refine ⟨rfl, fun k => by simp, fun s ht _ a w hR => ?_⟩
  rw [hw s ht a w hR]
  simp only [Bool.false_eq_true, if_false]
  exact RR_lay_undef hR hd

structure Rec where
  f : Foot
  o : Oper
  c : SV
  ks : List (Nat × Blk)
  fr : List (Nat × SV)
  hp : List (Nat × Blk)

def Runs (E : Env) (ops : Array Oper) : List Oper → List (Nat × SV) → List (Nat × Blk) → List Rec → List (Nat × SV) → List (Nat × Blk) → Prop
  | [], fr, hp, recs, fr', hp' => recs = [] ∧ fr' = fr ∧ hp' = hp
  | o :: l, fr, hp, recs, fr', hp' => ∃ rc rest, recs = rc :: rest ∧ rc.o = o ∧ rc.fr = fr ∧ rc.hp = hp ∧ StepOK E ops o fr hp rc.f rc.c rc.ks ∧ Runs E ops l (layF o.dst rc.c fr) (layH rc.ks hp) rest fr' hp'

theorem yielded_of {ops : Array Oper} {a : Act} {j d : Nat} (h : (ops[j]?).bind (·.dst) = some d) {b : Bool} (hv : a.tmps.getD d undef = .bool b) : yielded ops a.tmps j = some b := by
  unfold yielded
  rw [h]
  have : a.tmps[d]? = some (.bool b) := by
    rw [Array.getD_eq_getD_getElem?] at hv
    cases hx : a.tmps[d]? with
    | none => rw [hx] at hv; simp [undef] at hv
    | some v => rw [hx] at hv; simp at hv; rw [hv]
  simp [this]

theorem yielded_undef {ops : Array Oper} {a : Act} {j d : Nat} (h : (ops[j]?).bind (·.dst) = some d) (hv : a.tmps.getD d undef = undef) : yielded ops a.tmps j = none := by
  unfold yielded
  rw [h]
  rw [Array.getD_eq_getD_getElem?] at hv
  cases hx : a.tmps[d]? with
  | none => simp [hx]
  | some v => rw [hx] at hv; simp [undef] at hv; simp [hx, hv]

theorem lex_runs {E : Env} (hT : TabOK E.P E.T) {ops : List Oper} {K : List (Nat × SV) → List (Nat × Blk) → List Foot → Prop} : ∀ (l : List Oper) (fr : List (Nat × SV)) (hp : List (Nat × Blk)) (fs : List Foot), lex E ops l fr hp fs K →
    ∃ recs fr' hp', Runs E ops.toArray l fr hp recs fr' hp' ∧ K fr' hp' ((recs.map (·.f)).reverse ++ fs)
  | [], fr, hp, fs, h => ⟨[], fr, hp, ⟨rfl, rfl, rfl⟩, by simpa [lex_nil] using h⟩
  | o :: l, fr, hp, fs, h => by
    rw [lex_cons] at h
    unfold lexCons at h
    simp only [stepK_eq, forceF_eq] at h
    split at h
    · exact h.elim
    · rename_i hd
      have goOn : ∀ (f : Foot) (c : SV) (ks : List (Nat × Blk)), StepOK E ops.toArray o fr hp f c ks → lex E ops l (layF o.dst c fr) (layH ks hp) (f :: fs) K →
          ∃ recs fr' hp', Runs E ops.toArray (o :: l) fr hp recs fr' hp' ∧ K fr' hp' ((recs.map (·.f)).reverse ++ fs) := by
        intro f c ks hs hl
        obtain ⟨recs, fr', hp', h1, h2⟩ := lex_runs hT l _ _ _ hl
        exact ⟨⟨f, o, c, ks, fr, hp⟩ :: recs, fr', hp', ⟨_, _, rfl, rfl, rfl, rfl, hs, h1⟩, by simpa using h2⟩
      split at h
      · rename_i hg
        obtain ⟨c, fk, new, upd, h1, h2, h3, h4, h5⟩ := exec_good hT h
        exact goOn _ _ _ (step_do hd h1 h2 h3 h4 (fun t ht => ht) (fun s _ a w _ => by simp [Region.wanted, hg])) h5
      · rename_i j want hg
        split at h
        · exact h.elim
        · rename_i d hj
          have hj' : ((ops.toArray)[j]?).bind (·.dst) = some d := by simpa using hj
          have hval : ∀ (sv : SV) (rt : List Nat), lk fr d = some sv → d ∈ rt → ∀ s, (∀ t, t ∈ rt → s (.t t) = fn fr hp (.t t)) → ∀ a w, RR E s a w → ∃ ρ, Has ρ sv (a.tmps.getD d undef) := by
            intro sv rt hlk hd' s hs a w hR
            obtain ⟨ρ, _, _, hR⟩ := hR
            exact ⟨ρ, hR.fr d sv (by rw [hs d hd']; simp [fn, hlk, LV.sv])⟩
          split at h
          · rename_i b hlk
            rcases (show b = want ∨ b = !want by cases b <;> cases want <;> simp) with hb | hb
            · obtain ⟨c, fk, new, upd, h1, h2, h3, h4, h5⟩ := exec_good hT (h.1 hb)
              refine goOn _ _ _ (step_do (rt := d :: looks o) hd h1 h2 h3 h4 (fun t ht => List.mem_cons_of_mem _ ht) (fun s hs a w hR => ?_)) h5
              obtain ⟨ρ, hv⟩ := hval _ _ hlk (List.mem_cons_self ..) s hs a w hR
              have := yielded_of hj' (of_has_val hv)
              simp [Region.wanted, hg, this, hb]
            · refine goOn _ _ _ (step_skip' (rt := [d]) hd (fun s hs a w hR => ?_)) (h.2 hb)
              obtain ⟨ρ, hv⟩ := hval _ _ hlk (List.mem_cons_self ..) s hs a w hR
              have := yielded_of hj' (of_has_val hv)
              simp [Region.wanted, hg, this, hb]
          · rename_i hlk
            refine goOn _ _ _ (step_skip' (rt := [d]) hd (fun s hs a w hR => ?_)) h
            obtain ⟨ρ, hv⟩ := hval _ _ hlk (List.mem_cons_self ..) s hs a w hR
            simp only [Has, HasZ] at hv
            obtain ⟨z, rfl, hv⟩ := hv
            have := yielded_undef hj' (by rw [hv]; rfl)
            simp [Region.wanted, hg, this]
          · exact h.elim

theorem Oper.wp_any {P : Program} {o : Oper} {a : Act} {w : World} {K : Act → World → Prop} {Q : Exit → Act → World → Prop} (h : o.wp P a w K (fun _ _ _ => False)) : o.wp P a w K Q := by
  unfold Oper.wp at *
  generalize (execOp a.eval o).run P w = r at *
  cases r with
  | ok n w' =>
    cases n <;> simp only [Oper.upon] at h ⊢ <;> try exact h
    refine h.mono fun e w'' he => ?_
    cases e <;> first | exact he | exact he.elim | (obtain ⟨_, _, hf⟩ := he; exact hf.elim)
  | halt x w' => cases x <;> simp only [Oper.upon] at h <;> exact h.elim

/-- A region in the order of its text. -/
theorem runs_list {E : Env} {ops : Array Oper} {Q : Exit → Act → World → Prop} : ∀ (l : List Oper) (fr : List (Nat × SV)) (hp : List (Nat × Blk)) (recs : List Rec) (fr' : List (Nat × SV)) (hp' : List (Nat × Blk)), Runs E ops l fr hp recs fr' hp' →
    (∀ a w, RR E (fn fr' hp') a w → Q .normal a w) → ∀ a w, RR E (fn fr hp) a w → wpList E.P ops Q l a w
  | [], fr, hp, recs, fr', hp', h, hQ, a, w, hR => by
    obtain ⟨_, rfl, rfl⟩ := h
    exact hQ a w hR
  | o :: l, fr, hp, recs, fr', hp', h, hQ, a, w, hR => by
    obtain ⟨rc, rest, rfl, _, _, _, ⟨_, _, hs⟩, h2⟩ := h
    have ih := runs_list l _ _ _ _ _ h2 hQ
    have := hs (fn fr hp) (fun _ _ => rfl) (fun _ _ => rfl) a w hR
    unfold wpList
    split
    · rename_i hw
      rw [if_pos hw] at this
      refine .inl (Oper.wp_mono ?_ (Oper.wp_any this))
      intro a' w' hR'
      rw [fn_lay] at hR'
      exact ih a' w' hR'
    · rename_i hw
      rw [if_neg hw, fn_lay] at this
      exact ih _ _ this

/-! ### Any order -/

def maskOf (acc : List Nat) : List Edge → Nat
  | [] => 0
  | e :: r => match Region.binds .any e with
    | true => 2 ^ e.on ||| (acc.getD e.on 0 ||| maskOf acc r)
    | false => maskOf acc r

def masks : List Oper → List Nat → List Nat
  | [], acc => acc
  | o :: r, acc => masks r (acc ++ [maskOf acc o.after.toList])

def edgesOK (i : Nat) : List Edge → Bool
  | [] => true
  | e :: r => match Region.binds .any e with
    | true => Nat.blt e.on i && edgesOK i r
    | false => edgesOK i r

def allEdges : Nat → List Oper → Bool
  | _, [] => true
  | i, o :: r => edgesOK i o.after.toList && allEdges (i + 1) r

def memN (x : Nat) : List Nat → Bool
  | [] => false
  | y :: r => Nat.beq x y || memN x r

def meets : List Nat → List Nat → Bool
  | [], _ => false
  | x :: r, l => memN x l || meets r l

def wtL : Option Nat → List Nat
  | none => []
  | some d => [d]

/-- Two steps touch one place, and one writes it. -/
def confF (f g : Foot) : Bool :=
  meets (wtL f.wt) g.rt || (meets (wtL f.wt) (wtL g.wt) || (meets (wtL g.wt) f.rt || (meets f.wk g.rk || (meets f.wk g.wk || meets g.wk f.rk))))

/-- Every step that a step is in conflict with is one that it waits for. -/
def rowOK (f : Foot) (m : Nat) : Nat → List Foot → Bool
  | _, [] => true
  | i, g :: r => (!confF g f || Nat.testBit m i) && rowOK f m (i + 1) r

def rowsOK (ms : List Nat) (done : List Foot) : Nat → List Foot → Bool
  | _, [] => true
  | j, f :: r => rowOK f (ms.getD j 0) 0 done && rowsOK ms (done ++ [f]) (j + 1) r

def indep (ops : List Oper) (fs : List Foot) : Bool := allEdges 0 ops && rowsOK (masks ops []) [] 0 fs

theorem memN_iff {x : Nat} : ∀ {l : List Nat}, memN x l = true ↔ x ∈ l
  | [] => by simp [memN]
  | y :: r => by
    simp only [memN, Bool.or_eq_true, List.mem_cons, memN_iff, Nat.beq_eq]

theorem meets_iff : ∀ {l r : List Nat}, meets l r = true ↔ ∃ x, x ∈ l ∧ x ∈ r
  | [], r => by simp [meets]
  | y :: l, r => by
    simp only [meets, Bool.or_eq_true, memN_iff, meets_iff, List.mem_cons]
    constructor
    · rintro (h | ⟨x, h1, h2⟩)
      · exact ⟨y, .inl rfl, h⟩
      · exact ⟨x, .inr h1, h2⟩
    · rintro ⟨x, rfl | h1, h2⟩
      · exact .inl h2
      · exact .inr ⟨x, h1, h2⟩

theorem maskOf_waits {ops : Array Oper} {o : Oper} {j : Nat} (ho : ops[j]? = some o) {acc : List Nat} (hacc : ∀ k m i, acc[k]? = some m → Nat.testBit m i = true → Waits ops k i) :
    ∀ (es : List Edge), (∀ e ∈ es, e ∈ o.after) → ∀ i, Nat.testBit (maskOf acc es) i = true → Waits ops j i
  | [], _, i, h => by simp [maskOf] at h
  | e :: r, hes, i, h => by
    have ih := maskOf_waits ho hacc r (fun x hx => hes x (List.mem_cons_of_mem _ hx)) i
    unfold maskOf at h
    split at h
    · rename_i hb
      rw [Nat.testBit_or, Nat.testBit_or, Nat.testBit_two_pow] at h
      have he := hes e (List.mem_cons_self ..)
      simp only [Bool.or_eq_true, decide_eq_true_eq] at h
      rcases h with h | h | h
      · rw [← h]; exact .one ho he hb
      · cases hg : acc[e.on]? with
        | none => simp [hg] at h
        | some m =>
          have : acc.getD e.on 0 = m := by simp [hg]
          rw [this] at h
          exact .trans (.one ho he hb) (hacc _ _ _ hg h)
      · exact ih h
    · exact ih h

theorem masks_waits {ops : Array Oper} : ∀ (l : List Oper) (acc : List Nat), (∀ j, l[j]? = ops[acc.length + j]?) → (∀ k m i, acc[k]? = some m → Nat.testBit m i = true → Waits ops k i) →
    ∀ k m i, (masks l acc)[k]? = some m → Nat.testBit m i = true → Waits ops k i
  | [], acc, _, h => by simpa [masks] using h
  | o :: r, acc, hl, h => by
    have h0 : ops[acc.length]? = some o := by have := hl 0; simpa using this.symm
    refine masks_waits r (acc ++ [maskOf acc o.after.toList]) (fun j => ?_) (fun k m i hk hb => ?_)
    · have := hl (j + 1)
      simpa [Nat.add_assoc, Nat.add_comm 1 j] using this
    · rcases Nat.lt_trichotomy k acc.length with hlt | rfl | hgt
      · rw [List.getElem?_append_left hlt] at hk
        exact h k m i hk hb
      · simp at hk
        subst hk
        exact maskOf_waits h0 h _ (fun e he => by simpa using he) i hb
      · rw [List.getElem?_eq_none (by simp; omega)] at hk
        cases hk

theorem edgesOK_spec {i : Nat} : ∀ {es : List Edge}, edgesOK i es = true → ∀ e ∈ es, Region.binds .any e = true → e.on < i
  | e :: r, h, x, hx, hb => by
    unfold edgesOK at h
    rcases List.mem_cons.1 hx with rfl | hx
    · rw [hb] at h
      simp only [Bool.and_eq_true, Nat.blt_eq] at h
      exact h.1
    · split at h
      · simp only [Bool.and_eq_true] at h
        exact edgesOK_spec h.2 x hx hb
      · exact edgesOK_spec h x hx hb

theorem allEdges_spec (l : List Oper) : ∀ i : Nat, allEdges i l = true → ∀ j o, l[j]? = some o → ∀ e ∈ o.after, Region.binds .any e = true → e.on < i + j := by
  induction l with
  | nil => intro i _ j o ho; simp at ho
  | cons o r ih =>
    intro i h j o' ho e he hb
    simp only [allEdges, Bool.and_eq_true] at h
    cases j with
    | zero =>
      simp only [List.getElem?_cons_zero, Option.some.injEq] at ho
      rw [← ho] at he
      exact edgesOK_spec h.1 e (by simpa using he) hb
    | succ j =>
      have := ih (i + 1) h.2 j o' (by simpa using ho) e he hb
      omega

theorem rowOK_spec {f : Foot} {m : Nat} : ∀ {l : List Foot} {i : Nat}, rowOK f m i l = true → ∀ j g, l[j]? = some g → confF g f = true → Nat.testBit m (i + j) = true
  | g :: r, i, h, 0, g', hg, hc => by
    simp only [rowOK, Bool.and_eq_true] at h
    simp at hg
    subst hg
    simpa [hc] using h.1
  | g :: r, i, h, j + 1, g', hg, hc => by
    simp only [rowOK, Bool.and_eq_true] at h
    have := rowOK_spec h.2 j g' (by simpa using hg) hc
    rw [show i + (j + 1) = i + 1 + j from by omega]
    exact this

theorem rowsOK_spec {ms : List Nat} : ∀ {l done : List Foot} {j0 : Nat}, done.length = j0 → rowsOK ms done j0 l = true → ∀ i j f g, i < j → j0 ≤ j → (done ++ l)[i]? = some f → (done ++ l)[j]? = some g → confF f g = true → Nat.testBit (ms.getD j 0) i = true
  | [], done, j0, hd, _, i, j, f, g, _, hj, _, hg, _ => by
    rw [List.append_nil, List.getElem?_eq_none (by omega)] at hg
    cases hg
  | x :: l, done, j0, hd, h, i, j, f, g, hij, hj, hf, hg, hc => by
    simp only [rowsOK, Bool.and_eq_true] at h
    rcases Nat.eq_or_lt_of_le hj with rfl | hlt
    · rw [List.getElem?_append_right (by omega)] at hg
      simp [hd] at hg
      subst hg
      rw [List.getElem?_append_left (by omega)] at hf
      have := rowOK_spec h.1 i f hf hc
      simpa using this
    · exact rowsOK_spec (l := l) (done := done ++ [x]) (j0 := j0 + 1) (by simp [hd]) h.2 i j f g hij (by omega) (by simpa using hf) (by simpa using hg) hc

def recStep (rc : Rec) : StepA Loc LV where
  rd := fun
    | .t t => decide (t ∈ rc.f.rt)
    | .k k => decide (k ∈ rc.f.rk)
  wr := fun
    | .t t => decide (rc.o.dst = some t)
    | .k k => (find rc.ks k).isSome
  val := fun
    | .t _ => .t (some rc.c)
    | .k k => .k (find rc.ks k)

theorem recStep_ap (rc : Rec) (s : Loc → LV) : (recStep rc).ap s = lay rc.o.dst rc.c rc.ks s := by
  funext l
  cases l with
  | t n => simp only [StepA.ap, recStep, lay]; by_cases h : rc.o.dst = some n <;> simp [h]
  | k n =>
    have key : ∀ (x : Option Blk) (y : LV), (if x.isSome = true then LV.k x else y) = match x with
        | some b => LV.k (some b)
        | none => y := fun x y => by cases x <;> rfl
    exact key (find rc.ks n) (s (.k n))

def recSteps (recs : List Rec) (j : Nat) : StepA Loc LV :=
  match recs[j]? with
  | some r => recStep r
  | none => ⟨fun _ => false, fun _ => false, fun _ => .t none⟩

theorem recSteps_get {recs : List Rec} {j : Nat} {r : Rec} (h : recs[j]? = some r) : recSteps recs j = recStep r := by simp [recSteps, h]

theorem sx_succ {L V : Type} (steps : Nat → StepA L V) (s0 : L → V) (n : Nat) : sx steps s0 (fun _ => true) (n + 1) = (steps n).ap (sx steps s0 (fun _ => true) n) := by simp [sx]

theorem runs_get {E : Env} {ops : Array Oper} : ∀ {l : List Oper} {fr : List (Nat × SV)} {hp : List (Nat × Blk)} {recs : List Rec} {fr' : List (Nat × SV)} {hp' : List (Nat × Blk)}, Runs E ops l fr hp recs fr' hp' →
    recs.length = l.length ∧ (∀ i rc, recs[i]? = some rc → l[i]? = some rc.o ∧ StepOK E ops rc.o rc.fr rc.hp rc.f rc.c rc.ks ∧ fn rc.fr rc.hp = sx (recSteps recs) (fn fr hp) (fun _ => true) i) ∧
    fn fr' hp' = sx (recSteps recs) (fn fr hp) (fun _ => true) l.length
  | [], fr, hp, recs, fr', hp', h => by
    obtain ⟨rfl, rfl, rfl⟩ := h
    exact ⟨rfl, fun i rc h => by simp at h, rfl⟩
  | o :: l, fr, hp, recs, fr', hp', h => by
    obtain ⟨rc, rest, rfl, rfl, rfl, rfl, hs, h2⟩ := h
    obtain ⟨g1, g2, g3⟩ := runs_get h2
    have shift : ∀ n, sx (recSteps (rc :: rest)) (fn rc.fr rc.hp) (fun _ => true) (n + 1) =
        sx (recSteps rest) (fn (layF rc.o.dst rc.c rc.fr) (layH rc.ks rc.hp)) (fun _ => true) n := by
      intro n
      induction n with
      | zero => rw [sx_succ, recSteps_get (r := rc) (by simp), recStep_ap]; exact fn_lay ..
      | succ n ih => rw [sx_succ, ih, sx_succ]; simp [recSteps]
    refine ⟨by simp [g1], fun i rc' hi => ?_, ?_⟩
    · cases i with
      | zero => simp at hi; subst hi; exact ⟨by simp, hs, rfl⟩
      | succ i =>
        obtain ⟨e1, e2, e3⟩ := g2 i rc' (by simpa using hi)
        exact ⟨by simpa using e1, e2, by rw [shift]; exact e3⟩
    · rw [List.length_cons, shift]; exact g3

/-- A REGION IN WHATEVER ORDER. -/
theorem runs_any {E : Env} (hm : E.P.follows .mixedOrders = true) {l : List Oper} {Q : Exit → Act → World → Prop} {fr : List (Nat × SV)} {hp : List (Nat × Blk)} {recs : List Rec} {fr' : List (Nat × SV)} {hp' : List (Nat × Blk)}
    (h : Runs E l.toArray l fr hp recs fr' hp') (hi : indep l (recs.map (·.f)) = true) (hQ : ∀ a w, RR E (fn fr' hp') a w → Q .normal a w) (id : Nat) (a : Act) (w : World) (hR : RR E (fn fr hp) a w) :
    (Code.region id l.toArray true).wp E.P Q a w := by
  obtain ⟨g1, g2, g3⟩ := runs_get h
  simp only [indep, Bool.and_eq_true] at hi
  have hget : ∀ i, i < l.length → ∃ rc, recs[i]? = some rc := fun i hi => ⟨recs[i], by simp [g1, hi]⟩
  refine any_order (Rel := RR E) (steps := recSteps recs) (s0 := fn fr hp) hm ?_ ?_ ?_ ?_ a w ?_
  · intro i hi s' hs' a w hR
    obtain ⟨rc, hrc⟩ := hget i (by simpa using hi)
    obtain ⟨e1, ⟨e2, e3, e4⟩, e5⟩ := g2 i rc hrc
    rw [recSteps_get hrc] at hs' ⊢
    rw [← e5] at hs'
    have := e4 s' (fun t ht => hs' _ (.inl (by simpa [recStep] using ht))) (fun k hk => hs' _ (by
      rcases hk with hk | hk
      · exact .inl (by simpa [recStep] using hk)
      · right
        obtain ⟨b, hb⟩ := (e3 k).1 hk
        simp only [recStep]
        cases hf : find rc.ks k with
        | some b' => rfl
        | none => exact absurd hb (find_none hf b))) a w hR
    unfold wpOp
    have ho : l.toArray[i]? = some rc.o := by simpa using e1
    rw [ho]
    simp only [recStep_ap]
    split
    · rename_i hw
      rw [if_pos hw] at this
      exact .inl (Oper.wp_any this)
    · rename_i hw
      rw [if_neg hw] at this
      exact this
  · intro i j hij hj hc
    have hj' : j < l.length := by simpa using hj
    obtain ⟨ri, hri⟩ := hget i (by omega)
    obtain ⟨rj, hrj⟩ := hget j hj'
    obtain ⟨_, ⟨i2, i3, _⟩, _⟩ := g2 i ri hri
    obtain ⟨_, ⟨j2, j3, _⟩, _⟩ := g2 j rj hrj
    rw [recSteps_get hri, recSteps_get hrj] at hc
    have wki : ∀ k, (find ri.ks k).isSome = true → k ∈ ri.f.wk := fun k hk => by
      cases hf : find ri.ks k with
      | none => rw [hf] at hk; cases hk
      | some b => exact (i3 k).2 ⟨b, find_mem hf⟩
    have wkj : ∀ k, (find rj.ks k).isSome = true → k ∈ rj.f.wk := fun k hk => by
      cases hf : find rj.ks k with
      | none => rw [hf] at hk; cases hk
      | some b => exact (j3 k).2 ⟨b, find_mem hf⟩
    have hconf : confF ri.f rj.f = true := by
      obtain ⟨loc, hc⟩ := hc
      simp only [confF, Bool.or_eq_true, meets_iff]
      cases loc with
      | t n =>
        simp only [recStep, decide_eq_true_eq] at hc
        rcases hc with ⟨h1, h2 | h2⟩ | ⟨h1, h2⟩
        · exact .inl ⟨n, by rw [i2, h1]; simp [wtL], h2⟩
        · exact .inr (.inl ⟨n, by rw [i2, h1]; simp [wtL], by rw [j2, h2]; simp [wtL]⟩)
        · exact .inr (.inr (.inl ⟨n, by rw [j2, h2]; simp [wtL], h1⟩))
      | k n =>
        simp only [recStep, decide_eq_true_eq] at hc
        rcases hc with ⟨h1, h2 | h2⟩ | ⟨h1, h2⟩
        · exact .inr (.inr (.inr (.inl ⟨n, wki n h1, h2⟩)))
        · exact .inr (.inr (.inr (.inr (.inl ⟨n, wki n h1, wkj n h2⟩))))
        · exact .inr (.inr (.inr (.inr (.inr ⟨n, wkj n h2, h1⟩))))
    have hbit := rowsOK_spec (l := recs.map (·.f)) (done := []) (j0 := 0) rfl hi.2 i j ri.f rj.f hij (Nat.zero_le _) (by simp [hri]) (by simp [hrj]) hconf
    cases hmj : (masks l [])[j]? with
    | none => simp [hmj] at hbit
    | some m =>
      have : (masks l []).getD j 0 = m := by simp [hmj]
      rw [this] at hbit
      exact masks_waits l [] (by simp) (by simp) j m i hmj hbit
  · intro i o ho e he hb
    have := allEdges_spec l 0 hi.1 i o (by simpa using ho) e he hb
    omega
  · intro a w hR
    rw [List.size_toArray, ← g3] at hR
    exact hQ a w hR
  · obtain ⟨ρ, h1, h3, h2⟩ := hR
    exact ⟨ρ, h1, h3, { h2 with pres := ⟨h2.pres.os, h2.pres.tape, h2.pres.output, h2.pres.size, h2.pres.block⟩, hp := ⟨h2.hp.blk, h2.hp.sep, h2.hp.own, h2.hp.dom, h2.hp.imm, h2.hp.immw⟩ }⟩

end Go.Sx
