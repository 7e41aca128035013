/- Code, loops, functions. -/
import Derived.Test.YtghdcjhlhcoijaaDoorSxH
import Derived.Scope
namespace Go.Sx

abbrev Post' := Exit → List (Nat × SV) → List (Nat × Blk) → Prop

def liftQ (E : Env) (K : Post') : Exit → Act → World → Prop := fun e a w => ∃ fr hp, K e fr hp ∧ RR E (fn fr hp) a w

/-- From every machine state that fits, the code goes through, and 'K' holds of a symbolic state that fits at its end. -/
def SW (E : Env) (c : Code) (K : Post') (fr : List (Nat × SV)) (hp : List (Nat × Blk)) : Prop :=
  ∀ a w, RR E (fn fr hp) a w → c.wp E.P (liftQ E K) a w

theorem SW.mono {E : Env} {c : Code} {K K' : Post'} {fr : List (Nat × SV)} {hp : List (Nat × Blk)} (h : SW E c K fr hp) (hk : ∀ e fr hp, K e fr hp → K' e fr hp) : SW E c K' fr hp :=
  fun a w hR => Code.wp_mono (fun _ _ _ ⟨fr, hp, h1, h2⟩ => ⟨fr, hp, hk _ _ _ h1, h2⟩) (h a w hR)

/-- The same, closed. -/
structure SWx (E : Env) (c : Code) (K : Post') (fr : List (Nat × SV)) (hp : List (Nat × Blk)) : Prop where
  run : SW E c K fr hp

/-- What the code asks. -/
def cwpS (E : Env) : Code → Post' → List (Nat × SV) → List (Nat × Blk) → Prop
  | .skip, K, fr, hp => K .normal fr hp
  | .region _ ops draw, K, fr, hp => lex E ops.toList ops.toList fr hp [] fun fr' hp' fs => match draw with
    | true => indep ops.toList fs.reverse = true ∧ K .normal fr' hp'
    | false => K .normal fr' hp'
  | .seq a b, K, fr, hp => cwpS E a (fun e fr' hp' => match e with
    | .normal => cwpS E b K fr' hp'
    | e => K e fr' hp') fr hp
  | .cond c a b, K, fr, hp => match ev fr c with
    | some (.val (.bool t)) => (t = true → cwpS E a K fr hp) ∧ (t = false → cwpS E b K fr hp)
    | _ => False
  | .block id c, K, fr, hp => cwpS E c (fun e fr' hp' => match e with
    | .exit i => match Nat.beq i id with
      | true => K .normal fr' hp'
      | false => K (.exit i) fr' hp'
    | e => K e fr' hp') fr hp
  | .exit id, K, fr, hp => K (.exit id) fr hp
  | .ret, K, fr, hp => K .ret fr hp
  | .scope c, K, fr, hp => cwpS E c (fun e fr' hp' => match e with
    | .goto _ => False
    | e => K e fr' hp') fr hp
  | .label _, K, fr, hp => K .normal fr hp
  | c, K, fr, hp => SWx E c K fr hp

def cwSkip (K : Post') (fr : List (Nat × SV)) (hp : List (Nat × Blk)) : Prop := K .normal fr hp
def cwRegion (E : Env) (_ : Nat) (ops : Array Oper) (draw : Bool) (K : Post') (fr : List (Nat × SV)) (hp : List (Nat × Blk)) : Prop := lex E ops.toList ops.toList fr hp [] fun fr' hp' fs => match draw with
    | true => indep ops.toList fs.reverse = true ∧ K .normal fr' hp'
    | false => K .normal fr' hp'
def cwSeq (_ _ : Code) (iha ihb : Post' → List (Nat × SV) → List (Nat × Blk) → Prop) (K : Post') (fr : List (Nat × SV)) (hp : List (Nat × Blk)) : Prop := iha (fun e fr' hp' => match e with
    | .normal => ihb K fr' hp'
    | e => K e fr' hp') fr hp
def cwCond (c : Operand) (_ _ : Code) (iha ihb : Post' → List (Nat × SV) → List (Nat × Blk) → Prop) (K : Post') (fr : List (Nat × SV)) (hp : List (Nat × Blk)) : Prop := match ev fr c with
    | some (.val (.bool t)) => (t = true → iha K fr hp) ∧ (t = false → ihb K fr hp)
    | _ => False
def cwBlock (id : Nat) (_ : Code) (ih : Post' → List (Nat × SV) → List (Nat × Blk) → Prop) (K : Post') (fr : List (Nat × SV)) (hp : List (Nat × Blk)) : Prop := ih (fun e fr' hp' => match e with
    | .exit i => match Nat.beq i id with
      | true => K .normal fr' hp'
      | false => K (.exit i) fr' hp'
    | e => K e fr' hp') fr hp
def cwLoop (E : Env) (c : Code) (_ : Post' → List (Nat × SV) → List (Nat × Blk) → Prop) (K : Post') (fr : List (Nat × SV)) (hp : List (Nat × Blk)) : Prop := SWx E (.loop c) K fr hp
def cwRange (E : Env) (f : Operand) (ps : Array Tmp) (a b : Code) (_ _ : Post' → List (Nat × SV) → List (Nat × Blk) → Prop) (K : Post') (fr : List (Nat × SV)) (hp : List (Nat × Blk)) : Prop := SWx E (.rangeFunc f ps a b) K fr hp
def cwExit (id : Nat) (K : Post') (fr : List (Nat × SV)) (hp : List (Nat × Blk)) : Prop := K (.exit id) fr hp
def cwScope (_ : Code) (ih : Post' → List (Nat × SV) → List (Nat × Blk) → Prop) (K : Post') (fr : List (Nat × SV)) (hp : List (Nat × Blk)) : Prop := ih (fun e fr' hp' => match e with
    | .goto _ => False
    | e => K e fr' hp') fr hp
def cwLabel (_ : Nat) (K : Post') (fr : List (Nat × SV)) (hp : List (Nat × Blk)) : Prop := K .normal fr hp
def cwGoto (E : Env) (l : Nat) (K : Post') (fr : List (Nat × SV)) (hp : List (Nat × Blk)) : Prop := SWx E (.goto l) K fr hp
def cwRet (K : Post') (fr : List (Nat × SV)) (hp : List (Nat × Blk)) : Prop := K .ret fr hp
def cwRefuse (E : Env) (l : String) (K : Post') (fr : List (Nat × SV)) (hp : List (Nat × Blk)) : Prop := SWx E (.refuse l) K fr hp

/-- What the code asks, written out: by the recursor itself, so that the kernel and the elaborator write one text. -/
def cwp (E : Env) (c : Code) : Post' → List (Nat × SV) → List (Nat × Blk) → Prop :=
  Code.rec (motive := fun _ => Post' → List (Nat × SV) → List (Nat × Blk) → Prop) cwSkip (cwRegion E) cwSeq cwCond cwBlock (cwLoop E) (cwRange E) cwExit cwScope cwLabel (cwGoto E) cwRet (cwRefuse E) c

theorem cwp_eq (E : Env) (c : Code) : cwp E c = cwpS E c := by
  induction c with
  | seq a b iha ihb =>
    funext K fr hp
    show cwSeq a b (cwp E a) (cwp E b) K fr hp = _
    rw [iha, ihb]
    simp only [cwpS, cwSeq]
  | cond c a b iha ihb =>
    funext K fr hp
    show cwCond c a b (cwp E a) (cwp E b) K fr hp = _
    rw [iha, ihb]
    simp only [cwpS, cwCond]
  | block id c ih =>
    funext K fr hp
    show cwBlock id c (cwp E c) K fr hp = _
    rw [ih]
    simp only [cwpS, cwBlock]
  | scope c ih =>
    funext K fr hp
    show cwScope c (cwp E c) K fr hp = _
    rw [ih]
    simp only [cwpS, cwScope]
  | _ => funext K fr hp; simp only [cwpS]; rfl

structure Env.OK (E : Env) : Prop where
  tab : TabOK E.P E.T
  mixed : E.P.follows .mixedOrders = true
  dom : ∀ k x, E.ρ0.key k = some x → k ∈ E.fx

theorem cwpS_sound {E : Env} (hE : E.OK) : ∀ (c : Code) (K : Post') (fr : List (Nat × SV)) (hp : List (Nat × Blk)), cwpS E c K fr hp → SW E c K fr hp
  | .skip, K, fr, hp, h => fun a w hR => wp_skip ⟨fr, hp, h, hR⟩
  | .region id ops draw, K, fr, hp, h => by
    intro a w hR
    simp only [cwpS] at h
    obtain ⟨recs, fr', hp', h1, h2⟩ := lex_runs hE.tab _ _ _ _ h
    have hfin : K .normal fr' hp' → ∀ a w, RR E (fn fr' hp') a w → liftQ E K .normal a w := fun h3 a w hR => ⟨fr', hp', h3, hR⟩
    cases draw with
    | false =>
      have hfin := hfin h2
      have := runs_list _ _ _ _ _ _ h1 hfin a w hR
      exact wp_region_list (by simpa using this)
    | true =>
      have hi := h2.1
      have hfin := hfin h2.2
      simp only [List.append_nil, List.reverse_reverse] at hi
      have := runs_any hE.mixed h1 hi hfin id a w hR
      simpa using this
  | .seq x y, K, fr, hp, h => by
    intro a w hR
    simp only [cwpS] at h
    refine wp_seq (Code.wp_mono ?_ (cwpS_sound hE x _ fr hp h a w hR))
    rintro e a' w' ⟨fr', hp', h1, h2⟩
    cases e <;> first | exact cwpS_sound hE y K fr' hp' h1 a' w' h2 | exact ⟨fr', hp', h1, h2⟩
  | .cond c x y, K, fr, hp, h => by
    intro a w hR
    simp only [cwpS] at h
    split at h
    · rename_i t ht
      have hv : a.eval c = .bool t := by
        obtain ⟨ρ, _, _, hR⟩ := hR
        have : Has ρ (.val (.bool t)) (a.eval c) := by
          cases c with
          | tmp u => exact hR.fr u _ (by simp only [fn, LV.sv]; exact ht)
          | const v => exact ev_ok (fr := []) (by simpa [ev] using ht) ρ a (fun _ _ h => by cases h)
          | func f => simp [ev] at ht
          | global g => simp [ev] at ht
        exact of_has_val this
      refine wp_cond_split hv (fun hb => cwpS_sound hE x K fr hp (h.1 hb) a w hR) (fun hb => cwpS_sound hE y K fr hp (h.2 hb) a w hR)
    · exact h.elim
  | .block id c, K, fr, hp, h => by
    intro a w hR
    simp only [cwpS] at h
    refine wp_block (Code.wp_mono ?_ (cwpS_sound hE c _ fr hp h a w hR))
    rintro e a' w' ⟨fr', hp', h1, h2⟩
    cases e with
    | exit i =>
      simp only [Exit.inBlock]
      simp only at h1
      split at h1
      · rename_i hb
        rw [if_pos (Nat.eq_of_beq_eq_true hb)]
        exact ⟨fr', hp', h1, h2⟩
      · rename_i hb
        rw [if_neg (by rintro rfl; simp [Nat.beq_refl] at hb)]
        exact ⟨fr', hp', h1, h2⟩
    | _ => exact ⟨fr', hp', h1, h2⟩
  | .exit id, K, fr, hp, h => fun a w hR => wp_exit ⟨fr, hp, h, hR⟩
  | .ret, K, fr, hp, h => fun a w hR => wp_ret ⟨fr, hp, h, hR⟩
  | .loop c, K, fr, hp, h => h.run
  | .rangeFunc _ _ _ _, K, fr, hp, h => h.run
  | .scope c, K, fr, hp, h => by
    intro a w hR
    simp only [cwpS] at h
    refine wp_scope_straight (Code.wp_mono ?_ (cwpS_sound hE c _ fr hp h a w hR))
    rintro e a' w' ⟨fr', hp', h1, h2⟩
    cases e <;> first | exact h1.elim | exact ⟨fr', hp', h1, h2⟩
  | .label _, K, fr, hp, h => fun a w hR => wp_label ⟨fr, hp, h, hR⟩
  | .goto _, K, fr, hp, h => h.run
  | .refuse _, K, fr, hp, h => h.run

theorem cwp_sound {E : Env} (hE : E.OK) (c : Code) (K : Post') (fr : List (Nat × SV)) (hp : List (Nat × Blk)) (h : cwp E c K fr hp) : SW E c K fr hp :=
  cwpS_sound hE c K fr hp (by rw [cwp_eq] at h; exact h)

/-- A loop: an invariant over symbolic states, a measure that goes down. -/
theorem SW_loop {E : Env} {c : Code} {K : Post'} {fr : List (Nat × SV)} {hp : List (Nat × Blk)} (I : Nat → List (Nat × SV) → List (Nat × Blk) → Prop) (m : Nat) (h0 : I m fr hp)
    (h : ∀ m fr hp, I m fr hp → SW E c (fun e fr' hp' => match e with
      | .normal => ∃ m', m' < m ∧ I m' fr' hp'
      | e => K e fr' hp') fr hp) : SW E (.loop c) K fr hp := by
  intro a w hR b k cs
  have key : ∀ m fr hp a w, I m fr hp → RR E (fn fr hp) a w →
      ∃ e a' w', liftQ E K e a' w' ∧ Arrives E.P (lone (b.at a (.code c :: .inLoop c :: k)) cs w) b k cs e a' w' := by
    intro m
    induction m using Nat.strongRecOn with
    | _ m ih =>
      intro fr hp a w hI hR
      obtain ⟨e, a₁, w₁, ⟨fr', hp', hq, hR'⟩, harr⟩ := h m fr hp hI a w hR b (.inLoop c :: k) cs
      cases e with
      | normal =>
        obtain ⟨m', hlt, hI'⟩ := hq
        obtain ⟨e₂, a₂, w₂, hq₂, harr₂⟩ := ih m' hlt fr' hp' a₁ w₁ hI' hR'
        exact ⟨e₂, a₂, w₂, hq₂, .of_steps (Steps.trans harr (.one step_inLoop)) harr₂⟩
      | exit id => exact ⟨_, a₁, w₁, ⟨fr', hp', hq, hR'⟩, .pass (x := .inLoop c) rfl (fun _ _ => .inl (by simp)) harr⟩
      | goto l => exact ⟨_, a₁, w₁, ⟨fr', hp', hq, hR'⟩, .pass (x := .inLoop c) rfl (fun _ _ => .inl (by simp)) harr⟩
      | ret => exact ⟨_, a₁, w₁, ⟨fr', hp', hq, hR'⟩, .pass (x := .inLoop c) rfl (fun _ _ => .inl (by simp)) harr⟩
      | panic ch => exact ⟨_, a₁, w₁, ⟨fr', hp', hq, hR'⟩, .pass (x := .inLoop c) rfl (fun _ _ => .inl (by simp)) harr⟩
      | outgrown => exact ⟨_, a₁, w₁, ⟨fr', hp', hq, hR'⟩, .pass (x := .inLoop c) rfl (fun _ _ => .inl (by simp)) harr⟩
  obtain ⟨e, a', w', hq, harr⟩ := key m fr hp a w h0 hR
  exact ⟨e, a', w', hq, .of_steps (.one step_loop) harr⟩

/-! ### Functions -/

mutual
/-- A value that names no key. -/
def keyless : SV → Bool
  | .any | .val _ | .nat _ | .int _ | .frac _ | .atom _ => true
  | .ptr .. | .slc .. => false
  | .agg cs => keylessL cs
  | .tup vs => keylessL vs
  | .clo _ a b => keylessL a && keylessL b
def keylessL : List SV → Bool
  | [] => true
  | c :: l => keyless c && keylessL l
end

mutual
theorem keyless_has {ρ ρ' : Rho} (h : ∀ b o, ρ.imm b = some o → ρ'.imm b = some o) : ∀ (c : SV) (x : List Value), keyless c = true → HasC ρ c x → HasC ρ' c x
  | .any, _, _, hc => by simpa only [HasC] using hc
  | .val _, _, _, hc => by simpa only [HasC] using hc
  | .nat _, _, _, hc => by simpa only [HasC] using hc
  | .int _, _, _, hc => by simpa only [HasC] using hc
  | .frac _, _, _, hc => by simpa only [HasC] using hc
  | .atom p, _, _, hc => by simp only [HasC] at hc ⊢; exact p.mono _ _ _ h hc
  | .ptr .., _, hk, _ => by simp [keyless] at hk
  | .slc .., _, hk, _ => by simp [keyless] at hk
  | .agg cs, _, hk, hc => by
    simp only [HasC] at hc ⊢
    obtain ⟨z, h1, h2⟩ := hc
    exact ⟨z, keylessL_has h cs z (by simpa [keyless] using hk) h1, h2⟩
  | .tup _, _, _, hc => by simp only [HasC] at hc
  | .clo f a b, _, hk, hc => by
    simp only [HasC] at hc ⊢
    simp only [keyless, Bool.and_eq_true] at hk
    obtain ⟨fz, cz, h1, h2, h3⟩ := hc
    exact ⟨fz, cz, keylessL_has h a fz hk.1 h1, keylessL_has h b cz hk.2 h2, h3⟩
theorem keylessL_has {ρ ρ' : Rho} (h : ∀ b o, ρ.imm b = some o → ρ'.imm b = some o) : ∀ (l : List SV) (z : List (List Value)), keylessL l = true → HasZ ρ l z → HasZ ρ' l z
  | [], _, _, hz => by simpa only [HasZ] using hz
  | c :: l, _, hk, hz => by
    simp only [HasZ] at hz ⊢
    simp only [keylessL, Bool.and_eq_true] at hk
    obtain ⟨x, r, h1, h2, h3⟩ := hz
    exact ⟨x, r, h1, keyless_has h c x hk.1 h2, keylessL_has h l r hk.2 h3⟩
end

theorem keyless_has' {ρ ρ' : Rho} (h : ∀ b o, ρ.imm b = some o → ρ'.imm b = some o) (c : SV) (v : Value) (hk : keyless c = true) (hc : Has ρ c v) : Has ρ' c v := by
  cases c <;> simp only [Has] at hc ⊢
  case tup l => obtain ⟨z, h1, h2⟩ := hc; exact ⟨z, keylessL_has h l z (by simpa [keyless] using hk) h1, h2⟩
  all_goals (obtain ⟨x, h1, h2⟩ := hc; exact ⟨x, keyless_has h _ _ hk h1, h2⟩)

/-- One result. -/
def retOne (T : List (TypeId × TI)) (fr : List (Nat × SV)) (hp : List (Nat × Blk)) : ResultVar → Option (Option Prop × SV)
  | .tmp t => match lk fr t with
    | some c => match passable c with
      | true => some (none, c)
      | false => none
    | none => none
  | .cell a ty => match lk fr a, tfind T ty with
    | some (.ptr key s i r), some ti => match find hp key with
      | some blk => match elem blk.data s i with
        | some (ob, cs) => match sub 64 cs r ti.size, ti.size with
          | some l, _ + 1 => match shapeAs ti l with
            | some c => match passable c with
              | true => some (ob, c)
              | false => none
            | none => none
          | _, _ => none
        | none => none
      | none => none
    | _, _ => none

def both : Option Prop → Option Prop → Option Prop
  | none, q => q
  | p, none => p
  | some p, some q => some (p ∧ q)

theorem both_spec {p q : Option Prop} (h : obP (both p q)) : obP p ∧ obP q := by
  cases p <;> cases q <;> first | exact ⟨trivial, h⟩ | exact ⟨h, trivial⟩ | exact h

def retAll (T : List (TypeId × TI)) (fr : List (Nat × SV)) (hp : List (Nat × Blk)) : List ResultVar → Option (Option Prop × List SV)
  | [] => some (none, [])
  | r :: rs => match retOne T fr hp r, retAll T fr hp rs with
    | some (ob, c), some (ob', l) => some (both ob ob', c :: l)
    | _, _ => none

def retSV : List SV → SV
  | [c] => c
  | l => .tup l

/-- The end of a function: what it returns. -/
def Ret (T : List (TypeId × TI)) (rs : List ResultVar) (K : SV → List (Nat × Blk) → Prop) : Post' := fun e fr hp => match e with
  | .normal => match retAll T fr hp rs with
    | some (ob, l) => req ob (K (retSV l) hp)
    | none => False
  | .ret => match retAll T fr hp rs with
    | some (ob, l) => req ob (K (retSV l) hp)
    | none => False
  | _ => False

def retSem (tmps : Array Value) : ResultVar → Sem Value
  | .tmp t => pure (tmps.getD t undef)
  | .cell p t => do loadVar t (← asAddr (tmps.getD p undef))

theorem retOne_run {E : Env} (hE : E.OK) {fr : List (Nat × SV)} {hp : List (Nat × Blk)} {r : ResultVar} {ob : Option Prop} {c : SV} (h : retOne E.T fr hp r = some (ob, c)) (hob : obP ob) {ρ : Rho} {a : Act} {w : World} (hR : R E.W0 E.w0 E.n ρ (fn fr hp) a w) :
    ∃ v, (retSem a.tmps r).run E.P w = .ok v w ∧ Has ρ c v ∧ passable c = true := by
  cases r with
  | tmp t =>
    simp only [retOne] at h
    split at h
    · rename_i d hd
      split at h
      · rename_i hp'
        simp only [Option.some.injEq, Prod.mk.injEq] at h
        obtain ⟨rfl, rfl⟩ := h
        exact ⟨_, rfl, hR.fr t d (by simp only [fn, LV.sv]; exact hd), hp'⟩
      · simp at h
    · simp at h
  | cell p ty =>
    simp only [retOne] at h
    split at h
    · rename_i key s i r ti hx hti
      split at h
      · rename_i blk hblk
        split at h
        · rename_i ob' cs he
          split at h
          · rename_i l _ hs hsz
            split at h
            · rename_i d hd
              split at h
              · rename_i hp'
                simp only [Option.some.injEq, Prod.mk.injEq] at h
                obtain ⟨rfl, rfl⟩ := h
                have hv := hR.fr p _ (by simp only [fn, LV.sv]; exact hx)
                simp only [Has, HasC] at hv
                obtain ⟨_, ⟨b, n, hkey, rfl⟩, hval⟩ := hv
                simp only [mkV, SV.isOne, if_true, List.headD_cons] at hval
                obtain ⟨v, h1, h2⟩ := load_at (hE.tab.get hti) hkey (hR.hp.blk _ _ (by simp only [fn, LV.blk]; exact hblk)) he hob hs (by omega) hd
                exact ⟨v, by simp only [retSem, hval, asAddr, Sem.run_bind, Sem.run_pure, Result.andThen_ok, h1], h2, hp'⟩
              · simp at h
            · simp at h
          · simp at h
        · simp at h
      · simp at h
    · simp at h

theorem retAll_run {E : Env} (hE : E.OK) {fr : List (Nat × SV)} {hp : List (Nat × Blk)} {ρ : Rho} {a : Act} {w : World} (hR : R E.W0 E.w0 E.n ρ (fn fr hp) a w) : ∀ (rs : List ResultVar) (ob : Option Prop) (l : List SV), retAll E.T fr hp rs = some (ob, l) → obP ob →
    ∃ vs : List Value, (rs.mapM (retSem a.tmps)).run E.P w = .ok vs w ∧
      (∃ z, HasZ ρ l z ∧ vs = List.zipWith mkV l z) ∧ (∀ c ∈ l, passable c = true) ∧ l.length = rs.length
  | [], ob, l, h, _ => by
    simp only [retAll, Option.some.injEq, Prod.mk.injEq] at h
    obtain ⟨_, rfl⟩ := h
    exact ⟨[], rfl, ⟨[], by simp [HasZ], rfl⟩, by simp, rfl⟩
  | r :: rs, ob, l, h, hob => by
    unfold retAll at h
    split at h
    · rename_i ob1 c ob2 l' h1 h2
      simp only [Option.some.injEq, Prod.mk.injEq] at h
      obtain ⟨rfl, rfl⟩ := h
      obtain ⟨v, e1, e2, e3⟩ := retOne_run hE h1 (both_spec hob).1 hR
      obtain ⟨vs, f1, ⟨z, f2, rfl⟩, f3, f4⟩ := retAll_run hE hR rs ob2 l' h2 (both_spec hob).2
      obtain ⟨x, g1, rfl⟩ := has_pass e3 e2
      refine ⟨mkV c x :: List.zipWith mkV l' z, ?_, ⟨x :: z, by simp only [HasZ]; exact ⟨x, z, rfl, g1, f2⟩, rfl⟩, ?_, by simp [f4]⟩
      · rw [List.mapM_cons, Sem.run_bind, e1]
        simp only [Result.andThen_ok, Sem.run_bind, f1, Sem.run_pure]
      · intro d hd
        rcases List.mem_cons.1 hd with rfl | hd
        · exact e3
        · exact f3 d hd
    · simp at h

theorem results_run {E : Env} (hE : E.OK) {fn' : Func} {fr : List (Nat × SV)} {hp : List (Nat × Blk)} {ρ : Rho} {a : Act} {w : World} (hR : R E.W0 E.w0 E.n ρ (fn fr hp) a w) {ob : Option Prop} {l : List SV}
    (h : retAll E.T fr hp fn'.results.toList = some (ob, l)) (hob : obP ob) : ∃ v, (results fn' a.tmps).run E.P w = .ok v w ∧ Has ρ (retSV l) v := by
  obtain ⟨vs, h1, ⟨z, h2, rfl⟩, h3, h4⟩ := retAll_run hE hR _ ob l h hob
  have hz : l.length = z.length := by
    clear h h1 h3 h4
    induction l generalizing z with
    | nil => simp only [HasZ] at h2; subst h2; rfl
    | cons c l ih => simp only [HasZ] at h2; obtain ⟨x, r, rfl, _, h⟩ := h2; simp [ih r h]
  refine ⟨if l.length = 1 then (List.zipWith mkV l z).headD undef else .tuple (List.zipWith mkV l z).toArray, ?_, ?_⟩
  · have hres : results fn' a.tmps = (do
        let vs ← fn'.results.mapM (retSem a.tmps)
        pure (if h : vs.size = 1 then vs[0] else .tuple vs)) := by
      unfold results
      congr 1
    rw [hres, Array.mapM_eq_mapM_toList, Sem.run_bind, Sem.run_map, h1]
    simp only [Result.andThen_ok, Sem.run_pure, List.size_toArray, List.length_zipWith, hz, Nat.min_self]
    congr 1
    by_cases hl : z.length = 1
    · rw [dif_pos hl, if_pos hl]
      obtain ⟨c, rfl⟩ := List.length_eq_one_iff.1 (hz.trans hl)
      obtain ⟨x, rfl⟩ := List.length_eq_one_iff.1 hl
      rfl
    · rw [dif_neg hl, if_neg hl]
  · have hp := h3
    match l, z, h2, hz with
    | [c], z, h2, hz =>
      simp only [HasZ] at h2
      obtain ⟨x, r, rfl, g1, rfl⟩ := h2
      have := h3 c (by simp)
      simp only [retSV, List.length_singleton, if_true]
      have : Has ρ c (mkV c x) := by
        cases c <;> simp [passable] at this <;> simp only [Has] <;> exact ⟨x, g1, rfl⟩
      simpa using this
    | [], z, h2, hz => simp only [retSV, Has]; exact ⟨z, h2, by simp⟩
    | c :: d :: l, z, h2, hz => simp only [retSV, Has]; exact ⟨z, h2, by simp⟩

def enum : Nat → List SV → List (Nat × SV)
  | _, [] => []
  | i, c :: l => (i, c) :: enum (i + 1) l

theorem lk_enum : ∀ (l : List SV) (i t : Nat) (c : SV), lk (enum i l) t = some c → i ≤ t ∧ l[t - i]? = some c
  | d :: l, i, t, c, h => by
    unfold enum lk at h
    split at h
    · rename_i hb
      have := Nat.eq_of_beq_eq_true hb
      subst this
      cases h
      simp
    · rename_i hb
      obtain ⟨h1, h2⟩ := lk_enum l (i + 1) t c h
      refine ⟨by omega, ?_⟩
      rw [show t - i = (t - (i + 1)) + 1 from by omega]
      simpa using h2

def Recast (c d : SV) : Prop := ∀ ρ v, Has ρ c v → Has ρ d v
theorem Recast.refl (c : SV) : Recast c c := fun _ _ h => h

/-- A function whose arguments and result name no memory. -/
theorem callV {P : Program} {T : List (TypeId × TI)} (hT : TabOK P T) (hm : P.follows .mixedOrders = true) {f : FuncId} {fn' : Func} {code : Code} (hf : P.funcs[f]? = some fn') (hb : fn'.body = some code)
    (hn : (fn'.name == "runtime.NumGoroutine") = false) {args : List SV} {c : SV} (ha : keylessL args = true) (hc : keyless c = true) (hnt : Nat.ble args.length fn'.ntmps = true) (hpass : args.all passable = true)
    (h : ∀ W0 w0 ρ0, Env.OK ⟨P, T, W0, w0, fn'.ntmps, ρ0, []⟩ → cwp ⟨P, T, W0, w0, fn'.ntmps, ρ0, []⟩ code (Ret T fn'.results.toList fun sv _ => Recast sv c) (enum 0 args) []) : CallOK P f args [] c [] [] := by
  have hnt' := Nat.le_of_ble_eq_true hnt
  refine .inl ⟨⟨fn', hf, hn, by rw [hb]; rfl⟩, fun ρ w z hz hpw => ?_⟩
  let ρ1 : Rho := ⟨fun _ => none, ρ.imm, ρ.glob⟩
  let E : Env := ⟨P, T, fun _ => False, w, fn'.ntmps, ρ1, []⟩
  have hE : E.OK := ⟨hT, hm, fun k x hx => by cases hx⟩
  have hzl : z.length = args.length := by
    clear h hnt hnt' hpass ha
    induction args generalizing z with
    | nil => simp only [HasZ] at hz; subst hz; rfl
    | cons c l ih => simp only [HasZ] at hz; obtain ⟨x, r, rfl, _, h⟩ := hz; simp [ih r h]
  have hz1 := keylessL_has (ρ := ρ) (ρ' := ρ1) (fun b o hb => hb) args z ha hz
  have hget : ∀ (l : List SV) (y : List (List Value)), HasZ ρ1 l y → l.all passable = true → ∀ (j : Nat) (c : SV), l[j]? = some c → ∃ v, (List.zipWith mkV l y)[j]? = some v ∧ Has ρ1 c v := by
    intro l
    induction l with
    | nil => intro y _ _ j c h; simp at h
    | cons d l ih =>
      intro y hy hp j c hj
      simp only [HasZ] at hy
      obtain ⟨x, r, rfl, g1, g2⟩ := hy
      simp only [List.all_cons, Bool.and_eq_true] at hp
      cases j with
      | zero =>
        simp at hj
        subst hj
        refine ⟨mkV d x, by simp, ?_⟩
        have hp1 := hp.1
        cases d <;> simp [passable] at hp1 <;> simp only [Has] <;> exact ⟨x, g1, rfl⟩
      | succ j => simpa using ih r g2 hp.2 j c (by simpa using hj)
  have hsize : ((List.zipWith mkV args z).toArray ++ Array.replicate (fn'.ntmps - (List.zipWith mkV args z).toArray.size) undef).size = fn'.ntmps := by
    simp [hzl]
    omega
  have hR : R E.W0 E.w0 E.n ρ1 (fn (enum 0 args) []) { tmps := (List.zipWith mkV args z).toArray ++ Array.replicate (fn'.ntmps - (List.zipWith mkV args z).toArray.size) undef, defers := [] } w := {
    defers := rfl
    size := hsize
    fr := fun t sv ht => by
      simp only [fn, LV.sv] at ht
      obtain ⟨_, h2⟩ := lk_enum args 0 t sv ht
      obtain ⟨v, h3, h4⟩ := hget args z hz1 hpass t sv (by simpa using h2)
      have hlt : t < (List.zipWith mkV args z).length := (List.getElem?_eq_some_iff.1 h3).1
      have : ((List.zipWith mkV args z).toArray ++ Array.replicate (fn'.ntmps - (List.zipWith mkV args z).toArray.size) undef).getD t undef = v := by
        rw [Array.getD_eq_getD_getElem?, Array.getElem?_append_left (by simpa using hlt)]
        simp [h3]
      rw [this]; exact h4
    pres := .refl _ _
    hp := {
      blk := fun k b hb => by simp [fn, find, LV.blk] at hb
      sep := fun k k' x x' b b' hx => by cases hx
      own := fun k b x hb => by simp [fn, find, LV.blk] at hb
      dom := fun k x hx => by cases hx
      imm := hpw.imm
      immw := fun k b x hb => by simp [fn, find, LV.blk] at hb } }
  have hwp := cwp_sound hE code _ _ _ (h E.W0 w ρ1 hE) _ w ⟨ρ1, ⟨.refl _, fun b o hb => .inl hb, (fun _ h => by cases h)⟩, (fun _ h => by cases h), hR⟩
  refine calls_of_wp hf hb (Code.wp_mono ?_ hwp)
  rintro e a' w' ⟨fr', hp', hK, ρ', hext, _, hR'⟩
  have fin : ∀ ob l, retAll T fr' hp' fn'.results.toList = some (ob, l) → obP ob → Recast (retSV l) c → a'.defers = [] ∧ ∃ v, (results fn' a'.tmps).run P w' = .ok v w' ∧ ∃ v' ρ'', Ending.returned v = .returned v' ∧ Post ρ w c [] [] v' ρ'' w' := by
    intro ob l h1 h2 h3
    obtain ⟨v, r1, r2⟩ := results_run hE hR' h1 h2
    refine ⟨hR'.defers, v, r1, v, ⟨ρ.key, ρ'.imm, ρ'.glob⟩, rfl, ⟨⟨fun k x hx => hx, fun b o hb => hext.le.imm b o hb⟩, ?_, fun _ _ => rfl, ?_, (fun k b h => by rcases h with h | h <;> cases h), (fun _ _ _ h => by cases h), (fun k b x h => by cases h), (fun k b k' b' x x' h => by cases h), ?_⟩⟩
    · exact keyless_has' (ρ := ρ') (ρ' := ⟨ρ.key, ρ'.imm, ρ'.glob⟩) (fun b o hb => hb) c v hc (h3 ρ' v r2)
    · exact hR'.pres.mono (fun b _ hb => hb.elim)
    · intro b o hb
      rcases hext.imm b o hb with h4 | h4
      · exact .inl h4
      · exact .inr ⟨h4, hR'.hp.imm b o hb, fun k blk x h => by cases h⟩
  cases e <;> simp only [Ret] at hK <;> simp only [bodyPost]
  · split at hK
    · rename_i ob l hl; exact fin ob l hl (req_spec hK).1 (req_spec hK).2
    · exact hK.elim
  · split at hK
    · rename_i ob l hl; exact fin ob l hl (req_spec hK).1 (req_spec hK).2
    · exact hK.elim

end Go.Sx
