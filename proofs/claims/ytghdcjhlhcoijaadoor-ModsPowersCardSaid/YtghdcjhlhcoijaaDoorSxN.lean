/- Keys renamed; states made small again; loops; functions that are handed memory. -/
import Derived.Test.YtghdcjhlhcoijaaDoorSxI
namespace Go.Sx

mutual
def renS (σ : Nat → Nat) : SV → SV
  | .ptr k s i r => .ptr (σ k) s i r
  | .slc k s i n => .slc (σ k) s i n
  | .agg cs => .agg (renL σ cs)
  | .tup vs => .tup (renL σ vs)
  | .clo f a b => .clo f (renL σ a) (renL σ b)
  | .any => .any
  | .val v => .val v
  | .nat n => .nat n
  | .int z => .int z
  | .frac q => .frac q
  | .atom p => .atom p
def renL (σ : Nat → Nat) : List SV → List SV
  | [] => []
  | c :: l => renS σ c :: renL σ l
end

mutual
def refs : SV → List Nat
  | .ptr k _ _ _ => [k]
  | .slc k _ _ _ => [k]
  | .agg cs => refsL cs
  | .tup vs => refsL vs
  | .clo _ a b => refsL a ++ refsL b
  | _ => []
def refsL : List SV → List Nat
  | [] => []
  | c :: l => refs c ++ refsL l
end

def renD (σ : Nat → Nat) : Data → Data
  | .one cs => .one (renL σ cs)
  | .seq w xs => .seq w (renL σ xs)
  | .ints k xs => .ints k xs
  | .fracs xs => .fracs xs
  | .dead => .dead

def refsD : Data → List Nat
  | .one cs => refsL cs
  | .seq _ xs => refsL xs
  | _ => []

def renB (σ : Nat → Nat) (b : Blk) : Blk := ⟨b.ty, b.wr, renD σ b.data⟩

def renH (σ : Nat → Nat) : List (Nat × Blk) → List (Nat × Blk)
  | [] => []
  | (k, b) :: r => (σ k, renB σ b) :: renH σ r

theorem renS_isOne (σ : Nat → Nat) (c : SV) : (renS σ c).isOne = c.isOne := by cases c <;> simp [renS, SV.isOne]
theorem renS_mkV (σ : Nat → Nat) (c : SV) (x : List Value) : mkV (renS σ c) x = mkV c x := by simp [mkV, renS_isOne]

theorem zip_ren (σ : Nat → Nat) : ∀ (l : List SV) (z : List (List Value)), List.zipWith mkV (renL σ l) z = List.zipWith mkV l z
  | [], z => by simp [renL]
  | c :: l, [] => by simp [renL]
  | c :: l, x :: z => by simp [renL, renS_mkV, zip_ren σ l z]

mutual
theorem renS_iff {ρ ρ' : Rho} {σ : Nat → Nat} (hi : ρ'.imm = ρ.imm) : ∀ (c : SV) (x : List Value), (∀ k ∈ refs c, ρ'.key (σ k) = ρ.key k) → (HasC ρ' (renS σ c) x ↔ HasC ρ c x)
  | .any, _, _ => by simp only [renS, HasC]
  | .val _, _, _ => by simp only [renS, HasC]
  | .nat _, _, _ => by simp only [renS, HasC]
  | .int _, _, _ => by simp only [renS, HasC]
  | .frac _, _, _ => by simp only [renS, HasC]
  | .atom p, _, _ => by simp only [renS, HasC, hi]
  | .ptr k s i r, _, h => by simp only [renS, HasC, h k (by simp [refs])]
  | .slc k s i n, _, h => by simp only [renS, HasC, h k (by simp [refs])]
  | .agg cs, _, h => by
    simp only [renS, HasC]
    constructor
    · rintro ⟨z, h1, h2⟩; exact ⟨z, (renL_iff hi cs z (by simpa [refs] using h)).1 h1, h2⟩
    · rintro ⟨z, h1, h2⟩; exact ⟨z, (renL_iff hi cs z (by simpa [refs] using h)).2 h1, h2⟩
  | .tup vs, _, _ => by simp only [renS, HasC]
  | .clo f a b, _, h => by
    have ha : ∀ k ∈ refsL a, ρ'.key (σ k) = ρ.key k := fun k hk => h k (by simp [refs, hk])
    have hb : ∀ k ∈ refsL b, ρ'.key (σ k) = ρ.key k := fun k hk => h k (by simp [refs, hk])
    simp only [renS, HasC, zip_ren]
    constructor
    · rintro ⟨fz, cz, h1, h2, h3⟩; exact ⟨fz, cz, (renL_iff hi a fz ha).1 h1, (renL_iff hi b cz hb).1 h2, h3⟩
    · rintro ⟨fz, cz, h1, h2, h3⟩; exact ⟨fz, cz, (renL_iff hi a fz ha).2 h1, (renL_iff hi b cz hb).2 h2, h3⟩
theorem renL_iff {ρ ρ' : Rho} {σ : Nat → Nat} (hi : ρ'.imm = ρ.imm) : ∀ (l : List SV) (z : List (List Value)), (∀ k ∈ refsL l, ρ'.key (σ k) = ρ.key k) → (HasZ ρ' (renL σ l) z ↔ HasZ ρ l z)
  | [], _, _ => by simp only [renL, HasZ]
  | c :: l, _, h => by
    have hc : ∀ k ∈ refs c, ρ'.key (σ k) = ρ.key k := fun k hk => h k (by simp [refsL, hk])
    have hl : ∀ k ∈ refsL l, ρ'.key (σ k) = ρ.key k := fun k hk => h k (by simp [refsL, hk])
    simp only [renL, HasZ]
    constructor
    · rintro ⟨x, r, h1, h2, h3⟩; exact ⟨x, r, h1, (renS_iff hi c x hc).1 h2, (renL_iff hi l r hl).1 h3⟩
    · rintro ⟨x, r, h1, h2, h3⟩; exact ⟨x, r, h1, (renS_iff hi c x hc).2 h2, (renL_iff hi l r hl).2 h3⟩
end

theorem Has_iff {ρ : Rho} {c : SV} {v : Value} (h : passable c = true) : Has ρ c v ↔ ∃ x, HasC ρ c x ∧ v = mkV c x := by
  cases c <;> simp only [passable, Bool.false_eq_true] at h <;> simp only [Has]

theorem ren_pass (σ : Nat → Nat) (c : SV) : passable (renS σ c) = passable c := by cases c <;> rfl

theorem ren_has {ρ ρ' : Rho} {σ : Nat → Nat} (hi : ρ'.imm = ρ.imm) (c : SV) (v : Value) (h : ∀ k ∈ refs c, ρ'.key (σ k) = ρ.key k) : Has ρ' (renS σ c) v ↔ Has ρ c v := by
  cases hp : passable c with
  | true =>
    rw [Has_iff hp, Has_iff (by rw [ren_pass]; exact hp)]
    constructor
    · rintro ⟨x, h1, h2⟩; exact ⟨x, (renS_iff hi c x h).1 h1, by rw [h2, renS_mkV]⟩
    · rintro ⟨x, h1, h2⟩; exact ⟨x, (renS_iff hi c x h).2 h1, by rw [h2, renS_mkV]⟩
  | false =>
    cases c <;> simp only [passable, Bool.true_eq_false] at hp
    case tup l =>
      simp only [renS, Has, zip_ren]
      constructor
      · rintro ⟨z, h1, h2⟩; exact ⟨z, (renL_iff hi l z (by simpa [refs] using h)).1 h1, h2⟩
      · rintro ⟨z, h1, h2⟩; exact ⟨z, (renL_iff hi l z (by simpa [refs] using h)).2 h1, h2⟩
    case any => simp only [renS, Has]

mutual
theorem ren_width (σ : Nat → Nat) : ∀ c : SV, (renS σ c).width = c.width
  | .any => rfl
  | .val _ => rfl
  | .nat _ => rfl
  | .int _ => rfl
  | .frac _ => rfl
  | .atom _ => rfl
  | .ptr .. => rfl
  | .slc .. => rfl
  | .agg cs => by simp only [renS, SV.width]; exact ren_widthL σ cs
  | .tup _ => rfl
  | .clo .. => rfl
theorem ren_widthL (σ : Nat → Nat) : ∀ l : List SV, SV.widthL (renL σ l) = SV.widthL l
  | [] => rfl
  | c :: l => by simp only [renL, SV.widthL]; rw [ren_width σ c, ren_widthL σ l]
end

theorem mem_renL {σ : Nat → Nat} : ∀ {l : List SV} {x : SV}, x ∈ renL σ l → ∃ c ∈ l, x = renS σ c
  | c :: l, x, h => by
    simp only [renL] at h
    rcases List.mem_cons.1 h with rfl | h
    · exact ⟨c, List.mem_cons_self .., rfl⟩
    · obtain ⟨d, h1, h2⟩ := mem_renL h
      exact ⟨d, List.mem_cons_of_mem _ h1, h2⟩

theorem renL_mem {σ : Nat → Nat} : ∀ {l : List SV} {c : SV}, c ∈ l → renS σ c ∈ renL σ l
  | d :: l, c, h => by
    simp only [renL]
    rcases List.mem_cons.1 h with rfl | h
    · exact List.mem_cons_self ..
    · exact List.mem_cons_of_mem _ (renL_mem h)

theorem renD_iff {ρ ρ' : Rho} {σ : Nat → Nat} (hi : ρ'.imm = ρ.imm) (d : Data) (vs : List Value) (h : ∀ k ∈ refsD d, ρ'.key (σ k) = ρ.key k) : DataC ρ' (renD σ d) vs ↔ DataC ρ d vs := by
  cases d
  case one cs =>
    simp only [renD, DataC]
    constructor
    · rintro ⟨z, h1, h2⟩; exact ⟨z, (renL_iff hi cs z h).1 h1, h2⟩
    · rintro ⟨z, h1, h2⟩; exact ⟨z, (renL_iff hi cs z h).2 h1, h2⟩
  case seq w xs =>
    simp only [renD, DataC]
    constructor
    · rintro ⟨z, h1, h2, h3⟩; exact ⟨z, (renL_iff hi xs z h).1 h1, h2, fun x hx => by rw [← ren_width σ x]; exact h3 _ (renL_mem hx)⟩
    · rintro ⟨z, h1, h2, h3⟩; exact ⟨z, (renL_iff hi xs z h).2 h1, h2, fun x hx => by obtain ⟨c, hc, rfl⟩ := mem_renL hx; rw [ren_width]; exact h3 c hc⟩
  all_goals simp only [renD, DataC]

theorem renD_live (σ : Nat → Nat) (d : Data) : (renD σ d).live = d.live := by cases d <;> rfl
theorem renD_empty (σ : Nat → Nat) (d : Data) : (renD σ d).empty ↔ d.empty := by
  cases d <;> simp [renD, Data.empty]
  case seq w xs => cases xs <;> simp [renL]

theorem renB_iff {ρ ρ' : Rho} {σ : Nat → Nat} {w : World} (hi : ρ'.imm = ρ.imm) (k : Nat) (b : Blk) (hk : ρ'.key (σ k) = ρ.key k) (h : ∀ k ∈ refsD b.data, ρ'.key (σ k) = ρ.key k) : BlkOK ρ' w (σ k) (renB σ b) ↔ BlkOK ρ w k b := by
  simp only [BlkOK, renB, hk, renD_live, renD_empty]
  constructor
  · rintro (h0 | ⟨b', t, vs, ex, h1, h2, h3, h4⟩ | h0)
    · exact .inl h0
    · exact .inr (.inl ⟨b', t, vs, ex, h1, h2, (renD_iff hi b.data vs h).1 h3, h4⟩)
    · exact .inr (.inr h0)
  · rintro (h0 | ⟨b', t, vs, ex, h1, h2, h3, h4⟩ | h0)
    · exact .inl h0
    · exact .inr (.inl ⟨b', t, vs, ex, h1, h2, (renD_iff hi b.data vs h).2 h3, h4⟩)
    · exact .inr (.inr h0)

/-! ### A state made small -/

/-- Renaming by a list; what is not in it stays. -/
def renBy (l : List (Nat × Nat)) (k : Nat) : Nat := match l with
  | [] => k
  | (a, b) :: r => match Nat.beq a k with | true => b | false => renBy r k

def normF (σ : Nat → Nat) (fr : List (Nat × SV)) : List Nat → List (Nat × SV)
  | [] => []
  | t :: r => match lk fr t with
    | some c => (t, renS σ c) :: normF σ fr r
    | none => normF σ fr r

def normH (σ : Nat → Nat) (hp : List (Nat × Blk)) : List Nat → List (Nat × Blk)
  | [] => []
  | k :: r => match find hp k with
    | some b => (σ k, renB σ b) :: normH σ hp r
    | none => normH σ hp r

def subN (l r : List Nat) : Bool := match l with
  | [] => true
  | x :: t => memN x r && subN t r

theorem subN_spec {l r : List Nat} (h : subN l r = true) : ∀ x ∈ l, x ∈ r := by
  induction l with
  | nil => intro x hx; cases hx
  | cons y l ih =>
    simp only [subN, Bool.and_eq_true] at h
    intro x hx
    rcases List.mem_cons.1 hx with rfl | hx
    · exact memN_iff.1 h.1
    · exact ih h.2 x hx

def normOKf (ks : List Nat) (fr : List (Nat × SV)) : List Nat → Bool
  | [] => true
  | t :: r => match lk fr t with
    | some c => subN (refs c) ks && normOKf ks fr r
    | none => normOKf ks fr r

def normOKh (ks : List Nat) (hp : List (Nat × Blk)) : List Nat → Bool
  | [] => true
  | k :: r => match find hp k with
    | some b => subN (refsD b.data) ks && normOKh ks hp r
    | none => false

/-- No two kept keys get one name. -/
def injOK (σ : Nat → Nat) : List Nat → Bool
  | [] => true
  | k :: r => !(memN (σ k) (r.map σ)) && injOK σ r

def fixOK (σ : Nat → Nat) (ks : List Nat) : List Nat → Bool
  | [] => true
  | k :: r => (memN k ks && Nat.beq (σ k) k) && fixOK σ ks r

def normOK (fx : List Nat) (σ : Nat → Nat) (ts ks : List Nat) (fr : List (Nat × SV)) (hp : List (Nat × Blk)) : Bool :=
  normOKf ks fr ts && (normOKh ks hp ks && (injOK σ ks && fixOK σ ks fx))

theorem injOK_spec {σ : Nat → Nat} : ∀ {ks : List Nat}, injOK σ ks = true → ∀ a ∈ ks, ∀ b ∈ ks, σ a = σ b → a = b
  | k :: r, h, a, ha, b, hb, he => by
    simp only [injOK, Bool.and_eq_true, Bool.not_eq_true', ← Bool.not_eq_true, memN_iff] at h
    rcases List.mem_cons.1 ha with ha' | ha'
    · rcases List.mem_cons.1 hb with hb' | hb'
      · rw [ha', hb']
      · exact absurd (List.mem_map.2 ⟨b, hb', by rw [← he, ha']⟩) h.1
    · rcases List.mem_cons.1 hb with hb' | hb'
      · exact absurd (List.mem_map.2 ⟨a, ha', by rw [he, hb']⟩) h.1
      · exact injOK_spec h.2 a ha' b hb' he

theorem normF_lk {σ : Nat → Nat} {fr : List (Nat × SV)} {ks : List Nat} : ∀ {ts : List Nat}, normOKf ks fr ts = true → ∀ t sv, lk (normF σ fr ts) t = some sv → ∃ c, lk fr t = some c ∧ sv = renS σ c ∧ ∀ k ∈ refs c, k ∈ ks
  | u :: r, h, t, sv, hl => by
    unfold normOKf at h
    unfold normF at hl
    cases hu : lk fr u with
    | none => rw [hu] at h hl; exact normF_lk h t sv hl
    | some c =>
      rw [hu] at h hl
      simp only [Bool.and_eq_true] at h
      simp only [lk] at hl
      cases hb : Nat.beq u t with
      | true =>
        rw [hb] at hl
        simp only [Option.some.injEq] at hl
        obtain rfl := Nat.eq_of_beq_eq_true hb
        exact ⟨c, hu, hl.symm, subN_spec h.1⟩
      | false => rw [hb] at hl; exact normF_lk h.2 t sv hl

theorem normH_find {σ : Nat → Nat} {hp : List (Nat × Blk)} {ks : List Nat} : ∀ {l : List Nat}, normOKh ks hp l = true → ∀ k' b', find (normH σ hp l) k' = some b' → ∃ k ∈ l, σ k = k' ∧ ∃ b, find hp k = some b ∧ b' = renB σ b ∧ ∀ j ∈ refsD b.data, j ∈ ks
  | k :: r, h, k', b', hf => by
    unfold normOKh at h
    unfold normH at hf
    cases hk : find hp k with
    | none => rw [hk] at h; cases h
    | some b =>
      rw [hk] at h hf
      simp only [Bool.and_eq_true] at h
      simp only [find] at hf
      cases hb : Nat.beq (σ k) k' with
      | true =>
        rw [hb] at hf
        simp only [Option.some.injEq] at hf
        exact ⟨k, List.mem_cons_self .., Nat.eq_of_beq_eq_true hb, b, hk, hf.symm, subN_spec h.1⟩
      | false =>
        rw [hb] at hf
        obtain ⟨j, h1, h2⟩ := normH_find h.2 k' b' hf
        exact ⟨j, List.mem_cons_of_mem _ h1, h2⟩

theorem normH_has {σ : Nat → Nat} {hp : List (Nat × Blk)} {ks : List Nat} : ∀ {l : List Nat}, normOKh ks hp l = true → ∀ k ∈ l, ∃ b, find (normH σ hp l) (σ k) = some b
  | j :: r, h, k, hk => by
    unfold normOKh at h
    unfold normH
    cases hj : find hp j with
    | none => rw [hj] at h; cases h
    | some b =>
      rw [hj] at h
      simp only [Bool.and_eq_true] at h
      simp only [find]
      cases hb : Nat.beq (σ j) (σ k) with
      | true => exact ⟨_, rfl⟩
      | false =>
        rcases List.mem_cons.1 hk with rfl | hk
        · simp [Nat.beq_refl] at hb
        · exact normH_has h.2 k hk

theorem fixOK_spec {σ : Nat → Nat} {ks : List Nat} : ∀ {l : List Nat}, fixOK σ ks l = true → ∀ k ∈ l, k ∈ ks ∧ σ k = k
  | j :: r, h, k, hk => by
    simp only [fixOK, Bool.and_eq_true, memN_iff] at h
    rcases List.mem_cons.1 hk with rfl | hk
    · exact ⟨h.1.1, Nat.eq_of_beq_eq_true h.1.2⟩
    · exact fixOK_spec h.2 k hk

/-- Forget what is not kept; rename the keys. -/
theorem norm_RR {E : Env} (hE : E.OK) {σ : Nat → Nat} {ts ks : List Nat} {fr : List (Nat × SV)} {hp : List (Nat × Blk)} (h : normOK E.fx σ ts ks fr hp = true) {a : Act} {w : World} (hR : RR E (fn fr hp) a w) :
    RR E (fn (normF σ fr ts) (normH σ hp ks)) a w := by
  simp only [normOK, Bool.and_eq_true] at h
  obtain ⟨h1, h2, h3, h4⟩ := h
  obtain ⟨ρ, hext, hfx, hR⟩ := hR
  have hinj := injOK_spec h3
  have hfix := fixOK_spec h4
  let ρ' : Rho := ⟨fun k' => match ks.find? (fun k => σ k == k') with
    | some k => ρ.key k
    | none => none, ρ.imm, ρ.glob⟩
  have hkey : ∀ k ∈ ks, ρ'.key (σ k) = ρ.key k := by
    intro k hk
    show (match ks.find? (fun j => σ j == σ k) with | some k => ρ.key k | none => none) = ρ.key k
    cases hf : ks.find? (fun j => σ j == σ k) with
    | none => have := List.find?_eq_none.1 hf k hk; simp at this
    | some j =>
      have hj := List.mem_of_find?_eq_some hf
      have hs := List.find?_some hf
      have : j = k := hinj j hj k hk (by simpa using hs)
      rw [this]
  have hkey' : ∀ k' x, ρ'.key k' = some x → ∃ k ∈ ks, σ k = k' ∧ ρ.key k = some x := by
    intro k' x hx
    have hx : (match ks.find? (fun j => σ j == k') with | some k => ρ.key k | none => none) = some x := hx
    cases hf : ks.find? (fun j => σ j == k') with
    | none => rw [hf] at hx; cases hx
    | some j => rw [hf] at hx; exact ⟨j, List.mem_of_find?_eq_some hf, by simpa using List.find?_some hf, hx⟩
  have hold : ∀ k' b', (fn (normF σ fr ts) (normH σ hp ks) (.k k')).blk = some b' → ∃ k ∈ ks, σ k = k' ∧ ∃ b, find hp k = some b ∧ b' = renB σ b ∧ ∀ j ∈ refsD b.data, j ∈ ks := fun k' b' hb => normH_find h2 k' b' hb
  refine ⟨ρ', ⟨⟨fun k x hx => ?_, hext.le.imm⟩, hext.imm, fun k hk => ?_⟩, fun k hk => ?_, { defers := hR.defers, size := hR.size, fr := ?_, pres := hR.pres, hp := ?_ }⟩
  · obtain ⟨e1, e2⟩ := hfix k (hE.dom k x hx)
    have := hkey k e1
    rw [e2] at this
    rw [this]; exact hext.le.key k x hx
  · obtain ⟨e1, e2⟩ := hfix k hk
    have := hkey k e1
    rw [e2] at this
    rw [this]; exact hext.fix k hk
  · obtain ⟨e1, e2⟩ := hfix k hk
    obtain ⟨b, hb⟩ := normH_has (σ := σ) h2 k e1
    rw [e2] at hb
    simp [fn, LV.blk, hb]
  · intro t sv ht
    obtain ⟨c, c1, rfl, c3⟩ := normF_lk h1 t sv ht
    exact (ren_has (ρ := ρ) (ρ' := ρ') (σ := σ) rfl c _ (fun k hk => hkey k (c3 k hk))).2 (hR.fr t c (by simp only [fn, LV.sv]; exact c1))
  · constructor
    · intro k' b' hb
      obtain ⟨k, hk, rfl, b, b1, rfl, b3⟩ := hold k' b' hb
      exact (renB_iff (ρ := ρ) (ρ' := ρ') (σ := σ) rfl k b (hkey k hk) (fun j hj => hkey j (b3 j hj))).2 (hR.hp.blk k b (by simp only [fn, LV.blk]; exact b1))
    · intro k1 k2 x1 x2 b1 b2 hx1 hx2 hne he hb1 hb2 hl1 hl2
      obtain ⟨j1, m1, rfl, c1, d1, rfl, _⟩ := hold k1 b1 hb1
      obtain ⟨j2, m2, rfl, c2, d2, rfl, _⟩ := hold k2 b2 hb2
      rw [hkey j1 m1] at hx1
      rw [hkey j2 m2] at hx2
      exact hR.hp.sep j1 j2 x1 x2 c1 c2 hx1 hx2 (fun h => hne (by rw [h])) he (by simp only [fn, LV.blk]; exact d1) (by simp only [fn, LV.blk]; exact d2) (by rwa [renB, renD_live] at hl1) (by rwa [renB, renD_live] at hl2)
    · intro k' b' x hb hw hl hx
      obtain ⟨k, hk, rfl, b, b1, rfl, _⟩ := hold k' b' hb
      rw [hkey k hk] at hx
      exact hR.hp.own k b x (by simp only [fn, LV.blk]; exact b1) hw (by rwa [renB, renD_live] at hl) hx
    · intro k' x hx
      obtain ⟨k, hk, rfl, _⟩ := hkey' k' x hx
      obtain ⟨b, hb⟩ := normH_has (σ := σ) h2 k hk
      exact ⟨b, by simp only [fn, LV.blk]; exact hb⟩
    · exact hR.hp.imm
    · intro k' b' x hb hw hl hx
      obtain ⟨k, hk, rfl, b, b1, rfl, _⟩ := hold k' b' hb
      rw [hkey k hk] at hx
      exact hR.hp.immw k b x (by simp only [fn, LV.blk]; exact b1) hw (by rwa [renB, renD_live] at hl) hx

theorem SW_norm {E : Env} (hE : E.OK) (σ : Nat → Nat) (ts ks : List Nat) {c : Code} {K : Post'} {fr : List (Nat × SV)} {hp : List (Nat × Blk)} (h : normOK E.fx σ ts ks fr hp = true)
    (hs : SW E c K (normF σ fr ts) (normH σ hp ks)) : SW E c K fr hp := fun a w hR => hs a w (norm_RR hE h hR)

/-- A nil slice as a slice with a key of its own and no elements. -/
def adoptF (t k s : Nat) (fr : List (Nat × SV)) : List (Nat × SV) := (t, .slc k s 0 0) :: fr

theorem adopt_RR {E : Env} {t k s : Nat} {blk : Blk} {fr : List (Nat × SV)} {hp : List (Nat × Blk)} (ht : lk fr t = some (.val (.slice none 0 0))) (hk : find hp k = none) (he : blk.data.empty) {a : Act} {w : World} (hR : RR E (fn fr hp) a w) :
    RR E (fn (adoptF t k s fr) ((k, blk) :: hp)) a w := by
  obtain ⟨ρ, hext, hfx, hR⟩ := hR
  have hkn : ρ.key k = none := by
    cases hx : ρ.key k with
    | none => rfl
    | some x =>
      obtain ⟨b, hb⟩ := hR.hp.dom k x hx
      simp only [fn, LV.blk, hk] at hb
      cases hb
  have hblk : ∀ j b, (fn (adoptF t k s fr) ((k, blk) :: hp) (.k j)).blk = some b → (j = k ∧ b = blk) ∨ (j ≠ k ∧ (fn fr hp (.k j)).blk = some b) := by
    intro j b hb
    simp only [fn, LV.blk, find] at hb ⊢
    cases hj : Nat.beq k j with
    | true => rw [hj] at hb; simp only [Option.some.injEq] at hb; exact .inl ⟨(Nat.eq_of_beq_eq_true hj).symm, hb.symm⟩
    | false => rw [hj] at hb; exact .inr ⟨by rintro rfl; simp [Nat.beq_refl] at hj, hb⟩
  have hne : ∀ j x, ρ.key j = some x → j ≠ k := fun j x hx h => by rw [h, hkn] at hx; cases hx
  refine ⟨ρ, hext, fun j hj => ?_, { defers := hR.defers, size := hR.size, fr := ?_, pres := hR.pres, hp := ?_ }⟩
  · have := hfx j hj
    simp only [fn, LV.blk, find] at this ⊢
    cases hb : Nat.beq k j with
    | true => simp
    | false => exact this
  · intro u sv hu
    simp only [fn, LV.sv, adoptF, lk] at hu
    cases hb : Nat.beq t u with
    | true =>
      rw [hb] at hu
      simp only [Option.some.injEq] at hu
      subst hu
      obtain rfl := Nat.eq_of_beq_eq_true hb
      have := of_has_val (hR.fr t _ (by simp only [fn, LV.sv]; exact ht))
      rw [this]
      exact slc_has (.inr ⟨rfl, none, rfl⟩)
    | false =>
      rw [hb] at hu
      exact hR.fr u sv (by simp only [fn, LV.sv]; exact hu)
  · constructor
    · intro j b hb
      rcases hblk j b hb with ⟨rfl, rfl⟩ | ⟨_, h1⟩
      · exact .inr (.inr ⟨hkn, he⟩)
      · exact hR.hp.blk j b h1
    · intro j j' x x' b b' hx hx' hn hxe hb hb'
      rcases hblk j b hb with ⟨h1, _⟩ | ⟨_, h1⟩
      · exact absurd h1 (hne j x hx)
      · rcases hblk j' b' hb' with ⟨h2, _⟩ | ⟨_, h2⟩
        · exact absurd h2 (hne j' x' hx')
        · exact hR.hp.sep j j' x x' b b' hx hx' hn hxe h1 h2
    · intro j b x hb hw hl hx
      rcases hblk j b hb with ⟨h1, _⟩ | ⟨_, h1⟩
      · exact absurd h1 (hne j x hx)
      · exact hR.hp.own j b x h1 hw hl hx
    · intro j x hx
      obtain ⟨b, hb⟩ := hR.hp.dom j x hx
      have := hne j x hx
      refine ⟨b, ?_⟩
      simp only [fn, LV.blk, find] at hb ⊢
      cases hj : Nat.beq k j with
      | true => exact absurd (Nat.eq_of_beq_eq_true hj).symm this
      | false => exact hb
    · exact hR.hp.imm
    · intro j b x hb hw hl hx
      rcases hblk j b hb with ⟨h1, _⟩ | ⟨_, h1⟩
      · exact absurd h1 (hne j x hx)
      · exact hR.hp.immw j b x h1 hw hl hx

theorem SW_adopt {E : Env} (t k s : Nat) (blk : Blk) {c : Code} {K : Post'} {fr : List (Nat × SV)} {hp : List (Nat × Blk)} (ht : lk fr t = some (.val (.slice none 0 0))) (hk : find hp k = none) (he : blk.data.empty)
    (hs : SW E c K (adoptF t k s fr) ((k, blk) :: hp)) : SW E c K fr hp := fun a w hR => hs a w (adopt_RR ht hk he hR)

theorem SWx_adopt {E : Env} {t k s : Nat} {c : Code} {K : Post'} {blk : Blk} {fr : List (Nat × SV)} {hp : List (Nat × Blk)} (ht : lk fr t = some (.val (.slice none 0 0))) (hk : find hp k = none) (he : blk.data.empty)
    (hs : SWx E c K (adoptF t k s fr) ((k, blk) :: hp)) : SWx E c K fr hp := ⟨SW_adopt t k s blk ht hk he hs.run⟩

/-- THE LOOP RULE: at its head the state is made small; so is it behind each round. -/
theorem SW_loopN {E : Env} (hE : E.OK) {c : Code} {K : Post'} {fr : List (Nat × SV)} {hp : List (Nat × Blk)} (σ : Nat → Nat) (ts ks : List Nat) (I : Nat → List (Nat × SV) → List (Nat × Blk) → Prop) (m : Nat)
    (h0 : normOK E.fx σ ts ks fr hp = true) (hI : I m (normF σ fr ts) (normH σ hp ks))
    (h : ∀ m fr hp, I m fr hp → cwp E c (fun e fr' hp' => match e with
      | .normal => ∃ m' σ ts ks, m' < m ∧ normOK E.fx σ ts ks fr' hp' = true ∧ I m' (normF σ fr' ts) (normH σ hp' ks)
      | e => K e fr' hp') fr hp) : SWx E (.loop c) K fr hp := by
  refine ⟨?_⟩
  refine SW_norm hE σ ts ks h0 (SW_loop (fun m fr hp => ∃ fr0 hp0, (∀ a w, RR E (fn fr hp) a w → RR E (fn fr0 hp0) a w) ∧ I m fr0 hp0) m ⟨_, _, fun _ _ h => h, hI⟩ ?_)
  rintro m fr hp ⟨fr0, hp0, hw, hI⟩ a w hR
  refine Code.wp_mono ?_ (cwp_sound hE c _ fr0 hp0 (h m fr0 hp0 hI) a w (hw a w hR))
  rintro e a' w' ⟨fr', hp', h1, h2⟩
  cases e with
  | normal =>
    obtain ⟨m', σ, ts, ks, hlt, hok, hI'⟩ := h1
    exact ⟨fr', hp', ⟨m', hlt, _, _, fun a w hR => norm_RR hE hok hR, hI'⟩, h2⟩
  | _ => exact ⟨fr', hp', h1, h2⟩

end Go.Sx
