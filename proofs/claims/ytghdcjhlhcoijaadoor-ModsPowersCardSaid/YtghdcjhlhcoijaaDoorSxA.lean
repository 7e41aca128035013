/- One lexical symbolic run serves every order of a region that draws its order: the abstract theorem. -/
import Derived.Orders
namespace Go.Sx

/-- What a step reads and writes, over locations. -/
structure StepA (L V : Type) where
  rd : L → Bool
  wr : L → Bool
  val : L → V

def StepA.ap {L V : Type} (σ : StepA L V) (s : L → V) : L → V := fun l => if σ.wr l then σ.val l else s l

/-- Two steps touch one location, and one of them writes it. -/
def StepA.conf {L V : Type} (σ τ : StepA L V) : Prop := ∃ l, (σ.wr l = true ∧ (τ.rd l = true ∨ τ.wr l = true)) ∨ (σ.rd l = true ∧ τ.wr l = true)

/-- Operation 'j' waits for 'i', through edges that bind. -/
inductive Waits (ops : Array Oper) : Nat → Nat → Prop
  | one {j : Nat} {o : Oper} {e : Edge} (ho : ops[j]? = some o) (he : e ∈ o.after) (hb : Region.binds .any e = true) : Waits ops j e.on
  | trans {j k i : Nat} (h : Waits ops j k) (h' : Waits ops k i) : Waits ops j i

section
variable {L V : Type} (steps : Nat → StepA L V) (s0 : L → V)

/-- The state after the steps of X, in lexical order, of the first n. -/
def sx (X : Nat → Bool) : Nat → (L → V)
  | 0 => s0
  | n + 1 => if X n then (steps n).ap (sx X n) else sx X n

theorem sx_all {X : Nat → Bool} {l : L} : ∀ m, (∀ j, j < m → (steps j).wr l = true → X j = true) → sx steps s0 X m l = sx steps s0 (fun _ => true) m l
  | 0, _ => rfl
  | m + 1, h => by
    have ih := sx_all m (fun j hj => h j (by omega))
    simp only [sx, if_true]
    by_cases hx : X m = true
    · simp only [hx, if_true, StepA.ap]; rw [ih]
    · simp only [hx]
      have hw : (steps m).wr l ≠ true := fun hw => hx (h m (by omega) hw)
      simp only [StepA.ap, hw, if_false, Bool.false_eq_true]; exact ih

theorem sx_none {X : Nat → Bool} {l : L} (m : Nat) : ∀ n, m ≤ n → (∀ j, m ≤ j → j < n → (steps j).wr l = true → X j = false) → sx steps s0 X n l = sx steps s0 X m l
  | 0, hm, _ => by obtain rfl : m = 0 := by omega
                   rfl
  | n + 1, hm, h => by
    by_cases hmn : m = n + 1
    · subst hmn; rfl
    · have ih := sx_none m n (by omega) (fun j h1 h2 => h j h1 (by omega))
      simp only [sx]
      by_cases hx : X n = true
      · simp only [hx, if_true, StepA.ap]
        have hw : (steps n).wr l ≠ true := fun hw => by have := h n (by omega) (by omega) hw; rw [hx] at this; cases this
        simp only [hw, if_false, Bool.false_eq_true]; exact ih
      · simp only [hx]; exact ih

theorem sx_congr {X Y : Nat → Bool} {l : L} : ∀ n, (∀ j, j < n → (steps j).wr l = true → X j = Y j) → sx steps s0 X n l = sx steps s0 Y n l
  | 0, _ => rfl
  | n + 1, h => by
    have ih := sx_congr n (fun j hj => h j (by omega))
    simp only [sx]
    by_cases hw : (steps n).wr l = true
    · rw [h n (by omega) hw]
      split
      · simp only [StepA.ap, hw, if_true]
      · exact ih
    · have e : ∀ (b : Bool) (f : L → V), (if b then (steps n).ap f else f) l = f l := by
        intro b f
        cases b
        · rfl
        · simp only [if_true, StepA.ap, hw, if_false, Bool.false_eq_true]
      rw [e, e]; exact ih
end

theorem filter_lt {p q : Nat → Bool} {i : Nat} : ∀ l : List Nat, i ∈ l → p i = true → (∀ j, q j = (p j && !(j == i))) → (l.filter q).length < (l.filter p).length := by
  have hle : ∀ l : List Nat, (∀ j, q j = (p j && !(j == i))) → (l.filter q).length ≤ (l.filter p).length := by
    intro l hq
    induction l with
    | nil => simp
    | cons a l ih =>
      simp only [List.filter_cons, hq a]
      cases p a <;> cases (a == i) <;> simp <;> omega
  intro l hi hp hq
  induction l with
  | nil => cases hi
  | cons a l ih =>
    by_cases ha : a = i
    · subst ha
      have := hle l hq
      simp only [List.filter_cons, hq a, hp]
      simp
      omega
    · have hm : i ∈ l := by
        rcases List.mem_cons.1 hi with h | h
        · exact absurd h.symm ha
        · exact h
      have := ih hm
      simp only [List.filter_cons, hq a]
      have hb : (a == i) = false := by simpa using ha
      rw [hb]
      cases p a <;> simp <;> omega

section
variable {L V : Type} {P : Program} {ops : Array Oper} {Q : Exit → Act → World → Prop} {Rel : (L → V) → Act → World → Prop} {steps : Nat → StepA L V} {s0 : L → V}

def isListed (listed : Array Bool) : Nat → Bool := fun j => listed.getD j false

theorem any_order_aux
    (hexec : ∀ i, i < ops.size → ∀ s', (∀ l, ((steps i).rd l = true ∨ (steps i).wr l = true) → s' l = sx steps s0 (fun _ => true) i l) → ∀ a w, Rel s' a w → wpOp P ops Q i (Rel ((steps i).ap s')) a w)
    (hconf : ∀ i j, i < j → j < ops.size → (steps i).conf (steps j) → Waits ops j i)
    (hedge : ∀ (i : Nat) (o : Oper), ops[i]? = some o → ∀ e ∈ o.after, Region.binds .any e = true → e.on < i)
    (hfin : ∀ a w, Rel (sx steps s0 (fun _ => true) ops.size) a w → Q .normal a w) :
    ∀ (fuel : Nat) (listed : Array Bool), listed.size = ops.size →
      (∀ j, isListed listed j = true → ∀ i, Waits ops j i → isListed listed i = true) →
      ((List.range ops.size).filter (fun j => !isListed listed j)).length ≤ fuel →
      ∀ a w, Rel (sx steps s0 (isListed listed) ops.size) a w → wpAny P .any ops Q fuel listed a w := by
  -- when nothing is ready all is listed
  have hready : ∀ listed : Array Bool, listed.size = ops.size → Region.ready .any ops listed = [] → ∀ j, j < ops.size → isListed listed j = true := by
    intro listed hsz hr j
    induction j using Nat.strongRecOn with
    | _ j ih =>
      intro hj
      refine Classical.byContradiction fun hn => ?_
      have hmem : j ∈ Region.ready .any ops listed := by
        rw [mem_ready]
        refine ⟨?_, ops[j], by simp [hj], fun e he hb => ?_⟩
        · have hl : j < listed.size := by omega
          simp only [isListed, Bool.not_eq_true] at hn
          simpa [hl] using hn
        · have hlt := hedge j ops[j] (by simp [hj]) e he hb
          exact ih e.on hlt (by omega)
      rw [hr] at hmem
      cases hmem
  have hdone : ∀ listed : Array Bool, listed.size = ops.size → Region.ready .any ops listed = [] → ∀ a w, Rel (sx steps s0 (isListed listed) ops.size) a w → Q .normal a w := by
    intro listed hsz hr a w hR
    refine hfin a w ?_
    have : sx steps s0 (isListed listed) ops.size = sx steps s0 (fun _ => true) ops.size := by
      funext l
      exact sx_all steps s0 _ (fun j hj _ => hready listed hsz hr j hj)
    rwa [← this]
  intro fuel
  induction fuel with
  | zero =>
    intro listed hsz hcl hcount a w hR
    have hr : Region.ready .any ops listed = [] := by
      refine List.eq_nil_iff_forall_not_mem.2 fun j hj => ?_
      rw [mem_ready] at hj
      obtain ⟨h0, o, ho, _⟩ := hj
      have hlt : j < ops.size := by
        rcases Nat.lt_or_ge j ops.size with h | h
        · exact h
        · simp [Array.getElem?_eq_none h] at ho
      have : j ∈ (List.range ops.size).filter (fun j => !isListed listed j) := by
        simp only [List.mem_filter, List.mem_range, isListed, Bool.not_eq_true']
        refine ⟨hlt, ?_⟩
        have hl : j < listed.size := by omega
        simpa [hl] using h0
      have := List.length_pos_of_mem this
      omega
    exact ⟨hr, hdone listed hsz hr a w hR⟩
  | succ fuel ih =>
    intro listed hsz hcl hcount a w hR
    refine ⟨fun hr => hdone listed hsz hr a w hR, fun i hi => ?_⟩
    have hmr := mem_ready.1 hi
    obtain ⟨h0, o, ho, hall⟩ := hmr
    have hlt : i < ops.size := by
      rcases Nat.lt_or_ge i ops.size with h | h
      · exact h
      · simp [Array.getElem?_eq_none h] at ho
    have hl : i < listed.size := by omega
    have hnot : isListed listed i = false := by
      simp only [isListed]; simpa [hl] using h0
    -- what waits below i is listed
    have hwaits : ∀ j k, Waits ops j k → (j = i ∨ isListed listed j = true) → isListed listed k = true := by
      intro j k hw
      induction hw with
      | @one j o' e ho' he hb =>
        rintro (rfl | hj)
        · rw [ho] at ho'; cases ho'; exact hall e he hb
        · exact hcl j hj _ (.one ho' he hb)
      | trans h h' ih1 ih2 => exact fun hj => ih2 (.inr (ih1 hj))
    have hbefore : ∀ j, j < i → (steps j).conf (steps i) → isListed listed j = true := fun j hj hc => hwaits i j (hconf j i hj hlt hc) (.inl rfl)
    have hafter : ∀ j, i < j → j < ops.size → (steps i).conf (steps j) → isListed listed j = false := by
      intro j hj hjn hc
      cases hjl : isListed listed j with
      | false => rfl
      | true =>
        have := hcl j hjl i (hconf i j hj hjn hc)
        rw [hnot] at this; cases this
    -- the footprint is as in the lexical run
    have hfoot : ∀ l, ((steps i).rd l = true ∨ (steps i).wr l = true) → sx steps s0 (isListed listed) ops.size l = sx steps s0 (fun _ => true) i l := by
      intro l hl'
      rw [sx_none steps s0 i ops.size (by omega) (fun j h1 h2 hw => ?_), sx_all steps s0 i (fun j hj hw => hbefore j hj ⟨l, .inl ⟨hw, hl'⟩⟩)]
      rcases Nat.lt_or_ge i j with h | h
      · refine hafter j h h2 ⟨l, ?_⟩
        rcases hl' with h3 | h3
        · exact .inr ⟨h3, hw⟩
        · exact .inl ⟨h3, .inr hw⟩
      · obtain rfl : i = j := by omega
        exact hnot
    have hstep := hexec i hlt _ hfoot a w hR
    refine wpOp_mono (fun a' w' hR' => ?_) hstep
    have hX : ∀ j, isListed (listed.setIfInBounds i true) j = (if j = i then true else isListed listed j) := by
      intro j
      by_cases hji : j = i
      · subst hji; simp [isListed, hl]
      · rw [if_neg hji]; exact getD_set_ne false (fun h => hji h.symm)
    refine ih _ (by simpa using hsz) ?_ ?_ a' w' ?_
    · intro j hj k hw
      rw [hX] at hj ⊢
      split
      · rfl
      · by_cases hji : j = i
        · exact hwaits j k hw (.inl hji)
        · rw [if_neg hji] at hj; exact hcl j hj k hw
    · have := filter_lt (p := fun j => !isListed listed j) (q := fun j => !isListed (listed.setIfInBounds i true) j) (i := i) (List.range ops.size) (by simpa using hlt) (by simp [hnot]) (fun j => by
        rw [hX]
        by_cases hji : j = i <;> simp [hji])
      omega
    · have : sx steps s0 (isListed (listed.setIfInBounds i true)) ops.size = (steps i).ap (sx steps s0 (isListed listed) ops.size) := by
        funext l
        by_cases hw : (steps i).wr l = true
        · rw [sx_none steps s0 (i + 1) ops.size (by omega) (fun j h1 h2 hwj => ?_)]
          · simp [sx, hX, StepA.ap, hw]
          · rw [hX, if_neg (by omega)]
            exact hafter j (by omega) h2 ⟨l, .inl ⟨hw, .inr hwj⟩⟩
        · simp only [StepA.ap, hw, if_false, Bool.false_eq_true]
          refine sx_congr steps s0 _ fun j _ hwj => ?_
          rw [hX, if_neg]
          rintro rfl
          exact hw hwj
      rw [this]
      exact hR'

/-- ONE LEXICAL RUN SERVES EVERY ORDER. -/
theorem any_order {id : Nat} (hm : P.follows .mixedOrders = true)
    (hexec : ∀ i, i < ops.size → ∀ s', (∀ l, ((steps i).rd l = true ∨ (steps i).wr l = true) → s' l = sx steps s0 (fun _ => true) i l) → ∀ a w, Rel s' a w → wpOp P ops Q i (Rel ((steps i).ap s')) a w)
    (hconf : ∀ i j, i < j → j < ops.size → (steps i).conf (steps j) → Waits ops j i)
    (hedge : ∀ (i : Nat) (o : Oper), ops[i]? = some o → ∀ e ∈ o.after, Region.binds .any e = true → e.on < i)
    (hfin : ∀ a w, Rel (sx steps s0 (fun _ => true) ops.size) a w → Q .normal a w)
    (a : Act) (w : World) (h : Rel s0 a { w with drawn := w.drawn + 1 }) : (Code.region id ops true).wp P Q a w := by
  refine wp_region_any hm (any_order_aux hexec hconf hedge hfin _ _ (by simp) ?_ ?_ a _ ?_)
  · intro j hj
    exfalso
    revert hj
    simp only [isListed, Array.getD_eq_getD_getElem?, Array.getElem?_replicate]
    split <;> simp
  · refine Nat.le_trans (List.length_filter_le _ _) (by simp)
  · have : sx steps s0 (isListed (Array.replicate ops.size false)) ops.size = s0 := by
      funext l
      refine sx_none steps s0 0 ops.size (by omega) (fun j _ _ _ => ?_)
      simp only [isListed, Array.getD_eq_getD_getElem?, Array.getElem?_replicate]
      split <;> simp
    rw [this]
    exact h
end
end Go.Sx
