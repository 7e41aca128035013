/- Functions that are handed memory, or hand back new memory. -/
import Derived.Test.YtghdcjhlhcoijaaDoorSxN
namespace Go.Sx

/-- The end of such a function: the result, the blocks that were written, the new ones. -/
def Fin (c : SV) (new upd : List (Nat × Blk)) (sv : SV) (hp : List (Nat × Blk)) : Prop :=
  Recast sv c ∧ (∀ k b, (k, b) ∈ new → find hp k = some b) ∧ (∀ k b, (k, b) ∈ upd → find hp k = some b)

def allWr : List (Nat × Blk) → Bool
  | [] => true
  | (_, b) :: r => (b.wr && b.data.live) && allWr r

def refsB : List (Nat × Blk) → List Nat
  | [] => []
  | (_, b) :: r => refsD b.data ++ refsB r

def nodupN : List Nat → Bool
  | [] => true
  | x :: r => !(memN x r) && nodupN r

/-- What can be seen from the contract's text alone. -/
structure ShapeOK (args : List SV) (fk : List (Nat × Blk)) (c : SV) (new upd : List (Nat × Blk)) : Prop where
  argr : subN (refsL args) (keysOf fk) = true
  fkr : subN (refsB fk) (keysOf fk) = true
  nd : nodupN (keysOf fk ++ keysOf new) = true
  newW : allWr new = true
  updW : allWr upd = true
  updK : ∀ k b, (k, b) ∈ upd → ∃ b0, (k, b0) ∈ fk ∧ b0.wr = true ∧ b0.data.live = true
  updAll : ∀ k b, (k, b) ∈ fk → b.wr = true → b.data.live = true → ∃ b', (k, b') ∈ upd
  cr : subN (refs c) (keysOf fk ++ keysOf new) = true
  nr : subN (refsB new) (keysOf fk ++ keysOf new) = true
  ur : subN (refsB upd) (keysOf fk ++ keysOf new) = true
  pass : args.all passable = true

/-- The outer names of the keys. -/
structure NamesOK (fk new : List (Nat × Blk)) (σ : Nat → Nat) : Prop where
  inj : ∀ q q' b b', (q, b) ∈ fk → (q', b') ∈ fk → q ≠ q' → b.wr = true → σ q ≠ σ q'
  newInj : ∀ m m', m ∈ keysOf new → m' ∈ keysOf new → m ≠ m' → σ m ≠ σ m'
  newOld : ∀ m q, m ∈ keysOf new → q ∈ keysOf fk → σ m ≠ σ q

theorem nodupN_spec : ∀ {l : List Nat}, nodupN l = true → l.Nodup
  | [], _ => List.nodup_nil
  | x :: r, h => by
    simp only [nodupN, Bool.and_eq_true, Bool.not_eq_true', ← Bool.not_eq_true, memN_iff] at h
    exact List.nodup_cons.2 ⟨h.1, nodupN_spec h.2⟩

theorem keysOf_map (l : List (Nat × Blk)) : keysOf l = l.map (·.1) := by
  induction l with
  | nil => rfl
  | cons x l ih => obtain ⟨k, b⟩ := x; simp [keysOf, ih]

theorem keysOf_append (a b : List (Nat × Blk)) : keysOf (a ++ b) = keysOf a ++ keysOf b := by simp [keysOf_map]

theorem find_of_mem : ∀ {l : List (Nat × Blk)} {k : Nat} {b : Blk}, (keysOf l).Nodup → (k, b) ∈ l → find l k = some b
  | (j, c) :: r, k, b, hn, hm => by
    simp only [keysOf, List.nodup_cons] at hn
    simp only [find]
    rcases List.mem_cons.1 hm with h | h
    · cases h; simp [Nat.beq_refl]
    · have hne : j ≠ k := by rintro rfl; exact hn.1 (keysOf_mem.2 ⟨b, h⟩)
      cases hb : Nat.beq j k with
      | true => exact absurd (Nat.eq_of_beq_eq_true hb) hne
      | false => exact find_of_mem hn.2 h

theorem allWr_spec : ∀ {l : List (Nat × Blk)}, allWr l = true → ∀ k b, (k, b) ∈ l → b.wr = true ∧ b.data.live = true
  | (j, c) :: r, h, k, b, hm => by
    simp only [allWr, Bool.and_eq_true] at h
    rcases List.mem_cons.1 hm with h1 | h1
    · cases h1; exact h.1
    · exact allWr_spec h.2 k b h1

theorem refsB_mem : ∀ {l : List (Nat × Blk)} {k : Nat} {b : Blk}, (k, b) ∈ l → ∀ x ∈ refsD b.data, x ∈ refsB l
  | (j, c) :: r, k, b, hm, x, hx => by
    simp only [refsB, List.mem_append]
    rcases List.mem_cons.1 hm with h1 | h1
    · cases h1; exact .inl hx
    · exact .inr (refsB_mem h1 x hx)

theorem renH_mem {σ : Nat → Nat} : ∀ {l : List (Nat × Blk)} {k : Nat} {b : Blk}, (k, b) ∈ renH σ l ↔ ∃ q b0, (q, b0) ∈ l ∧ k = σ q ∧ b = renB σ b0
  | [], k, b => by simp [renH]
  | (j, c) :: r, k, b => by
    simp only [renH, List.mem_cons, Prod.mk.injEq, renH_mem (l := r)]
    constructor
    · rintro (⟨rfl, rfl⟩ | ⟨q, b0, h1, h2, h3⟩)
      · exact ⟨j, c, .inl ⟨rfl, rfl⟩, rfl, rfl⟩
      · exact ⟨q, b0, .inr h1, h2, h3⟩
    · rintro ⟨q, b0, ⟨rfl, rfl⟩ | h1, h2, h3⟩
      · exact .inl ⟨h2, h3⟩
      · exact .inr ⟨q, b0, h1, h2, h3⟩

/-- THE CONTRACT of a function that is handed memory or hands back new memory. Inside, keys are numerals; outside, whatever the caller names them. -/
theorem callK {P : Program} {T : List (TypeId × TI)} (hT : TabOK P T) (hm : P.follows .mixedOrders = true) {f : FuncId} {fn' : Func} {code : Code} (hf : P.funcs[f]? = some fn') (hb : fn'.body = some code)
    (hn : (fn'.name == "runtime.NumGoroutine") = false) {args : List SV} {fk : List (Nat × Blk)} {c : SV} {new upd : List (Nat × Blk)} (hs : ShapeOK args fk c new upd) (hnt : Nat.ble args.length fn'.ntmps = true)
    (σ : Nat → Nat) (hσ : NamesOK fk new σ)
    (h : ∀ W0 w0 ρ0, Env.OK ⟨P, T, W0, w0, fn'.ntmps, ρ0, keysOf fk⟩ → cwp ⟨P, T, W0, w0, fn'.ntmps, ρ0, keysOf fk⟩ code (Ret T fn'.results.toList (Fin c new upd)) (enum 0 args) fk) :
    CallOK P f (renL σ args) (renH σ fk) (renS σ c) (renH σ new) (renH σ upd) := by
  have hnt' := Nat.le_of_ble_eq_true hnt
  refine .inl ⟨⟨fn', hf, hn, by rw [hb]; rfl⟩, fun ρ w z hz hpw => ?_⟩
  have hnd := nodupN_spec hs.nd
  have hndf : (keysOf fk).Nodup := (List.nodup_append.1 hnd).1
  have hndn : (keysOf new).Nodup := (List.nodup_append.1 hnd).2.1
  have hdisj : ∀ m ∈ keysOf new, m ∉ keysOf fk := fun m hm hq => (List.nodup_append.1 hnd).2.2 m hq m hm rfl
  let ρ1 : Rho := ⟨fun q => if q ∈ keysOf fk then ρ.key (σ q) else none, ρ.imm, ρ.glob⟩
  have hρ1 : ∀ q ∈ keysOf fk, ρ.key (σ q) = ρ1.key q := fun q hq => by
    show _ = if q ∈ keysOf fk then _ else _
    rw [if_pos hq]
  have hρ1' : ∀ q x, ρ1.key q = some x → q ∈ keysOf fk := fun q x hx => by
    have hx : (if q ∈ keysOf fk then ρ.key (σ q) else none) = some x := hx
    by_cases hq : q ∈ keysOf fk
    · exact hq
    · rw [if_neg hq] at hx; cases hx
  let W0 : Nat → Prop := fun b => ∃ q blk t, (q, blk) ∈ upd ∧ ρ1.key q = some (b, t)
  let E : Env := ⟨P, T, W0, w, fn'.ntmps, ρ1, keysOf fk⟩
  have hE : E.OK := ⟨hT, hm, hρ1'⟩
  have hargr := subN_spec hs.argr
  have hz1 : HasZ ρ1 args z := (renL_iff (ρ := ρ1) (ρ' := ρ) (σ := σ) rfl args z (fun k hk => hρ1 k (hargr k hk))).1 hz
  have hzl : z.length = args.length := HasZ_length hz1
  have hget : ∀ (l : List SV) (y : List (List Value)), HasZ ρ1 l y → l.all passable = true → ∀ (j : Nat) (c : SV), l[j]? = some c → ∃ v, (List.zipWith mkV l y)[j]? = some v ∧ Has ρ1 c v := by
    intro l
    induction l with
    | nil => intro y _ _ j c h; simp at h
    | cons d l ih =>
      intro y hy hp j c hj
      simp only [HasZ] at hy
      obtain ⟨x, r, rfl, g1, g2⟩ := hy
      simp only [List.all_cons, Bool.and_eq_true] at hp
      cases j with
      | zero =>
        simp at hj
        subst hj
        exact ⟨mkV d x, by simp, (Has_iff hp.1).2 ⟨x, g1, rfl⟩⟩
      | succ j => simpa using ih r g2 hp.2 j c (by simpa using hj)
  have hsize : ((List.zipWith mkV args z).toArray ++ Array.replicate (fn'.ntmps - (List.zipWith mkV args z).toArray.size) undef).size = fn'.ntmps := by
    simp [hzl]
    omega
  have hfkr := subN_spec hs.fkr
  have hmemf : ∀ k b, find fk k = some b → (k, b) ∈ fk := fun k b hb => find_mem hb
  have hR : R E.W0 E.w0 E.n ρ1 (fn (enum 0 args) fk) { tmps := (List.zipWith mkV args z).toArray ++ Array.replicate (fn'.ntmps - (List.zipWith mkV args z).toArray.size) undef, defers := [] } w := {
    defers := rfl
    size := hsize
    fr := fun t sv ht => by
      simp only [fn, LV.sv] at ht
      obtain ⟨_, h2⟩ := lk_enum args 0 t sv ht
      obtain ⟨v, h3, h4⟩ := hget args z hz1 hs.pass t sv (by simpa using h2)
      have hlt : t < (List.zipWith mkV args z).length := (List.getElem?_eq_some_iff.1 h3).1
      have : ((List.zipWith mkV args z).toArray ++ Array.replicate (fn'.ntmps - (List.zipWith mkV args z).toArray.size) undef).getD t undef = v := by
        rw [Array.getD_eq_getD_getElem?, Array.getElem?_append_left (by simpa using hlt)]
        simp [h3]
      rw [this]; exact h4
    pres := .refl _ _
    hp := {
      blk := fun k b hb => by
        have hm := hmemf k b hb
        have := hpw.hfk (σ k) (renB σ b) (renH_mem.2 ⟨k, b, hm, rfl, rfl⟩)
        exact (renB_iff (ρ := ρ1) (ρ' := ρ) (σ := σ) rfl k b (hρ1 k (keysOf_mem.2 ⟨b, hm⟩)) (fun j hj => hρ1 j (hfkr j (refsB_mem hm j hj)))).1 this
      sep := fun k k' x x' b b' hx hx' hne he hb hb' hl hl' => by
        have hm := hmemf k b hb
        have hm' := hmemf k' b' hb'
        have hkx : ρ.key (σ k) = some x := by rw [hρ1 k (keysOf_mem.2 ⟨b, hm⟩)]; exact hx
        have hkx' : ρ.key (σ k') = some x' := by rw [hρ1 k' (keysOf_mem.2 ⟨b', hm'⟩)]; exact hx'
        cases hw : b.wr with
        | false => rfl
        | true =>
          have := hpw.sep (σ k) (σ k') x x' (renB σ b) (renB σ b') (renH_mem.2 ⟨k, b, hm, rfl, rfl⟩) (renH_mem.2 ⟨k', b', hm', rfl, rfl⟩) hkx hkx' (hσ.inj k k' b b' hm hm' hne hw) he (by rw [renB, renD_live]; exact hl) (by rw [renB, renD_live]; exact hl')
          rw [renB] at this
          rw [hw] at this; exact this
      own := fun k b x hb hw hl hx => by
        have hm := hmemf k b hb
        obtain ⟨b', hu⟩ := hs.updAll k b hm hw hl
        exact .inr ⟨k, b', x.2, hu, hx⟩
      dom := fun k x hx => by
        obtain ⟨b, hb⟩ := keysOf_mem.1 (hρ1' k x hx)
        exact ⟨b, by simp only [fn, LV.blk]; exact find_of_mem hndf hb⟩
      imm := hpw.imm
      immw := fun k b x hb hw hl hx => by
        have hm := hmemf k b hb
        have hkx : ρ.key (σ k) = some x := by rw [hρ1 k (keysOf_mem.2 ⟨b, hm⟩)]; exact hx
        exact hpw.immw (σ k) (renB σ b) x (renH_mem.2 ⟨k, b, hm, rfl, rfl⟩) hw (by rw [renB, renD_live]; exact hl) hkx } }
  have hwp := cwp_sound hE code _ _ _ (h E.W0 w ρ1 hE) _ w ⟨ρ1, ⟨.refl _, (fun b o hb => .inl hb), (fun _ _ => rfl)⟩, (fun k hk => by
    obtain ⟨b, hb⟩ := keysOf_mem.1 hk
    simp only [fn, LV.blk, find_of_mem hndf hb]
    simp), hR⟩
  rw [zip_ren]
  refine calls_of_wp hf hb (Code.wp_mono ?_ hwp)
  rintro e a' w' ⟨fr', hp', hK, ρ', hext, _, hR'⟩
  have fin : ∀ ob l, retAll T fr' hp' fn'.results.toList = some (ob, l) → obP ob → Fin c new upd (retSV l) hp' → a'.defers = [] ∧ ∃ v, (results fn' a'.tmps).run P w' = .ok v w' ∧ ∃ v' ρ'', Ending.returned v = .returned v' ∧ Post ρ w (renS σ c) (renH σ new) (renH σ upd) v' ρ'' w' := by
    rintro ob l h1 h2 ⟨h3, hnew, hupd⟩
    obtain ⟨v, r1, r2⟩ := results_run hE hR' h1 h2
    let ρ2 : Rho := ⟨fun k => match (keysOf new).find? (fun m => σ m == k) with
      | some m => ρ'.key m
      | none => ρ.key k, ρ'.imm, ρ'.glob⟩
    have k2new : ∀ m ∈ keysOf new, ρ2.key (σ m) = ρ'.key m := by
      intro m hm
      show (match (keysOf new).find? (fun j => σ j == σ m) with | some m => ρ'.key m | none => ρ.key (σ m)) = ρ'.key m
      cases hfd : (keysOf new).find? (fun j => σ j == σ m) with
      | none => have := List.find?_eq_none.1 hfd m hm; simp at this
      | some j =>
        have hj := List.mem_of_find?_eq_some hfd
        have hjs := List.find?_some hfd
        have : j = m := Classical.byContradiction fun hne => hσ.newInj j m hj hm hne (by simpa using hjs)
        rw [this]
    have k2old : ∀ k, (∀ m ∈ keysOf new, σ m ≠ k) → ρ2.key k = ρ.key k := by
      intro k hk
      show (match (keysOf new).find? (fun j => σ j == k) with | some m => ρ'.key m | none => ρ.key k) = ρ.key k
      cases hfd : (keysOf new).find? (fun j => σ j == k) with
      | none => rfl
      | some j => exact absurd (by simpa using List.find?_some hfd) (hk j (List.mem_of_find?_eq_some hfd))
    have k2 : ∀ q ∈ keysOf fk ++ keysOf new, ρ2.key (σ q) = ρ'.key q := by
      intro q hq
      rcases List.mem_append.1 hq with hq | hq
      · rw [k2old (σ q) (fun m hm => hσ.newOld m q hm hq), hρ1 q hq, hext.fix q hq]
      · exact k2new q hq
    have hfresh : ∀ m ∈ keysOf new, ρ.key (σ m) = none := by
      intro m hm
      obtain ⟨b, hb⟩ := keysOf_mem.1 hm
      exact hpw.fresh (σ m) (renB σ b) (renH_mem.2 ⟨m, b, hb, rfl, rfl⟩)
    have hnewW := allWr_spec hs.newW
    have hupdW := allWr_spec hs.updW
    have hnr := subN_spec hs.nr
    have hur := subN_spec hs.ur
    have hcr := subN_spec hs.cr
    have updlive : ∀ q b, (q, b) ∈ upd → q ∈ keysOf fk := fun q b hq => by
      obtain ⟨b0, h1, _⟩ := hs.updK q b hq
      exact keysOf_mem.2 ⟨b0, h1⟩
    refine ⟨hR'.defers, v, r1, v, ρ2, rfl, ⟨⟨fun k x hx => ?_, fun b o hb => hext.le.imm b o hb⟩, ?_, fun k hk => ?_, ?_, ?_, ?_, ?_, ?_, ?_⟩⟩
    · rw [k2old k]
      · exact hx
      · rintro m hm rfl
        rw [hfresh m hm] at hx; cases hx
    · exact (ren_has (ρ := ρ') (ρ' := ρ2) (σ := σ) rfl c v (fun k hk => k2 k (hcr k hk))).2 (h3 ρ' v r2)
    · refine k2old k fun m hm he => ?_
      obtain ⟨b, hb⟩ := keysOf_mem.1 hm
      exact hk (renB σ b) (renH_mem.2 ⟨m, b, hb, he.symm, rfl⟩)
    · refine hR'.pres.mono (fun b _ hb => ?_)
      obtain ⟨q, blk, t, hq, hx⟩ := hb
      refine ⟨σ q, renB σ blk, t, renH_mem.2 ⟨q, blk, hq, rfl, rfl⟩, ?_⟩
      rw [hρ1 q (updlive q blk hq)]; exact hx
    · intro k b hk
      rcases hk with hk | hk
      · obtain ⟨q, b0, hq, rfl, rfl⟩ := renH_mem.1 hk
        exact (renB_iff (ρ := ρ') (ρ' := ρ2) (σ := σ) rfl q b0 (k2 q (List.mem_append.2 (.inl (updlive q b0 hq)))) (fun j hj => k2 j (hur j (refsB_mem hq j hj)))).2 (hR'.hp.blk q b0 (by simp only [fn, LV.blk]; exact hupd q b0 hq))
      · obtain ⟨q, b0, hq, rfl, rfl⟩ := renH_mem.1 hk
        exact (renB_iff (ρ := ρ') (ρ' := ρ2) (σ := σ) rfl q b0 (k2 q (List.mem_append.2 (.inr (keysOf_mem.2 ⟨b0, hq⟩)))) (fun j hj => k2 j (hnr j (refsB_mem hq j hj)))).2 (hR'.hp.blk q b0 (by simp only [fn, LV.blk]; exact hnew q b0 hq))
    · intro k b b' hk _ hl _
      obtain ⟨q, b0, hq, rfl, rfl⟩ := renH_mem.1 hk
      rw [renB, renD_live] at hl
      rw [(hupdW q b0 hq).2] at hl; cases hl
    · intro k b x hk hx
      obtain ⟨m, b0, hm, rfl, rfl⟩ := renH_mem.1 hk
      rw [k2new m (keysOf_mem.2 ⟨b0, hm⟩)] at hx
      have hfm : (fn fr' hp' (.k m)).blk = some b0 := by simp only [fn, LV.blk]; exact hnew m b0 hm
      rcases hR'.hp.own m b0 x hfm (hnewW m b0 hm).1 (hnewW m b0 hm).2 hx with h4 | ⟨q, bu, t, hq, hxq⟩
      · exact .inl h4
      · exfalso
        have hqf := updlive q bu hq
        have hne : m ≠ q := fun he => hdisj m (keysOf_mem.2 ⟨b0, hm⟩) (he ▸ hqf)
        have hxq' : ρ'.key q = some (x.1, t) := by rw [hext.fix q hqf]; exact hxq
        have := hR'.hp.sep m q x (x.1, t) b0 bu hx hxq' hne rfl hfm (by simp only [fn, LV.blk]; exact hupd q bu hq) (hnewW m b0 hm).2 (hupdW q bu hq).2
        rw [(hnewW m b0 hm).1] at this; cases this
    · intro k b k' b' x x' hk hk' hne hx hx' he
      obtain ⟨m, b0, hm, rfl, rfl⟩ := renH_mem.1 hk
      obtain ⟨m', b0', hm', rfl, rfl⟩ := renH_mem.1 hk'
      rw [k2new m (keysOf_mem.2 ⟨b0, hm⟩)] at hx
      rw [k2new m' (keysOf_mem.2 ⟨b0', hm'⟩)] at hx'
      have := hR'.hp.sep m m' x x' b0 b0' hx hx' (fun h => hne (by rw [h])) he (by simp only [fn, LV.blk]; exact hnew m b0 hm) (by simp only [fn, LV.blk]; exact hnew m' b0' hm') (hnewW m b0 hm).2 (hnewW m' b0' hm').2
      rw [(hnewW m b0 hm).1] at this; cases this
    · intro b o hb
      rcases hext.imm b o hb with h4 | h4
      · exact .inl h4
      · refine .inr ⟨h4, hR'.hp.imm b o hb, fun k blk x hk hx he => ?_⟩
        obtain ⟨m, b0, hm, rfl, rfl⟩ := renH_mem.1 hk
        rw [k2new m (keysOf_mem.2 ⟨b0, hm⟩)] at hx
        have := hR'.hp.immw m b0 x (by simp only [fn, LV.blk]; exact hnew m b0 hm) (hnewW m b0 hm).1 (hnewW m b0 hm).2 hx
        rw [he] at this
        have hb' : ρ'.imm b = some o := hb
        rw [hb'] at this; cases this
  cases e <;> simp only [Ret] at hK <;> simp only [bodyPost]
  · split at hK
    · rename_i ob l hl; exact fin ob l hl (req_spec hK).1 (req_spec hK).2
    · exact hK.elim
  · split at hK
    · rename_i ob l hl; exact fin ob l hl (req_spec hK).1 (req_spec hK).2
    · exact hK.elim

/-- A block, its mark of being writable struck. -/
def ro (b : Blk) : Blk := ⟨b.ty, false, b.data⟩

/-- What only reads takes writable blocks too. -/
theorem PreW.ro {ρ : Rho} {w : World} {fk new : List (Nat × Blk)} (hp : PreW fk new ρ w) : PreW (fk.map fun x => (x.1, ro x.2)) new ρ w := by
  refine ⟨fun k b hk => ?_, fun k k' x x' b b' hk _ _ _ _ _ _ _ => ?_, hp.imm, fun k b x hk hw => ?_, hp.fresh⟩
  · obtain ⟨⟨q, b0⟩, hq, he⟩ := List.mem_map.1 hk
    cases he
    exact hp.hfk q b0 hq
  · obtain ⟨⟨q, b0⟩, hq, he⟩ := List.mem_map.1 hk
    cases he
    rfl
  · obtain ⟨⟨q, b0⟩, hq, he⟩ := List.mem_map.1 hk
    cases he
    cases hw

theorem CallOK.anyWr {P : Program} {f : FuncId} {args : List SV} {fk : List (Nat × Blk)} {c : SV} {new : List (Nat × Blk)} (h : CallOK P f args (fk.map fun x => (x.1, ro x.2)) c new []) : CallOK P f args fk c new [] := by
  rcases h with ⟨h1, h2⟩ | h
  · exact .inl ⟨h1, fun ρ w z hz hp => h2 ρ w z hz hp.ro⟩
  · exact .inr fun ρ w z hz hp => h ρ w z hz hp.ro

end Go.Sx
