/- From a contract to what a law's row asks of a call. -/
import Derived.Test.YtghdcjhlhcoijaaDoorSxR
import Derived.Carry
import Derived.OpenShut
namespace Go.Sx
open Go.ChangeShapes

theorem CallOK.calls {P : Program} {f : FuncId} {args : List SV} {fk : List (Nat × Blk)} {c : SV} {new upd : List (Nat × Blk)} (hf : FnOK P f) (h : CallOK P f args fk c new upd)
    {ρ : Rho} {w : World} {z : List (List Value)} (hz : HasZ ρ args z) (hp : PreW fk new ρ w) :
    Calls P f (List.zipWith mkV args z).toArray w fun e w' => ∃ v ρ', e = .returned v ∧ Post ρ w c new upd v ρ' w' := by
  rcases h with ⟨_, h⟩ | h
  · exact h ρ w z hz hp
  · obtain ⟨v, ρ', w', h1, _⟩ := h ρ w z hz hp
    obtain ⟨fn, hfn, hn, hb⟩ := hf
    have hn' : ¬ fn.name = "runtime.NumGoroutine" := by simpa using hn
    have hb' : ¬ fn.body = none := fun h => by rw [h] at hb; cases hb
    simp [callFunc, hfn, hn', hb'] at h1

theorem cell_of_heap {w W : World} {g : Nat} (h : w.heap[g]? = W.heap[g]?) (j : Nat) : w.cell? ⟨g, j, none⟩ = W.cell? ⟨g, j, none⟩ := by
  simp only [World.cell?, h]

/-- The laid tables stand in a world: so they stand in every world that keeps their blocks. -/
theorem glob_of {W : World} (h : ∀ g kd l, (g, kd, l) ∈ globTabs → l ≠ [] ∧ ∀ j x, l[j]? = some x → W.cell? ⟨g, j, none⟩ = some (.int kd x)) :
    globOK (fun b => if globTabs.any (fun t => t.1 == b) then W.heap[b]? else none) := by
  intro g kd l hm
  obtain ⟨hne, hc⟩ := h g kd l hm
  have hin : globTabs.any (fun t => t.1 == g) = true := List.any_eq_true.2 ⟨_, hm, by simp⟩
  cases l with
  | nil => exact absurd rfl hne
  | cons x l =>
    have h0 := hc 0 x rfl
    cases ho : W.heap[g]? with
    | none => simp [World.cell?, ho] at h0
    | some o =>
      refine ⟨o, by simp [hin, ho], fun w hw j y hy => ?_⟩
      rw [cell_of_heap (W := W) (by rw [hw, ho]) j]
      exact hc j y hy

/-- The map with which a law's walk begins: the tables, and the keys. -/
def startRho {W : World} (h : ∀ g kd l, (g, kd, l) ∈ globTabs → l ≠ [] ∧ ∀ j x, l[j]? = some x → W.cell? ⟨g, j, none⟩ = some (.int kd x)) (key : Nat → Option (Nat × Nat)) : Rho := ⟨key, _, glob_of h⟩

/-- A law's call, from its contract. -/
theorem law_run {P : Program} {f : FuncId} {args : List SV} {fk : List (Nat × Blk)} {W : World} (hf : FnOK P f) (h : CallOK P f args fk (.val (.bool true)) [] [])
    (hg : ∀ g kd l, (g, kd, l) ∈ globTabs → l ≠ [] ∧ ∀ j x, l[j]? = some x → W.cell? ⟨g, j, none⟩ = some (.int kd x)) (key : Nat → Option (Nat × Nat)) {z : List (List Value)}
    (hz : HasZ (startRho hg key) args z) (hk : ∀ k b, (k, b) ∈ fk → b.wr = false ∧ BlkOK (startRho hg key) W k b) :
    Calls P f (List.zipWith mkV args z).toArray W fun e w' => e = .returned (.bool true) ∧ RowKit.Below W.heap.size W w' := by
  refine (h.calls hf hz ⟨fun k b hb => (hk k b hb).2, fun k k' x x' b b' hb _ _ _ _ _ _ _ => (hk k b hb).1, fun b o hb => ?_, fun k b x hb hw => ?_, fun k b hb => by cases hb⟩).mono ?_
  · simp only [startRho] at hb
    split at hb
    · exact hb
    · cases hb
  · rw [(hk k b hb).1] at hw; cases hw
  · rintro e w' ⟨v, ρ', rfl, hp⟩
    refine ⟨by rw [of_has_val hp.has], ?_⟩
    exact (hp.pres.mono (W' := fun _ => False) (fun b _ ⟨k, blk, t, hm, _⟩ => by cases hm)).below

theorem trodAll_stays {H : Type} {enc : TypeId × Value → H} {P : Program} (hl : laidOutB P = true) {W W' : World} (hb : RowKit.Below W.heap.size W W') :
    ∀ (ts : List TypeId) (vs : List Value) (ds : List (DataW H)) (ps : List MemPlace), ts.all (fun t => P.readableRec t && decide (t < P.types.size)) = true → DataW.TrodAll enc P W 0 (fun _ => true) true ts vs ds ps → (∀ p ∈ ps, p.block < W.heap.size) →
      DataW.TrodAll enc P W' 0 (fun b => decide (b < W.heap.size)) true ts vs ds ps
  | [], [], [], _, _, h, _ => h
  | t :: ts, v :: vs, d :: ds, ps, hr, h, hlt => by
    obtain ⟨p, q, h1, h2, rfl⟩ := h
    simp only [List.all_cons, Bool.and_eq_true, decide_eq_true_eq] at hr
    exact ⟨p, q, RowKit.Below.trod hl hr.1.1 hr.1.2 h1 hb (fun x hx => hlt x (List.mem_append.2 (.inl hx))), trodAll_stays hl hb ts vs ds q hr.2 h2 (fun x hx => hlt x (List.mem_append.2 (.inr hx))), rfl⟩
  | [], _ :: _, _, _, _, h, _ => h.elim
  | [], [], _ :: _, _, _, h, _ => h.elim
  | _ :: _, [], _, _, _, h, _ => h.elim
  | _ :: _, _ :: _, [], _, _, h, _ => h.elim

/-- A law returned true and turned nothing that was there: so its row's end holds. -/
theorem law_post {H : Type} {enc : TypeId × Value → H} {P : Program} {f : Func} {s : ChangeSpec} {W W' : World} {args : Array Value} {ds gs : List (DataW H)} {before : List MemPlace} {tb : TypeId}
    (hl : laidOutB P = true) (hr : f.params.toList.all (fun t => P.readableRec t && decide (t < P.types.size)) = true) (hv : s.vars = []) (hres : f.resultTypes = #[tb]) (htb : P.underlying tb = some .bool)
    (hW : DataW.Whole enc P f.params.toList s.vars false W args.toList ds gs before) (hfn : (s.fn H (ds ++ gs)).results = [.lit (.bool true)] ∧ (s.fn H (ds ++ gs)).args = ds ∧ (s.fn H (ds ++ gs)).vars = [])
    (hb : RowKit.Below W.heap.size W W') : s.post enc P f false true false false W args (.bool true) W' := by
  have hlt := hW.lt
  have hW' := hW
  obtain ⟨p, q, h1, h2, rfl, h3, h4⟩ := hW
  rw [hv] at h2
  obtain ⟨rfl, rfl⟩ := trodVars_none h2
  rw [List.append_nil] at hlt
  refine ⟨ds, [], p ++ [], [], p, [], hW', ?_, ?_, ?_, hb.frame _, fun h => by cases h⟩
  · rw [hfn.1, hres]
    exact trodAll_cons_mk (RowKit.shut_bool htb true) trodAll_mk0
  · rw [hfn.2.1]
    exact trodAll_stays hl hb _ _ _ _ hr h1 hlt
  · rw [hv, hfn.2.2]
    exact rfl
end Go.Sx
