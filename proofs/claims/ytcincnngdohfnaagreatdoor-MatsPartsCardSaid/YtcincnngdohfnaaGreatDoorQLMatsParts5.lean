/- MatsParts returns true for every input and leaves its arguments as they were: the row, and the card that ties its tables to the program's text. -/
import Derived.Test.YtcincnngdohfnaaGreatDoorCards
import Derived.Test.YtcincnngdohfnaaGreatDoorTie
import Derived.WalkKit
import Derived.ProofKit
import Derived.OpenShut
import Derived.Deep.DeepHandedRow
import Derived.Lib.LaidTab
import Derived.Test.YtcincnngdohfnaaGreatDoorQLMatsParts4
namespace Go.Sx
set_option linter.unusedSimpArgs false
set_option linter.unusedVariables false
theorem addKey_RR {E : Env} {k : Nat} {blk : Blk} {fr : List (Nat × SV)} {hp : List (Nat × Blk)} (hk : find hp k = none) (he : blk.data.empty) {a : Act} {w : World} (hR : RR E (fn fr hp) a w) :
    RR E (fn fr ((k, blk) :: hp)) a w := by
  obtain ⟨ρ, hext, hfx, hR⟩ := hR
  have hkn : ρ.key k = none := by
    cases hx : ρ.key k with
    | none => rfl
    | some x =>
      obtain ⟨b, hb⟩ := hR.hp.dom k x hx
      simp only [fn, LV.blk, hk] at hb
      cases hb
  have hblk : ∀ j b, (fn fr ((k, blk) :: hp) (.k j)).blk = some b → (j = k ∧ b = blk) ∨ (j ≠ k ∧ (fn fr hp (.k j)).blk = some b) := by
    intro j b hb
    simp only [fn, LV.blk, find] at hb ⊢
    cases hj : Nat.beq k j with
    | true => rw [hj] at hb; simp only [Option.some.injEq] at hb; exact .inl ⟨(Nat.eq_of_beq_eq_true hj).symm, hb.symm⟩
    | false => rw [hj] at hb; exact .inr ⟨by rintro rfl; simp [Nat.beq_refl] at hj, hb⟩
  have hne : ∀ j x, ρ.key j = some x → j ≠ k := fun j x hx h => by rw [h, hkn] at hx; cases hx
  refine ⟨ρ, hext, fun j hj => ?_, { defers := hR.defers, size := hR.size, fr := fun u sv hu => hR.fr u sv hu, pres := hR.pres, hp := ?_ }⟩
  · have := hfx j hj
    simp only [fn, LV.blk, find] at this ⊢
    cases hb : Nat.beq k j with
    | true => simp
    | false => exact this
  · constructor
    · intro j b hb
      rcases hblk j b hb with ⟨rfl, rfl⟩ | ⟨_, h1⟩
      · exact .inr (.inr ⟨hkn, he⟩)
      · exact hR.hp.blk j b h1
    · intro j j' x x' b b' hx hx' hn hxe hb hb'
      rcases hblk j b hb with ⟨h1, _⟩ | ⟨_, h1⟩
      · exact absurd h1 (hne j x hx)
      · rcases hblk j' b' hb' with ⟨h2, _⟩ | ⟨_, h2⟩
        · exact absurd h2 (hne j' x' hx')
        · exact hR.hp.sep j j' x x' b b' hx hx' hn hxe h1 h2
    · intro j b x hb hw hl hx
      rcases hblk j b hb with ⟨h1, _⟩ | ⟨_, h1⟩
      · exact absurd h1 (hne j x hx)
      · exact hR.hp.own j b x h1 hw hl hx
    · intro j x hx
      obtain ⟨b, hb⟩ := hR.hp.dom j x hx
      have := hne j x hx
      refine ⟨b, ?_⟩
      simp only [fn, LV.blk, find] at hb ⊢
      cases hj : Nat.beq k j with
      | true => exact absurd (Nat.eq_of_beq_eq_true hj).symm this
      | false => exact hb
    · exact hR.hp.imm
    · intro j b x hb hw hl hx
      rcases hblk j b hb with ⟨h1, _⟩ | ⟨_, h1⟩
      · exact absurd h1 (hne j x hx)
      · exact hR.hp.immw j b x h1 hw hl hx

/-- A block's contents told in other words. -/
theorem retell_RR {E : Env} {j : Nat} {ty : TypeId} {wr : Bool} {cs cs' : List SV} {fr : List (Nat × SV)} {hp : List (Nat × Blk)} (hj : find hp j = some ⟨ty, wr, .one cs⟩) (hd : ∀ ρ z, HasZ ρ cs z → HasZ ρ cs' z) {a : Act} {w : World} (hR : RR E (fn fr hp) a w) :
    RR E (fn fr ((j, ⟨ty, wr, .one cs'⟩) :: hp)) a w := by
  obtain ⟨ρ, hext, hfx, hR⟩ := hR
  have hblk : ∀ i b, (fn fr ((j, ⟨ty, wr, .one cs'⟩) :: hp) (.k i)).blk = some b → ∃ b0, (fn fr hp (.k i)).blk = some b0 ∧ b0.wr = b.wr ∧ b0.data.live = b.data.live ∧ (b0 = b ∨ (i = j ∧ b0 = ⟨ty, wr, .one cs⟩ ∧ b = ⟨ty, wr, .one cs'⟩)) := by
    intro i b hb
    simp only [fn, LV.blk, find] at hb ⊢
    cases hi : Nat.beq j i with
    | true =>
      rw [hi] at hb
      simp only [Option.some.injEq] at hb
      obtain rfl := Nat.eq_of_beq_eq_true hi
      subst hb
      exact ⟨_, hj, rfl, rfl, .inr ⟨rfl, rfl, rfl⟩⟩
    | false => rw [hi] at hb; exact ⟨b, hb, rfl, rfl, .inl rfl⟩
  refine ⟨ρ, hext, fun i hi => ?_, { defers := hR.defers, size := hR.size, fr := fun u sv hu => hR.fr u sv hu, pres := hR.pres, hp := ?_ }⟩
  · have := hfx i hi
    simp only [fn, LV.blk, find] at this ⊢
    cases hb : Nat.beq j i with
    | true => simp
    | false => exact this
  · constructor
    · intro i b hb
      obtain ⟨b0, h1, h2, h3, rfl | ⟨rfl, rfl, rfl⟩⟩ := hblk i b hb
      · exact hR.hp.blk i b0 h1
      · rcases hR.hp.blk i _ h1 with h4 | ⟨b', t, vs, ex, g1, g2, g3, g4, g5⟩ | ⟨_, h4⟩
        · cases h4
        · refine .inr (.inl ⟨b', t, vs, ex, g1, g2, ?_, g4, g5⟩)
          simp only [DataC] at g3 ⊢
          obtain ⟨z, g6, g7⟩ := g3
          exact ⟨z, hd ρ z g6, g7⟩
        · exact h4.elim
    · intro i i' x x' b b' hx hx' hn hxe hb hb' hl hl'
      obtain ⟨b0, h1, h2, h3, _⟩ := hblk i b hb
      obtain ⟨b0', h1', h2', h3', _⟩ := hblk i' b' hb'
      rw [← h2]
      exact hR.hp.sep i i' x x' b0 b0' hx hx' hn hxe h1 h1' (h3.trans hl) (h3'.trans hl')
    · intro i b x hb hw hl hx
      obtain ⟨b0, h1, h2, h3, _⟩ := hblk i b hb
      exact hR.hp.own i b0 x h1 (h2.trans hw) (h3.trans hl) hx
    · intro i x hx
      obtain ⟨b, hb⟩ := hR.hp.dom i x hx
      simp only [fn, LV.blk, find] at hb ⊢
      cases hi : Nat.beq j i with
      | true => exact ⟨_, rfl⟩
      | false => exact ⟨b, hb⟩
    · exact hR.hp.imm
    · intro i b x hb hw hl hx
      obtain ⟨b0, h1, h2, h3, _⟩ := hblk i b hb
      exact hR.hp.immw i b0 x h1 (h2.trans hw) (h3.trans hl) hx

theorem HasZ_adopt {ρ : Rho} {k s : Nat} : ∀ {cs : List SV} {p : Nat} {z : List (List Value)}, cs[p]? = some (.val (.slice none 0 0)) → HasZ ρ cs z → HasZ ρ (cs.set p (.slc k s 0 0)) z
  | [], p, z, h, _ => by simp at h
  | c :: cs, 0, z, h, hz => by
    simp only [List.getElem?_cons_zero, Option.some.injEq] at h
    subst h
    simp only [HasZ, List.set_cons_zero] at hz ⊢
    obtain ⟨x, r, rfl, h1, h2⟩ := hz
    refine ⟨x, r, rfl, ?_, h2⟩
    simp only [HasC] at h1 ⊢
    exact .inr ⟨trivial, none, h1.1⟩
  | c :: cs, p + 1, z, h, hz => by
    simp only [List.getElem?_cons_succ] at h
    simp only [HasZ, List.set_cons_succ] at hz ⊢
    obtain ⟨x, r, rfl, h1, h2⟩ := hz
    exact ⟨x, r, rfl, h1, HasZ_adopt h h2⟩

theorem SWx_adoptB {E : Env} {j k s p : Nat} {ty : TypeId} {wr : Bool} {cs cs' : List SV} {c : Code} {K : Post'} {blk : Blk} {fr : List (Nat × SV)} {hp : List (Nat × Blk)} (hj : find hp j = some ⟨ty, wr, .one cs⟩) (hp' : cs[p]? = some (.val (.slice none 0 0))) (hk : find hp k = none) (he : blk.data.empty)
    (hcs : cs.set p (.slc k s 0 0) = cs') (hs : SWx E c K fr ((k, blk) :: (j, ⟨ty, wr, .one cs'⟩) :: hp)) : SWx E c K fr hp := ⟨fun a w hR => hs.run a w (by
    subst hcs
    refine addKey_RR ?_ he (retell_RR hj (fun ρ z hz => HasZ_adopt hp' hz) hR)
    simp only [find]
    cases hb : Nat.beq j k with
    | false => exact hk
    | true => rw [Nat.eq_of_beq_eq_true hb, hk] at hj; cases hj)⟩

theorem tst_tt {t : Bool} {A B : Prop} (h : t = true) (k : A) : (t = true → A) ∧ (t = false → B) := ⟨fun _ => k, fun h' => (by rw [h] at h'; cases h')⟩
theorem tst_ff {t : Bool} {A B : Prop} (h : t = false) (k : B) : (t = true → A) ∧ (t = false → B) := ⟨fun h' => (by rw [h] at h'; cases h'), fun _ => k⟩

/-- One value told in the words of another. -/
def Wk (c d : SV) : Prop := c.isOne = d.isOne ∧ ∀ ρ x, HasC ρ c x → HasC ρ d x
def WkL (l m : List SV) : Prop := (∀ z, List.zipWith mkV l z = List.zipWith mkV m z) ∧ ∀ ρ z, HasZ ρ l z → HasZ ρ m z
theorem Wk.refl {c : SV} : Wk c c := ⟨rfl, fun _ _ h => h⟩
theorem Wk.nil {w : Nat} {a : Option Addr} : Wk (.val (.slice a 0 0)) (vecA w []) := ⟨rfl, fun _ _ h => nil_vec h⟩
theorem WkL.nil : WkL [] [] := ⟨fun _ => rfl, fun _ _ h => h⟩
theorem WkL.cons {c d : SV} {l m : List SV} (h : Wk c d) (k : WkL l m) : WkL (c :: l) (d :: m) :=
  ⟨fun z => by cases z with
    | nil => rfl
    | cons x r => rw [List.zipWith_cons_cons, List.zipWith_cons_cons, k.1 r, mkV_eq h.1], fun ρ z hz => by
    simp only [HasZ] at hz ⊢
    obtain ⟨x, r, rfl, h1, h2⟩ := hz
    exact ⟨x, r, rfl, h.2 ρ x h1, k.2 ρ r h2⟩⟩
theorem Wk.agg {l m : List SV} (h : WkL l m) : Wk (.agg l) (.agg m) := ⟨rfl, fun ρ x hx => by
  simp only [HasC] at hx ⊢
  obtain ⟨z, h1, h2⟩ := hx
  exact ⟨z, h.2 ρ z h1, h2⟩⟩
theorem CallOK.wk {P : Program} {f : FuncId} {args args' : List SV} {fk : List (Nat × Blk)} {c : SV} {new upd : List (Nat × Blk)} (h : CallOK P f args' fk c new upd) (hw : WkL args args') : CallOK P f args fk c new upd := CallOK.args h hw.2 hw.1

/-- Three values as one. -/
def ag3 {α β γ : Type} (f : α → SV) (g : β → SV) (h : γ → SV) (p : α × β × γ) : SV := .agg [f p.1, g p.2.1, h p.2.2]
theorem Opens.struct3 {H : Type} {enc : TypeId × Value → H} {P : Program} {W : World} {hg : TabsW W} {t : TypeId} {f0 f1 f2 : Field} {α β γ : Type} {a : α → SV} {b : β → SV} {c : γ → SV} {ga : α → Prop} {gb : β → Prop} {gc : γ → Prop} (ht : P.underlying t = some (.struct #[f0, f1, f2])) (o0 : f0.offset = 0) (o1 : f1.offset = P.cellsOf f0.type)
    (o2 : f2.offset = P.cellsOf f0.type + P.cellsOf f1.type) (hc : P.cellsOf t = P.cellsOf f0.type + P.cellsOf f1.type + P.cellsOf f2.type)
    (h0 : Opens enc P hg f0.type a ga) (h1 : Opens enc P hg f1.type b gb) (h2 : Opens enc P hg f2.type c gc) : Opens enc P hg t (ag3 a b c) (fun p => ga p.1 ∧ gb p.2.1 ∧ gc p.2.2) := fun fuel cs x h => by
  obtain ⟨xs, n, rfl, _, hlen, hxl, hf⟩ := DataW.trod_struct ht h
  have hx0 : xs.length = 3 := hxl
  obtain ⟨y0, y1, y2, rfl⟩ : ∃ y0 y1 y2, xs = [y0, y1, y2] := by
    match xs, hx0 with
    | [y0, y1, y2], _ => exact ⟨y0, y1, y2, rfl⟩
  have g0 := hf 0 f0 rfl
  have g1 := hf 1 f1 rfl
  have g2 := hf 2 f2 rfl
  obtain ⟨p, p1, p2⟩ := h0 _ _ _ g0
  obtain ⟨q, q1, q2⟩ := h1 _ _ _ g1
  obtain ⟨r, r1, r2⟩ := h2 _ _ _ g2
  refine ⟨(p, q, r), ⟨p1, q1, r1⟩, ?_⟩
  simp only [ag3, HasC]
  refine ⟨[_, _, _], by simp only [HasZ]; exact ⟨_, _, rfl, p2, _, _, rfl, q2, _, _, rfl, r2, rfl⟩, ?_⟩
  simp only [List.flatten_cons, List.flatten_nil, List.append_nil, o0, o1, o2, List.drop_zero]
  rw [List.take_of_length_le (l := cs.drop (P.cellsOf f0.type + P.cellsOf f1.type)) (by rw [List.length_drop]; omega), ← List.drop_drop, List.take_append_drop, List.take_append_drop]
end Go.Sx

namespace Go.Proofs.YtcincnngdohfnaaGreatDoor
open Go.Sx
set_option linter.unusedSimpArgs false
set_option linter.unusedVariables false
set_option maxRecDepth 100000
set_option maxHeartbeats 4000000

/-- A matrix as plain data. -/
abbrev MM := Int × Int × List (Int × Int)
abbrev mQ : MM → SV := ag3 (iel .u8) (iel .u8) (mvec 2 qA)
abbrev nilQ : MM := (0, 0, [])
def mOK (m : MM) : Prop := (0 ≤ m.1 ∧ m.1 < 256) ∧ (0 ≤ m.2.1 ∧ m.2.1 < 256) ∧ m.2.2.length ≤ maxLen ∧ ∀ q ∈ m.2.2, qOK q
/-- Its elements, with zeros for missing ones. -/
def eQ (l : List (Int × Int)) (p : Nat) : Rat := qV (l.getD p (0, 0))
def someL (l : List (Int × Int)) (n : Nat) : List Rat := (List.range n).map (eQ l)
theorem someL_len (l : List (Int × Int)) (n : Nat) : (someL l n).length = n := by simp [someL]
theorem someL_get {l : List (Int × Int)} {n p : Nat} (h : p < n) : (someL l n).getD p 0 = eQ l p := by simp [someL, List.getD_eq_getElem?_getD, h]
theorem qOK_at {l : List (Int × Int)} (h : ∀ q ∈ l, qOK q) (p : Nat) : qOK (l.getD p (0, 0)) := by
  by_cases hp : p < l.length
  · exact h _ (getD_mem hp)
  · rw [List.getD_eq_getElem?_getD, List.getElem?_eq_none (by omega)]; exact ⟨⟨by decide, by decide⟩, by decide, by decide⟩
theorem Sm_some {l : List (Int × Int)} (h : ∀ q ∈ l, qOK q) (n : Nat) : Sm 130 (someL l n) := by
  intro p hp
  rw [someL_len] at hp
  rw [someL_get hp]; exact fs_qV (qOK_at h p)
theorem OKM_some (l : List (Int × Int)) {r c : Nat} (hr : r ≤ 2048) (hc : c ≤ 2048) : OKM r c (someL l (r * c)) := ⟨hr, hc, someL_len ..⟩

theorem c_few (ms : List MM) (h : ms.length < 1000) (hl : ∀ m ∈ ms, m.2.2.length ≤ maxLen) : CallOK Tryz.prog 11 [mvec 3 mQ ms] [] (.val (.bool (ms.all fun m => decide (m.2.2.length ≤ 40)))) [] [] := by
  refine callV (Z := []) tabOK mixedOK Tryz.func11 rfl (by kernel_rfl) rfl rfl (by kernel_rfl) rfl ?_
  intro W0 w0 ρ0 hE
  conv => whnf
  skip
  refine SW_loopN hE (fun k => k) [0, 3] [] (fun m fr hp => ∃ i : Nat, m = ms.length - i ∧ i ≤ ms.length ∧ (∀ j, j < i → decide ((ms.getD j nilQ).2.2.length ≤ 40) = true) ∧ fr = [(0, mvec 3 mQ ms), (3, iv (i : Nat))] ∧ hp = []) ms.length ?_ ?_ ?_
  · kernel_rfl
  · exact ⟨0, rfl, Nat.zero_le _, (fun j hj => by omega), rfl, rfl⟩
  rintro m _ _ ⟨i, rfl, hi, hs, rfl, rfl⟩
  conv => whnf
  by_cases hlt : i < ms.length
  · have t1 := dlt hlt
    have t2 := winc (i := i) (by omega)
    by_cases hL : (ms.getD i nilQ).2.2.length ≤ 40
    · have t3 : decide (((ms.getD i nilQ).2.2.length : Int) > 40) = false := decide_eq_false (by omega)
      (repeat ((first | refine step_w1 rfl rfl ?_ | refine step_w2 rfl rfl ?_ | refine g_o (op_lenM rfl rfl rfl (ev_ok rfl) (tgt rfl) rfl) ?_ | refine g_o (op_loadA rfl (ev_ok rfl) (tgt rfl) rfl (Nat.succ_ne_zero _) rfl) ?_ | refine g_o (op_fieldA rfl (ev_ok rfl) (tgt rfl) rfl rfl (Nat.succ_ne_zero _) rfl) ?_ | refine g_o (op_indexN (α := MM) (d := nilQ) rfl (ev_ok rfl) (ev_ok rfl) (tgt rfl) rfl (tgt rfl) rfl (by omega)) ?_ | rw [t1] | rw [t3] | rw [t2]); conv => whnf))
      refine ⟨ms.length - (i + 1), fun k => k, [0, 3], [], by omega, by kernel_rfl, i + 1, rfl, hlt, ?_, rfl, rfl⟩
      intro j hj
      by_cases hji : j = i
      · rw [hji]; exact decide_eq_true hL
      · exact hs j (by omega)
    · have t3 : decide (((ms.getD i nilQ).2.2.length : Int) > 40) = true := decide_eq_true (by omega)
      have e : (ms.all fun m => decide (m.2.2.length ≤ 40)) = false := all_no (d := nilQ) hlt (decide_eq_false hL)
      rw [e]
      (repeat ((first | refine step_w1 rfl rfl ?_ | refine g_o (op_lenM rfl rfl rfl (ev_ok rfl) (tgt rfl) rfl) ?_ | refine g_o (op_loadA rfl (ev_ok rfl) (tgt rfl) rfl (Nat.succ_ne_zero _) rfl) ?_ | refine g_o (op_fieldA rfl (ev_ok rfl) (tgt rfl) rfl rfl (Nat.succ_ne_zero _) rfl) ?_ | refine g_o (op_indexN (α := MM) (d := nilQ) rfl (ev_ok rfl) (ev_ok rfl) (tgt rfl) rfl (tgt rfl) rfl (by omega)) ?_ | rw [t1] | rw [t3]); conv => whnf)); (first | exact Recast.refl _ | exact Frz.recast (Recast.refl _) rfl | (refine Frz.one rfl rfl ?_; skip) | (refine Frz.tup ?_; skip))
  · have t1 := dge hlt
    obtain rfl : i = ms.length := by omega
    have e : (ms.all fun m => decide (m.2.2.length ≤ 40)) = true := all_at nilQ hs
    rw [e]
    (repeat (first | (refine step_w2 rfl rfl ?_; conv => whnf) | (refine g_o (op_lenM rfl rfl rfl (ev_ok rfl) (tgt rfl) rfl) ?_; conv => whnf) | (rw [t1]; conv => whnf))); (first | exact Recast.refl _ | exact Frz.recast (Recast.refl _) rfl | (refine Frz.one rfl rfl ?_; skip) | (refine Frz.tup ?_; skip))
theorem wrap_u8 {n : Int} (h0 : 0 ≤ n) (h : n < 256) : IntKind.u8.wrap n = n := by
  simp [IntKind.wrap, IntKind.bits, IntKind.signed]; omega
theorem c_Sides (m : MM) (h : mOK m) : CallOK Tryz.prog 13 [mQ m] [] (.tup [iv ((m.1 % 7).toNat : Nat), iv ((m.2.1 % 7).toNat : Nat)]) [] [] := by
  obtain ⟨h1, h2, _⟩ := h
  have e1 : IntKind.i64.wrap (m.1.tmod 7) = ((m.1 % 7).toNat : Nat) := by rw [Int.tmod_eq_emod_of_nonneg h1.1, wrap_i64 (by omega) (by omega)]; omega
  have e2 : IntKind.i64.wrap (m.2.1.tmod 7) = ((m.2.1 % 7).toNat : Nat) := by rw [Int.tmod_eq_emod_of_nonneg h2.1, wrap_i64 (by omega) (by omega)]; omega
  have e3 : IntKind.u8.wrap (m.1.tmod 7) = m.1.tmod 7 := by rw [Int.tmod_eq_emod_of_nonneg h1.1, wrap_u8 (by omega) (by omega)]
  have e4 : IntKind.u8.wrap (m.2.1.tmod 7) = m.2.1.tmod 7 := by rw [Int.tmod_eq_emod_of_nonneg h2.1, wrap_u8 (by omega) (by omega)]
  refine callV (Z := []) tabOK mixedOK Tryz.func13 rfl (by kernel_rfl) rfl rfl (by kernel_rfl) rfl ?_
  intro W0 w0 ρ0 hE
  conv => whnf
  (repeat ((first | refine step_i (by kernel_rfl) ?_ | refine step_oN (by first | omega | decide | (simp only [tiB5, tiB66, tiB3, tiB2, tiB9, tiB43, tiB87, tiB29, tiB33, tiB41, tiB35, tiB4, tiB83, tiB85, tiB121, tiB31, tiB82, tiB37, dlen, List.length_replicate, List.length_set, List.length_map, List.length_zipWith, List.length_take, List.length_append, List.length_cons, List.length_nil]; omega)) ?_ | rw [e1] | rw [e2]); conv => whnf)); (first | exact Recast.refl _ | exact Frz.recast (Recast.refl _) rfl | (refine Frz.one rfl rfl ?_; skip) | (refine Frz.tup ?_; skip))
theorem app_one {α : Type} {l : List α} {i : Nat} {d : α} (h : i < l.length) : l.take (i + 1) = (l.take i).take i ++ (([l.getD i d] : List α).drop 0).take 1 := (app_snoc h).symm
theorem c_Some (m : MM) (hm : mOK m) {r c : Nat} (hr : r ≤ 12) (hc : c ≤ 12) : CallOK Tryz.prog 32 [mQ m, iv r, iv c] [] (mA r c (someL m.2.2 (r * c))) [] [] := by
  obtain ⟨A, B, l⟩ := m
  obtain ⟨_, _, hl, hq⟩ := hm
  replace hl : l.length ≤ maxLen := hl
  have hz := someL_len l (r * c)
  have hN : r * c ≤ 12 * 12 := Nat.mul_le_mul hr hc
  have t0 : IntKind.i64.wrap ((r : Int) * (c : Int)) = ((r * c : Nat) : Int) := by rw [← Int.natCast_mul, wrap_i64 (by omega) (by omega)]
  generalize r * c = N at *
  refine callF (Z := [3]) tabOK mixedOK Tryz.func32 rfl (by kernel_rfl) (by first | rfl | (simp [keylessL, keyless, keylessL_map, *]; done)) (by first | rfl | (simp [keylessL, keyless, keylessL_map, *]; done)) (by kernel_rfl) rfl ?_
  intro w0 ρ0 hE
  conv => whnf
  skip
  refine SWx_adoptB (j := 7) (k := 2001) (s := 5) (p := 2) (blk := fblk []) rfl rfl rfl rfl rfl ?_
  refine SW_loopS hE (fun k => k) [1, 2, 3, 6, 7, 8] [6, 7, 2001] (fun m fr hp => ∃ i : Nat, m = N - i ∧ i ≤ N ∧ fr = [(1, iv r), (2, iv c), (3, ptrA [iel .u8 A, iel .u8 B, mvec 2 qA l]), (6, .ptr 6 0 0 0), (7, .ptr 7 0 0 0), (8, iv (i : Nat))] ∧
    hp = [(6, zM), (7, ⟨31, true, .one [iv r, iv c, .slc 2001 5 0 i]⟩), (2001, fblk ((someL l N).take i))]) N ?_ ?_ ?_
  · kernel_rfl
  · exact ⟨0, rfl, Nat.zero_le _, rfl, rfl⟩
  rintro m _ _ ⟨i, rfl, hi, rfl, rfl⟩
  have hlt0 : ((someL l N).take i).length = i := by rw [List.length_take]; omega
  by_cases hlt : i < N
  · have t1 := dlt hlt
    have t2 := winc (i := i) (by omega)
    have o1 := c_QOf (l.getD i (0, 0)) (qOK_at hq i)
    rw [show qV (l.getD i (0, 0)) = (someL l N).getD i 0 from (someL_get hlt).symm] at o1
    have e1 := app_one (d := (0 : Rat)) (show i < (someL l N).length by omega)
    refine SWx.of hE ?_
    conv => whnf
    by_cases hil : i < l.length
    · have t3 := dlt hil
      (repeat ((first | refine step_w1 rfl rfl ?_ | refine step_i (by kernel_rfl) ?_ | refine step_oA (by first | omega | decide | (simp only [tiB5, tiB66, tiB3, tiB2, tiB9, tiB43, tiB87, tiB29, tiB33, tiB41, tiB35, tiB4, tiB83, tiB85, tiB121, tiB31, tiB82, tiB37, dlen, List.length_replicate, List.length_set, List.length_map, List.length_zipWith, List.length_take, List.length_append, List.length_cons, List.length_nil]; omega)) ?_ | refine g_c (by assumption) ?_ | refine g_o (op_lenM rfl rfl rfl (ev_ok rfl) (tgt rfl) rfl) ?_ | refine g_o (op_loadA rfl (ev_ok rfl) (tgt rfl) rfl (Nat.succ_ne_zero _) rfl) ?_ | refine g_o (op_indexN (α := Int × Int) (d := (0, 0)) rfl (ev_ok rfl) (ev_ok rfl) (tgt rfl) rfl (tgt rfl) rfl (by omega)) ?_ | refine g_o (op_fieldA rfl (ev_ok rfl) (tgt rfl) rfl rfl (Nat.succ_ne_zero _) rfl) ?_ | rw [t0] | rw [t1] | rw [t3] | rw [t2] | rw [Nat.zero_add]); conv => whnf))
      refine ⟨N - (i + 1), renBy [(36, 2001)], [1, 2, 3, 6, 7, 8], [6, 7, 36], by omega, by kernel_rfl, i + 1, rfl, hlt, rfl, ?_⟩
      rw [e1]; rfl
    · have t3 := dge hil
      rw [show l.getD i (0, 0) = (0, 0) from by rw [List.getD_eq_getElem?_getD, List.getElem?_eq_none (by omega)]; rfl] at o1
      (repeat ((first | refine step_w1 rfl rfl ?_ | refine step_w2 rfl rfl ?_ | refine step_i (by kernel_rfl) ?_ | refine step_oA (by first | omega | decide | (simp only [tiB5, tiB66, tiB3, tiB2, tiB9, tiB43, tiB87, tiB29, tiB33, tiB41, tiB35, tiB4, tiB83, tiB85, tiB121, tiB31, tiB82, tiB37, dlen, List.length_replicate, List.length_set, List.length_map, List.length_zipWith, List.length_take, List.length_append, List.length_cons, List.length_nil]; omega)) ?_ | refine g_c (by assumption) ?_ | refine g_o (op_lenM rfl rfl rfl (ev_ok rfl) (tgt rfl) rfl) ?_ | refine g_o (op_loadA rfl (ev_ok rfl) (tgt rfl) rfl (Nat.succ_ne_zero _) rfl) ?_ | refine g_o (op_fieldA rfl (ev_ok rfl) (tgt rfl) rfl rfl (Nat.succ_ne_zero _) rfl) ?_ | rw [t0] | rw [t1] | rw [t3] | rw [t2] | rw [Nat.zero_add]); conv => whnf))
      refine ⟨N - (i + 1), renBy [(36, 2001)], [1, 2, 3, 6, 7, 8], [6, 7, 36], by omega, by kernel_rfl, i + 1, rfl, hlt, rfl, ?_⟩
      rw [e1]; rfl
  · have t1 := dge hlt
    obtain rfl : i = N := by omega
    rw [List.take_of_length_le (by omega)]
    refine SWx.of hE ?_
    conv => whnf
    (repeat (first | (refine step_w2 rfl rfl ?_; conv => whnf) | (rw [t0]; conv => whnf) | (rw [t1]; conv => whnf)))
    (first | exact Recast.refl _ | exact Frz.recast (Recast.refl _) rfl | (refine Frz.one rfl rfl ?_; (repeat (first | exact FrzC.keyless rfl | exact FrzL.nil | refine FrzL.cons ?_ ?_ | (refine FrzC.fracs rfl ?_; (first | rfl | omega | (simp <;> fail) | (simp <;> omega))) | refine FrzC.agg ?_))) | (refine Frz.tup ?_; skip))
end Go.Proofs.YtcincnngdohfnaaGreatDoor

namespace Go.Proofs.YtcincnngdohfnaaGreatDoor
open Go.Sx
set_option linter.unusedSimpArgs false
set_option linter.unusedVariables false
set_option maxRecDepth 100000
set_option maxHeartbeats 4000000

def tdF : Nat → Nat → List Nat
  | 0, _ => []
  | f + 1, n => if n = 0 then [] else n % 10000 :: tdF f (n / 10000)
def tdW (n : Nat) : List Nat := tdF n n
/-- Words are 32 bits wide. -/
def W4 (xs : List Int) : Prop := ∀ i, 0 ≤ xs.getD i 0 ∧ xs.getD i 0 < 10000

theorem W4.set {xs : List Int} (h : W4 xs) {i : Nat} {v : Int} (h0 : 0 ≤ v) (h1 : v < 10000) : W4 (xs.set i v) := by
  intro j
  rw [getD_set]
  split
  · exact ⟨h0, h1⟩
  · exact h j

/-- The tdW as the machine has them. -/
def td (n : Nat) : List Int := (tdW n).map Int.ofNat

end Go.Proofs.YtcincnngdohfnaaGreatDoor

namespace Go.Proofs.YtcincnngdohfnaaGreatDoor
open Go.Sx
set_option linter.unusedSimpArgs false
set_option linter.unusedVariables false
set_option maxRecDepth 100000
set_option maxHeartbeats 4000000

end Go.Proofs.YtcincnngdohfnaaGreatDoor

namespace Go.Proofs.YtcincnngdohfnaaGreatDoor
open Go.Sx
set_option linter.unusedSimpArgs false
set_option linter.unusedVariables false
set_option maxRecDepth 100000
set_option maxHeartbeats 4000000

end Go.Proofs.YtcincnngdohfnaaGreatDoor

namespace Go.Proofs.YtcincnngdohfnaaGreatDoor
open Go.Sx
set_option linter.unusedSimpArgs false
set_option linter.unusedVariables false
set_option maxRecDepth 100000
set_option maxHeartbeats 4000000

end Go.Proofs.YtcincnngdohfnaaGreatDoor

namespace Go.Proofs.YtcincnngdohfnaaGreatDoor
open Go.Sx
set_option linter.unusedSimpArgs false
set_option linter.unusedVariables false
set_option maxRecDepth 100000
set_option maxHeartbeats 4000000

end Go.Proofs.YtcincnngdohfnaaGreatDoor

namespace Go.Proofs.YtcincnngdohfnaaGreatDoor
open Go.Sx
set_option linter.unusedSimpArgs false
set_option linter.unusedVariables false
set_option maxRecDepth 100000
set_option maxHeartbeats 4000000

section
variable {a b R d P F T lb : Nat}
end
end Go.Proofs.YtcincnngdohfnaaGreatDoor

namespace Go.Proofs.YtcincnngdohfnaaGreatDoor
open Go.Sx
set_option linter.unusedSimpArgs false
set_option linter.unusedVariables false
set_option maxRecDepth 100000
set_option maxHeartbeats 4000000

end Go.Proofs.YtcincnngdohfnaaGreatDoor

namespace Go.Proofs.YtcincnngdohfnaaGreatDoor
open Go.Sx
set_option linter.unusedSimpArgs false
set_option linter.unusedVariables false
set_option maxRecDepth 100000
set_option maxHeartbeats 4000000

end Go.Proofs.YtcincnngdohfnaaGreatDoor

namespace Go.Proofs.YtcincnngdohfnaaGreatDoor
open Go.Sx
set_option linter.unusedSimpArgs false
set_option linter.unusedVariables false
set_option maxRecDepth 100000
set_option maxHeartbeats 4000000

end Go.Proofs.YtcincnngdohfnaaGreatDoor

namespace Go.Proofs.YtcincnngdohfnaaGreatDoor
open Go.Sx
set_option linter.unusedSimpArgs false
set_option linter.unusedVariables false
set_option maxRecDepth 100000
set_option maxHeartbeats 4000000

end Go.Proofs.YtcincnngdohfnaaGreatDoor

namespace Go.Proofs.YtcincnngdohfnaaGreatDoor
open Go.Sx
set_option linter.unusedSimpArgs false
set_option linter.unusedVariables false
set_option maxRecDepth 100000
set_option maxHeartbeats 4000000

end Go.Proofs.YtcincnngdohfnaaGreatDoor

namespace Go.Proofs.YtcincnngdohfnaaGreatDoor
open Go.Sx
set_option linter.unusedSimpArgs false
set_option linter.unusedVariables false
set_option maxRecDepth 100000
set_option maxHeartbeats 4000000

end Go.Proofs.YtcincnngdohfnaaGreatDoor

namespace Go.Proofs.YtcincnngdohfnaaGreatDoor
open Go.Sx
set_option linter.unusedSimpArgs false
set_option linter.unusedVariables false
set_option maxRecDepth 100000
set_option maxHeartbeats 4000000

end Go.Proofs.YtcincnngdohfnaaGreatDoor

namespace Go.Proofs.YtcincnngdohfnaaGreatDoor
open Go.Sx
set_option linter.unusedSimpArgs false
set_option linter.unusedVariables false
set_option maxRecDepth 100000
set_option maxHeartbeats 4000000

abbrev m4 : List Rat := ofInts [1, 2, 3, 4]
theorem l_works13 : CallOK Tryz.prog 12 [] [] (.val (.bool true)) [] [] := by
  have h4 : OKM 2 2 m4 := ⟨by decide, by decide, rfl⟩
  have s4 : Sm 20 m4 := by unfold Sm; decide +kernel
  have st : Sm 20 (mturn 2 2 m4) := by unfold Sm; decide +kernel
  have sp : Sm 20 (mmul 2 2 2 m4 m4) := by unfold Sm; decide +kernel
  have s1 : Sm 20 (ofInts [1, -1]) := by unfold Sm; decide +kernel
  have s2 : Sm 20 (ofInts [1, 0]) := by unfold Sm; decide +kernel
  have s3 : Sm 20 (ofInts [0, 1]) := by unfold Sm; decide +kernel
  have o1 := m_Of 2 2 [1, 2, 3, 4] (by decide) (by decide) rfl (by decide)
  have o2 := m_Turn h4
  have o3 := m_Mul 2 h4 h4 s4 s4 (by decide) (by decide)
  have v1 := v_Of [1, -1] (by decide) (by decide)
  have v2 := v_Of [1, 0] (by decide) (by decide)
  have v3 := v_Of [0, 1] (by decide) (by decide)
  have o4 := m_Apply 2 h4 (v := ofInts [1, -1]) rfl s4 s1 (by decide) (by decide)
  have o5 := m_Form 2 h4 (v := ofInts [1, 0]) (w := ofInts [0, 1]) rfl rfl s4 s2 s3 (by decide) (by decide) (by decide) (by decide)
  have t1 := m_Text h4 s4 (by decide)
  have t2 := m_Text (r := 2) (c := 2) (B := 20) (a := mturn 2 2 m4) ⟨by decide, by decide, rfl⟩ st (by decide)
  have t3 := m_Text (r := 2) (c := 2) (B := 20) (a := mmul 2 2 2 m4 m4) ⟨by decide, by decide, rfl⟩ sp (by decide)
  have t4 := t_VecG (mapply 2 2 m4 (ofInts [1, -1])) 20 (by decide) (by decide +kernel) (by decide)
  have o6 := c_fInt 2 (by decide) (by decide)
  have o7 := m_OfE 2 2 [1] (by decide) (by decide) (by decide)
  have o8 := (m_OfE (-1) 2049 [] (by decide) (by decide) (by decide)).wk (args := [iv (-1), iv 2049, .val (.slice none 0 0)]) (by repeat (first | exact WkL.nil | refine WkL.cons ?_ ?_ | exact Wk.nil | exact Wk.refl | refine Wk.agg ?_))
  have o9 := (m_OfE 2049 0 [] (by decide) (by decide) (by decide)).wk (args := [iv 2049, iv 0, .val (.slice none 0 0)]) (by repeat (first | exact WkL.nil | refine WkL.cons ?_ ?_ | exact Wk.nil | exact Wk.refl | refine Wk.agg ?_))
  have o10 := (m_Of 0 3 [] (by decide) (by decide) rfl (by decide)).wk (args := [iv 0, iv 3, .val (.slice none 0 0)]) (by repeat (first | exact WkL.nil | refine WkL.cons ?_ ?_ | exact Wk.nil | exact Wk.refl | refine Wk.agg ?_))
  have o11 := m_Part h4 [1, 0] [1] (by decide) (by decide) (by decide) (by decide)
  have t5 := m_Text (a := mpart 2 m4 [1, 0] [1]) (r := 2) (c := 1) (B := 20) ⟨by decide, by decide, rfl⟩ (by unfold Sm; decide +kernel) (by decide)
  have o12 := m_Sum h4 (by decide +kernel)
  have o13 := c_fInt 10 (by decide) (by decide)
  have o14 := m_Symmetric h4
  have o15 := m_Symmetric (r := 0) (c := 3) (a := []) ⟨by decide, by decide, rfl⟩
  have e1 : sameF 2 2 2 2 m4 (mturn 2 2 m4) = false := by decide +kernel
  have e2 : sameF 0 3 3 0 [] (mturn 0 3 []) = false := by decide +kernel
  replace o14 : CallOK Tryz.prog 18 [mA 2 2 m4] [] (.val (.bool (sameF 2 2 2 2 m4 (mturn 2 2 m4)))) [] [] := o14
  replace o15 : CallOK Tryz.prog 18 [mA 0 3 []] [] (.val (.bool (sameF 0 3 3 0 [] (mturn 0 3 [])))) [] [] := o15
  rw [e1] at o14
  rw [e2] at o15
  have q1 : (!(tM 2 2 m4).toList == (ByteArray.mk #[91, 49, 32, 50, 93, 32, 91, 51, 32, 52, 93]).toList) = false := by decide +kernel
  have q2 : (!(tM 2 2 (mturn 2 2 m4)).toList == (ByteArray.mk #[91, 49, 32, 51, 93, 32, 91, 50, 32, 52, 93]).toList) = false := by decide +kernel
  have q3 : (!(tM 2 2 (mmul 2 2 2 m4 m4)).toList == (ByteArray.mk #[91, 55, 32, 49, 48, 93, 32, 91, 49, 53, 32, 50, 50, 93]).toList) = false := by decide +kernel
  have q4 : (!(tV (mapply 2 2 m4 (ofInts [1, -1]))).toList == (ByteArray.mk #[91, 45, 49, 32, 45, 49, 93]).toList) = false := by decide +kernel
  have q5 : (!decide (mform 2 2 m4 (ofInts [1, 0]) (ofInts [0, 1]) = ((2 : Int) : Rat))) = false := by decide +kernel
  have q6 : ((tM 2 1 (mpart 2 m4 [1, 0] [1])).toList == (ByteArray.mk #[91, 52, 93, 32, 91, 50, 93]).toList) = true := by decide +kernel
  have q7 : decide (List.foldl (· + ·) 0 m4 = ((10 : Int) : Rat)) = true := by decide +kernel
  refine callV (Z := [22, 39, 46, 48, 97, 115, 116]) tabOK mixedOK Tryz.func12 rfl (by kernel_rfl) rfl rfl (by kernel_rfl) rfl ?_
  intro W0 w0 ρ0 hE
  conv => whnf
  (repeat ((first | refine step_w1 rfl rfl ?_ | refine step_w2 rfl rfl ?_ | refine step_i (by kernel_rfl) ?_ | refine g_c (by assumption) ?_ | refine g_o (op_pickT rfl (ev_ok rfl) (ev_ok rfl)) ?_ | refine g_o (op_pickF rfl (ev_ok rfl) (ev_ok rfl)) ?_ | rw [beq_self_eq_true] | rw [bne_self_eq_false] | refine ⟨_, op_eqAgg tabOK goodOK rfl (ev_ok rfl) (ev_ok rfl) rfl rfl rfl rfl (q_same _ _) q_guard, ?_⟩ | refine ⟨_, op_neAgg tabOK goodOK rfl (ev_ok rfl) (ev_ok rfl) rfl rfl rfl rfl (q_same _ _) q_guard, ?_⟩ | rw [q1] | rw [q2] | rw [q3] | rw [q4] | rw [q5] | rw [q6] | rw [q7]); conv => whnf)); (first | exact Recast.refl _ | exact Frz.recast (Recast.refl _) rfl | (refine Frz.one rfl rfl ?_; skip) | (refine Frz.tup ?_; skip))
end Go.Proofs.YtcincnngdohfnaaGreatDoor

namespace Go.Proofs.YtcincnngdohfnaaGreatDoor
open Go.Sx
set_option linter.unusedSimpArgs false
set_option linter.unusedVariables false
set_option maxRecDepth 100000
set_option maxHeartbeats 8000000

theorem side_le (x : Int) : (x % 7).toNat ≤ 6 := by omega
theorem OKM_mk {r c : Nat} {F : Nat → Nat → Rat} (hr : r ≤ 2048) (hc : c ≤ 2048) : OKM r c (mk r c F) := ⟨hr, hc, mk_len ..⟩
/-- The bounds of a matrix as plain data. -/
abbrev MWf (m : MM) : Prop := ((Lit.int .u8 m.1).wf = true) ∧ ((Lit.int .u8 m.2.1).wf = true) ∧ (m.2.2.length ≤ maxLen ∧ ∀ x ∈ m.2.2, ((Lit.int .i64 x.1).wf = true) ∧ ((Lit.int .u32 x.2).wf = true))
theorem mOK_of {m : MM} (w : MWf m) : mOK m := ⟨wf_u8 w.1, wf_u8 w.2.1, w.2.2.1, qOK_of w.2.2⟩

theorem c_fewL (ms : List MM) (h : ms.length < 1000) (hl : ∀ m ∈ ms, mOK m) : CallOK Tryz.prog 11 [mvec 3 mQ ms] [] (.val (.bool (ms.all fun m => decide (m.2.2.length ≤ 40)))) [] [] := c_few ms h fun m hm => (hl m hm).2.2.1
end Go.Proofs.YtcincnngdohfnaaGreatDoor

namespace Go.Proofs.YtcincnngdohfnaaGreatDoor
open Go.Sx
set_option linter.unusedSimpArgs false
set_option linter.unusedVariables false
set_option maxRecDepth 100000
set_option maxHeartbeats 8000000

theorem l_addM {r c A B : Nat} {a b : List Rat} (ha : OKM r c a) (hb : OKM r c b) (sa : Sm A a) (sb : Sm B b) (h : A + B ≤ 1073741824) : CallOK Tryz.prog 48 [mA r c a, mA r c b] [] (mA r c (vadd a b)) [] [] := by
  have k1 := m_Add ha hb sa sb h
  refine callV (Z := []) tabOK mixedOK Tryz.func48 rfl (by kernel_rfl) rfl rfl (by kernel_rfl) rfl ?_
  intro W0 w0 ρ0 hE
  conv => whnf
  (repeat (first | (refine g_c (by assumption) ?_; conv => whnf))); (first | exact Recast.refl _ | exact Frz.recast (Recast.refl _) rfl | (refine Frz.one rfl rfl ?_; skip) | (refine Frz.tup ?_; skip))
theorem l_turnM {r c : Nat} {a : List Rat} (ha : OKM r c a) : CallOK Tryz.prog 17 [mA r c a] [] (mA c r (mturn r c a)) [] [] := by
  have k1 := m_Turn ha
  refine callV (Z := []) tabOK mixedOK Tryz.func17 rfl (by kernel_rfl) rfl rfl (by kernel_rfl) rfl ?_
  intro W0 w0 ρ0 hE
  conv => whnf
  (repeat (first | (refine g_c (by assumption) ?_; conv => whnf))); (first | exact Recast.refl _ | exact Frz.recast (Recast.refl _) rfl | (refine Frz.one rfl rfl ?_; skip) | (refine Frz.tup ?_; skip))
theorem madd_mk {r c : Nat} {a b : List Rat} (ha : a.length = r * c) (hb : b.length = r * c) : vadd a b = mk r c fun i k => el a c i k + el b c i k := (zip_mk ha hb).symm
theorem u8_mod (x : Int) (h : 0 ≤ x ∧ x < 256) (m : Int) (hm : 0 < m ∧ m < 256) : IntKind.u8.wrap (x.tmod m) = x.tmod m ∧ IntKind.i64.wrap (x.tmod m) = ((x % m).toNat : Nat) := by
  have h1 := Int.emod_nonneg x (show m ≠ 0 by omega)
  have h2 := Int.emod_lt_of_pos x hm.1
  rw [Int.tmod_eq_emod_of_nonneg h.1]
  constructor
  · exact wrap_u8 h1 (by omega)
  · rw [wrap_i64 (by omega) (by omega)]; omega
theorem OKM_turn {r c : Nat} {a : List Rat} (ha : OKM r c a) : OKM c r (mturn r c a) := OKM_mk ha.c ha.r
end Go.Proofs.YtcincnngdohfnaaGreatDoor

namespace Go.Proofs.YtcincnngdohfnaaGreatDoor
open Go.Sx
set_option linter.unusedSimpArgs false
set_option linter.unusedVariables false
set_option maxRecDepth 100000
set_option maxHeartbeats 8000000

theorem c_MOf (m : MM) (hm : mOK m) : CallOK Tryz.prog 14 [mQ m] [] (mA ((m.1 % 7).toNat : Nat) ((m.2.1 % 7).toNat : Nat) (someL m.2.2 ((m.1 % 7).toNat * (m.2.1 % 7).toNat))) [] [] := by
  obtain ⟨e1, e2⟩ := u8_mod m.1 hm.1 7 (by decide)
  obtain ⟨e3, e4⟩ := u8_mod m.2.1 hm.2.1 7 (by decide)
  have h1 := side_le m.1
  have h2 := side_le m.2.1
  generalize hr : (m.1 % 7).toNat = r at *
  generalize hc : (m.2.1 % 7).toNat = c at *
  have k1 := c_Some m hm (r := r) (c := c) (by omega) (by omega)
  refine callV (Z := []) tabOK mixedOK Tryz.func14 rfl (by kernel_rfl) rfl rfl (by kernel_rfl) rfl ?_
  intro W0 w0 ρ0 hE
  conv => whnf
  (repeat ((first | refine And.intro (by first | decide | omega | (simp only [tiB5, tiB66, tiB3, tiB2, tiB9, tiB43, tiB87, tiB29, tiB33, tiB41, tiB35, tiB4, tiB83, tiB85, tiB121, tiB31, tiB82, tiB37, dlen, List.length_replicate, List.length_set, List.length_map, List.length_zipWith, List.length_take, List.length_append, List.length_cons, List.length_nil]; omega)) ?_ | refine g_c (by assumption) ?_ | rw [e2] | rw [e4]); conv => whnf)); (first | exact Recast.refl _ | exact Frz.recast (Recast.refl _) rfl | (refine Frz.one rfl rfl ?_; skip) | (refine Frz.tup ?_; skip))
end Go.Proofs.YtcincnngdohfnaaGreatDoor

namespace Go.Proofs.YtcincnngdohfnaaGreatDoor
open Go.Sx
set_option linter.unusedSimpArgs false
set_option linter.unusedVariables false
set_option maxRecDepth 100000
set_option maxHeartbeats 8000000

end Go.Proofs.YtcincnngdohfnaaGreatDoor

namespace Go.Proofs.YtcincnngdohfnaaGreatDoor
open Go.Sx
set_option linter.unusedSimpArgs false
set_option linter.unusedVariables false
set_option maxRecDepth 100000
set_option maxHeartbeats 40000000

theorem colF_get {r c i p : Nat} {a : List Rat} (hi : i < r) : (colF r c a p).getD i 0 = el a c i p := by simp [colF, List.getD_eq_getElem?_getD, hi]
theorem q_eq {a b : Rat} (h : a = b) : eqTy tab good 10 43 (fracCells a) (fracCells b) = some true := by rw [q_same, decide_eq_true h]
abbrev mblk (r c : Nat) (a : List Rat) : Blk := ⟨31, true, .one (mC r c a)⟩
end Go.Proofs.YtcincnngdohfnaaGreatDoor

namespace Go.Sx
set_option linter.unusedSimpArgs false
set_option linter.unusedVariables false
section
variable {P : Program} {o : Oper} {ft : List (Nat × SV)} {fk : List (Nat × Blk)}
end
end Go.Sx
namespace Go.Proofs.YtcincnngdohfnaaGreatDoor
open Go.Sx
set_option linter.unusedSimpArgs false
set_option linter.unusedVariables false
set_option maxRecDepth 100000
set_option maxHeartbeats 8000000

end Go.Proofs.YtcincnngdohfnaaGreatDoor

namespace Go.Proofs.YtcincnngdohfnaaGreatDoor
open Go.Sx
set_option linter.unusedSimpArgs false
set_option linter.unusedVariables false
set_option maxRecDepth 100000
set_option maxHeartbeats 40000000

/-- An index reduced. -/
def plF (n : Nat) (p : Int) : Int := p % (n : Int)
/-- The indices below n, and the given ones reduced. -/
def places (l : List Int) (n : Nat) (b : Bool) : List Int := (if b then (List.range n).map (fun i => ((i : Nat) : Int)) else []) ++ (if n = 0 then [] else l.map (plF n))
theorem places_in {l : List Int} {n : Nat} {b : Bool} : ∀ x ∈ places l n b, 0 ≤ x ∧ x < (n : Int) := by
  intro x hx
  rcases List.mem_append.1 hx with h | h
  · cases b
    · simp at h
    · rw [if_pos rfl] at h
      obtain ⟨i, hi, rfl⟩ := List.mem_map.1 h
      have := List.mem_range.1 hi
      omega
  · by_cases hn : n = 0
    · rw [if_pos hn] at h; cases h
    · rw [if_neg hn] at h
      obtain ⟨y, hy, rfl⟩ := List.mem_map.1 h
      exact ⟨Int.emod_nonneg _ (by omega), Int.emod_lt_of_pos _ (by omega)⟩
abbrev iblkM (l : List Int) : Blk := ⟨3, true, .ints .i64 l⟩
theorem take_range (n i : Nat) (h : i < n) : ((List.range n).map (fun i => ((i : Nat) : Int))).getD i 0 = (i : Int) := by simp [List.getD_eq_getElem?_getD, h]
theorem wrap_mod {p : Int} {n : Nat} (hp : -9223372036854775808 ≤ p ∧ p < 9223372036854775808) (hn : 0 < n) (hn2 : n < 1000) : IntKind.i64.wrap (p.tmod n) = p.tmod n ∧ (p.tmod n < 0 → IntKind.i64.wrap (p.tmod n + n) = plF n p) ∧ (¬ p.tmod n < 0 → p.tmod n = plF n p) := by
  have h1 : 0 ≤ p → p.tmod n = p % n := fun h => Int.tmod_eq_emod_of_nonneg h
  have h2 := Int.emod_nonneg p (show (n : Int) ≠ 0 by omega)
  have h3 := Int.emod_lt_of_pos p (show (0 : Int) < n by omega)
  have h4 := Int.lt_tmod_of_pos p (show (0 : Int) < n by omega)
  have h5 := Int.tmod_lt_of_pos p (show (0 : Int) < n by omega)
  have h6 := Int.tmod_eq_emod (a := p) (b := n)
  unfold plF
  refine ⟨wrap_i64 (by omega) (by omega), fun h => ?_, fun h => ?_⟩
  · rw [wrap_i64 (by omega) (by omega)]
    rw [h6] at h ⊢
    split at h
    · omega
    · rename_i h7
      rw [if_neg h7]; simp
  · rw [h6] at h ⊢
    split
    · simp
    · rename_i h7
      rw [if_neg h7] at h
      simp at h
      omega
theorem app_int {l : List Int} {x : Int} : iblkM (l ++ [x]) = ⟨3, true, .ints .i64 (List.take l.length l ++ List.take 1 (List.drop 0 [x]))⟩ := by
  rw [iblkM, List.take_of_length_le (Nat.le_refl _)]; rfl
theorem take_snocI {l : List Int} {j : Nat} (h : j < l.length) (f : Int → Int) : (l.take (j + 1)).map f = (l.take j).map f ++ [f (l.getD j 0)] := by
  rw [List.take_add_one, List.getD_eq_getElem?_getD, List.getElem?_eq_getElem h, List.map_append]; rfl
theorem c_places (l : List Int) (hl : l.length ≤ 1000) (hb : ∀ p ∈ l, -9223372036854775808 ≤ p ∧ p < 9223372036854775808) {n : Nat} (hn : n ≤ 100) (b : Bool) :
    CallOK Tryz.prog 60 [ivec .i64 l, iv n, .val (.bool b)] [] (ivec .i64 (places l n b)) [] [] := by
  cases b
  · refine callF (Z := []) tabOK mixedOK Tryz.func60 rfl (by kernel_rfl) (by first | rfl | (simp [keylessL, keyless, keylessL_map, *]; done)) (by first | rfl | (simp [keylessL, keyless, keylessL_map, *]; done)) (by kernel_rfl) rfl ?_
    intro w0 ρ0 hE
    conv => whnf
    skip
    refine SWx_adopt (t := 7) (k := 2001) (s := 1) (blk := iblkM []) rfl rfl rfl ?_
    refine SW_loopN hE (fun k => k) [0, 1, 2, 7, 8] [2001] (fun m fr hp => m = 0 ∧ fr = [(0, ivec .i64 l), (1, iv n), (2, .val (.bool false)), (7, .slc 2001 1 0 0), (8, iv (0 : Nat))] ∧ hp = [(2001, iblkM [])]) 0 ?_ ?_ ?_
    · kernel_rfl
    · exact ⟨rfl, rfl, rfl⟩
    rintro m _ _ ⟨rfl, rfl, rfl⟩
    conv => whnf
    by_cases h0 : 0 < n
    · have t1 : decide (((0 : Nat) : Int) < (n : Int)) = true := dlt h0
      (repeat ((first | refine step_w2 rfl rfl ?_ | refine g_o (op_pickT rfl (ev_ok rfl) (ev_ok rfl)) ?_ | refine tst_tt t1 ?_ | rw [t1]); conv => whnf))
      refine SW_loopN hE (fun k => k) [0, 1, 7, 9] [2001] (fun m fr hp => ∃ j : Nat, m = l.length - j ∧ j ≤ l.length ∧ (n = 0 → j = 0) ∧ fr = [(0, ivec .i64 l), (1, iv n), (7, .slc 2001 1 0 (0 + j)), (9, iv (j : Nat))] ∧ hp = [(2001, iblkM (([] : List Int) ++ (l.take j).map (plF n)))]) l.length ?_ ?_ ?_
      · kernel_rfl
      · exact ⟨0, rfl, Nat.zero_le _, fun _ => rfl, rfl, by rw [show (([] : List Int) ++ (l.take 0).map (plF n)) = ([] : List Int) from by simp]; rfl⟩
      rintro m _ _ ⟨j, rfl, hj, hj0, rfl, rfl⟩
      have lq : (([] : List Int) ++ (l.take j).map (plF n)).length = 0 + j := by simp; omega
      conv => whnf
      by_cases hlt : j < l.length
      · have u1 := dlt hlt
        by_cases hn0 : 0 < n
        · have u2 : decide ((n : Int) > 0) = true := decide_eq_true (by omega)
          have u3 := winc (i := j) (by omega)
          obtain ⟨w1, w2, w3⟩ := wrap_mod (hb _ (getD_mem (d := 0) hlt)) hn0 (by omega)
          have e1 := app_int (l := ([] : List Int) ++ (l.take j).map (plF n)) (x := plF n (l.getD j 0))
          rw [List.append_assoc, ← take_snocI hlt, lq] at e1
          by_cases hneg : (l.getD j 0).tmod n < 0
          · have u4 : decide ((l.getD j 0).tmod n < 0) = true := decide_eq_true hneg
            have w2 := w2 hneg
            (repeat ((first | refine step_oA (by first | omega | decide | (simp only [tiB5, tiB66, tiB3, tiB2, tiB9, tiB43, tiB87, tiB29, tiB33, tiB41, tiB35, tiB4, tiB83, tiB85, tiB121, tiB31, tiB82, tiB37, dlen, List.length_replicate, List.length_set, List.length_map, List.length_zipWith, List.length_take, List.length_append, List.length_cons, List.length_nil]; omega)) ?_ | refine step_oN (by first | omega | decide | (simp only [tiB5, tiB66, tiB3, tiB2, tiB9, tiB43, tiB87, tiB29, tiB33, tiB41, tiB35, tiB4, tiB83, tiB85, tiB121, tiB31, tiB82, tiB37, dlen, List.length_replicate, List.length_set, List.length_map, List.length_zipWith, List.length_take, List.length_append, List.length_cons, List.length_nil]; omega)) ?_ | refine g_o (op_pickT rfl (ev_ok rfl) (ev_ok rfl)) ?_ | refine tst_tt u1 ?_ | refine tst_tt u2 ?_ | refine tst_tt u4 ?_ | refine g_o (op_lenM rfl rfl rfl (ev_ok rfl) (tgt rfl) rfl) ?_ | refine g_o (op_loadA rfl (ev_ok rfl) (tgt rfl) rfl (Nat.succ_ne_zero _) rfl) ?_ | refine g_o (op_indexN (α := Int) (d := 0) rfl (ev_ok rfl) (ev_ok rfl) (tgt rfl) rfl (tgt rfl) rfl (by omega)) ?_ | rw [u1] | rw [u2] | rw [u4] | rw [u3] | rw [w2] | rw [Nat.zero_add]); conv => whnf))
            refine ⟨l.length - (j + 1), renBy [(47, 2001)], [0, 1, 7, 9], [47], by omega, by kernel_rfl, j + 1, rfl, hlt, fun h => by omega, by first | rfl | (rw [Nat.zero_add]; rfl), ?_⟩
            rw [e1]; first | rfl | (rw [Nat.zero_add]; rfl)
          · have u4 : decide ((l.getD j 0).tmod n < 0) = false := decide_eq_false hneg
            have w3 := w3 hneg
            (repeat ((first | refine step_oA (by first | omega | decide | (simp only [tiB5, tiB66, tiB3, tiB2, tiB9, tiB43, tiB87, tiB29, tiB33, tiB41, tiB35, tiB4, tiB83, tiB85, tiB121, tiB31, tiB82, tiB37, dlen, List.length_replicate, List.length_set, List.length_map, List.length_zipWith, List.length_take, List.length_append, List.length_cons, List.length_nil]; omega)) ?_ | refine step_oN (by first | omega | decide | (simp only [tiB5, tiB66, tiB3, tiB2, tiB9, tiB43, tiB87, tiB29, tiB33, tiB41, tiB35, tiB4, tiB83, tiB85, tiB121, tiB31, tiB82, tiB37, dlen, List.length_replicate, List.length_set, List.length_map, List.length_zipWith, List.length_take, List.length_append, List.length_cons, List.length_nil]; omega)) ?_ | refine g_o (op_pickT rfl (ev_ok rfl) (ev_ok rfl)) ?_ | refine tst_tt u1 ?_ | refine tst_tt u2 ?_ | refine tst_ff u4 ?_ | refine g_o (op_lenM rfl rfl rfl (ev_ok rfl) (tgt rfl) rfl) ?_ | refine g_o (op_loadA rfl (ev_ok rfl) (tgt rfl) rfl (Nat.succ_ne_zero _) rfl) ?_ | refine g_o (op_indexN (α := Int) (d := 0) rfl (ev_ok rfl) (ev_ok rfl) (tgt rfl) rfl (tgt rfl) rfl (by omega)) ?_ | rw [u1] | rw [u2] | rw [u4] | rw [u3] | rw [Nat.zero_add]); conv => whnf))
            refine ⟨l.length - (j + 1), renBy [(47, 2001)], [0, 1, 7, 9], [47], by omega, by kernel_rfl, j + 1, rfl, hlt, fun h => by omega, by first | rfl | (rw [Nat.zero_add]; rfl), ?_⟩
            rw [e1, ← w3]; first | rfl | (rw [Nat.zero_add]; rfl)
        · have u2 : decide ((n : Int) > 0) = false := decide_eq_false (by omega)
          obtain rfl := hj0 (by omega)
          (repeat ((first | refine g_o (op_pickT rfl (ev_ok rfl) (ev_ok rfl)) ?_ | refine tst_tt u1 ?_ | refine tst_ff u2 ?_ | refine g_o (op_lenM rfl rfl rfl (ev_ok rfl) (tgt rfl) rfl) ?_ | rw [u1] | rw [Nat.zero_add]); conv => whnf))
          rw [show places l n false = ([] : List Int) ++ (l.take 0).map (plF n) by simp [places]; omega]
          (first | exact Recast.refl _ | exact Frz.recast (Recast.refl _) rfl | (refine Frz.one rfl rfl ?_; (repeat (first | (refine FrzC.ints rfl ?_; (first | rfl | omega | (simp <;> fail) | (simp <;> omega)))))) | (refine Frz.tup ?_; skip))
      · have u1 := dge hlt
        obtain rfl : j = l.length := by omega
        (repeat ((first | refine step_w2 rfl rfl ?_ | refine g_o (op_pickF rfl (ev_ok rfl) (ev_ok rfl)) ?_ | refine tst_ff u1 ?_ | refine g_o (op_lenM rfl rfl rfl (ev_ok rfl) (tgt rfl) rfl) ?_ | rw [u1] | rw [Nat.zero_add]); conv => whnf))
        rw [show places l n false = ([] : List Int) ++ (l.take l.length).map (plF n) by
          rw [List.take_length]
          by_cases hn0 : n = 0
          · have := hj0 hn0
            have hl0 : l = [] := List.length_eq_zero_iff.1 this
            simp [places, hl0]
          · simp [places, hn0]]
        (first | exact Recast.refl _ | exact Frz.recast (Recast.refl _) rfl | (refine Frz.one rfl rfl ?_; (repeat (first | (refine FrzC.ints rfl ?_; (first | rfl | omega | (simp <;> fail) | (simp <;> omega)))))) | (refine Frz.tup ?_; skip))
    · have t1 : decide (((0 : Nat) : Int) < (n : Int)) = false := dge h0
      (repeat ((first | refine step_w2 rfl rfl ?_ | refine g_o (op_pickF rfl (ev_ok rfl) (ev_ok rfl)) ?_ | refine tst_ff t1 ?_ | rw [t1]); conv => whnf))
      refine SW_loopN hE (fun k => k) [0, 1, 7, 9] [2001] (fun m fr hp => ∃ j : Nat, m = l.length - j ∧ j ≤ l.length ∧ (n = 0 → j = 0) ∧ fr = [(0, ivec .i64 l), (1, iv n), (7, .slc 2001 1 0 (0 + j)), (9, iv (j : Nat))] ∧ hp = [(2001, iblkM (([] : List Int) ++ (l.take j).map (plF n)))]) l.length ?_ ?_ ?_
      · kernel_rfl
      · exact ⟨0, rfl, Nat.zero_le _, fun _ => rfl, rfl, by rw [show (([] : List Int) ++ (l.take 0).map (plF n)) = ([] : List Int) from by simp]; rfl⟩
      rintro m _ _ ⟨j, rfl, hj, hj0, rfl, rfl⟩
      have lq : (([] : List Int) ++ (l.take j).map (plF n)).length = 0 + j := by simp; omega
      conv => whnf
      by_cases hlt : j < l.length
      · have u1 := dlt hlt
        by_cases hn0 : 0 < n
        · have u2 : decide ((n : Int) > 0) = true := decide_eq_true (by omega)
          have u3 := winc (i := j) (by omega)
          obtain ⟨w1, w2, w3⟩ := wrap_mod (hb _ (getD_mem (d := 0) hlt)) hn0 (by omega)
          have e1 := app_int (l := ([] : List Int) ++ (l.take j).map (plF n)) (x := plF n (l.getD j 0))
          rw [List.append_assoc, ← take_snocI hlt, lq] at e1
          by_cases hneg : (l.getD j 0).tmod n < 0
          · have u4 : decide ((l.getD j 0).tmod n < 0) = true := decide_eq_true hneg
            have w2 := w2 hneg
            (repeat ((first | refine step_oA (by first | omega | decide | (simp only [tiB5, tiB66, tiB3, tiB2, tiB9, tiB43, tiB87, tiB29, tiB33, tiB41, tiB35, tiB4, tiB83, tiB85, tiB121, tiB31, tiB82, tiB37, dlen, List.length_replicate, List.length_set, List.length_map, List.length_zipWith, List.length_take, List.length_append, List.length_cons, List.length_nil]; omega)) ?_ | refine step_oN (by first | omega | decide | (simp only [tiB5, tiB66, tiB3, tiB2, tiB9, tiB43, tiB87, tiB29, tiB33, tiB41, tiB35, tiB4, tiB83, tiB85, tiB121, tiB31, tiB82, tiB37, dlen, List.length_replicate, List.length_set, List.length_map, List.length_zipWith, List.length_take, List.length_append, List.length_cons, List.length_nil]; omega)) ?_ | refine g_o (op_pickT rfl (ev_ok rfl) (ev_ok rfl)) ?_ | refine tst_tt u1 ?_ | refine tst_tt u2 ?_ | refine tst_tt u4 ?_ | refine g_o (op_lenM rfl rfl rfl (ev_ok rfl) (tgt rfl) rfl) ?_ | refine g_o (op_loadA rfl (ev_ok rfl) (tgt rfl) rfl (Nat.succ_ne_zero _) rfl) ?_ | refine g_o (op_indexN (α := Int) (d := 0) rfl (ev_ok rfl) (ev_ok rfl) (tgt rfl) rfl (tgt rfl) rfl (by omega)) ?_ | rw [u1] | rw [u2] | rw [u4] | rw [u3] | rw [w2] | rw [Nat.zero_add]); conv => whnf))
            refine ⟨l.length - (j + 1), renBy [(47, 2001)], [0, 1, 7, 9], [47], by omega, by kernel_rfl, j + 1, rfl, hlt, fun h => by omega, by first | rfl | (rw [Nat.zero_add]; rfl), ?_⟩
            rw [e1]; first | rfl | (rw [Nat.zero_add]; rfl)
          · have u4 : decide ((l.getD j 0).tmod n < 0) = false := decide_eq_false hneg
            have w3 := w3 hneg
            (repeat ((first | refine step_oA (by first | omega | decide | (simp only [tiB5, tiB66, tiB3, tiB2, tiB9, tiB43, tiB87, tiB29, tiB33, tiB41, tiB35, tiB4, tiB83, tiB85, tiB121, tiB31, tiB82, tiB37, dlen, List.length_replicate, List.length_set, List.length_map, List.length_zipWith, List.length_take, List.length_append, List.length_cons, List.length_nil]; omega)) ?_ | refine step_oN (by first | omega | decide | (simp only [tiB5, tiB66, tiB3, tiB2, tiB9, tiB43, tiB87, tiB29, tiB33, tiB41, tiB35, tiB4, tiB83, tiB85, tiB121, tiB31, tiB82, tiB37, dlen, List.length_replicate, List.length_set, List.length_map, List.length_zipWith, List.length_take, List.length_append, List.length_cons, List.length_nil]; omega)) ?_ | refine g_o (op_pickT rfl (ev_ok rfl) (ev_ok rfl)) ?_ | refine tst_tt u1 ?_ | refine tst_tt u2 ?_ | refine tst_ff u4 ?_ | refine g_o (op_lenM rfl rfl rfl (ev_ok rfl) (tgt rfl) rfl) ?_ | refine g_o (op_loadA rfl (ev_ok rfl) (tgt rfl) rfl (Nat.succ_ne_zero _) rfl) ?_ | refine g_o (op_indexN (α := Int) (d := 0) rfl (ev_ok rfl) (ev_ok rfl) (tgt rfl) rfl (tgt rfl) rfl (by omega)) ?_ | rw [u1] | rw [u2] | rw [u4] | rw [u3] | rw [Nat.zero_add]); conv => whnf))
            refine ⟨l.length - (j + 1), renBy [(47, 2001)], [0, 1, 7, 9], [47], by omega, by kernel_rfl, j + 1, rfl, hlt, fun h => by omega, by first | rfl | (rw [Nat.zero_add]; rfl), ?_⟩
            rw [e1, ← w3]; first | rfl | (rw [Nat.zero_add]; rfl)
        · have u2 : decide ((n : Int) > 0) = false := decide_eq_false (by omega)
          obtain rfl := hj0 (by omega)
          (repeat ((first | refine g_o (op_pickT rfl (ev_ok rfl) (ev_ok rfl)) ?_ | refine tst_tt u1 ?_ | refine tst_ff u2 ?_ | refine g_o (op_lenM rfl rfl rfl (ev_ok rfl) (tgt rfl) rfl) ?_ | rw [u1] | rw [Nat.zero_add]); conv => whnf))
          rw [show places l n false = ([] : List Int) ++ (l.take 0).map (plF n) by simp [places]; omega]
          (first | exact Recast.refl _ | exact Frz.recast (Recast.refl _) rfl | (refine Frz.one rfl rfl ?_; (repeat (first | (refine FrzC.ints rfl ?_; (first | rfl | omega | (simp <;> fail) | (simp <;> omega)))))) | (refine Frz.tup ?_; skip))
      · have u1 := dge hlt
        obtain rfl : j = l.length := by omega
        (repeat ((first | refine step_w2 rfl rfl ?_ | refine g_o (op_pickF rfl (ev_ok rfl) (ev_ok rfl)) ?_ | refine tst_ff u1 ?_ | refine g_o (op_lenM rfl rfl rfl (ev_ok rfl) (tgt rfl) rfl) ?_ | rw [u1] | rw [Nat.zero_add]); conv => whnf))
        rw [show places l n false = ([] : List Int) ++ (l.take l.length).map (plF n) by
          rw [List.take_length]
          by_cases hn0 : n = 0
          · have := hj0 hn0
            have hl0 : l = [] := List.length_eq_zero_iff.1 this
            simp [places, hl0]
          · simp [places, hn0]]
        (first | exact Recast.refl _ | exact Frz.recast (Recast.refl _) rfl | (refine Frz.one rfl rfl ?_; (repeat (first | (refine FrzC.ints rfl ?_; (first | rfl | omega | (simp <;> fail) | (simp <;> omega)))))) | (refine Frz.tup ?_; skip))
  · refine callF (Z := []) tabOK mixedOK Tryz.func60 rfl (by kernel_rfl) (by first | rfl | (simp [keylessL, keyless, keylessL_map, *]; done)) (by first | rfl | (simp [keylessL, keyless, keylessL_map, *]; done)) (by kernel_rfl) rfl ?_
    intro w0 ρ0 hE
    conv => whnf
    skip
    refine SWx_adopt (t := 7) (k := 2001) (s := 1) (blk := iblkM []) rfl rfl rfl ?_
    have hrl : (List.range n).length = n := List.length_range
    have lr : ((List.range n).map (fun i => ((i : Nat) : Int))).length = n := by simp
    refine SW_loopN hE (fun k => k) [0, 1, 2, 7, 8] [2001] (fun m fr hp => ∃ i : Nat, m = n - i ∧ i ≤ n ∧ fr = [(0, ivec .i64 l), (1, iv n), (2, .val (.bool true)), (7, .slc 2001 1 0 i), (8, iv (i : Nat))] ∧ hp = [(2001, iblkM (((List.range n).map (fun i => ((i : Nat) : Int))).take i))]) n ?_ ?_ ?_
    · kernel_rfl
    · exact ⟨0, rfl, Nat.zero_le _, rfl, rfl⟩
    rintro m _ _ ⟨i, rfl, hi, rfl, rfl⟩
    have lt : (((List.range n).map (fun i => ((i : Nat) : Int))).take i).length = i := by rw [List.length_take]; omega
    conv => whnf
    by_cases h0 : i < n
    · have t1 := dlt h0
      have t2 := winc (i := i) (by omega)
      have e1 := app_int (l := ((List.range n).map (fun i => ((i : Nat) : Int))).take i) (x := (i : Int))
      rw [lt] at e1
      have e2 : ((List.range n).map (fun i => ((i : Nat) : Int))).take (i + 1) = ((List.range n).map (fun i => ((i : Nat) : Int))).take i ++ [(i : Int)] := by
        rw [List.take_add_one, List.getElem?_map, List.getElem?_range h0]; rfl
      (repeat ((first | refine step_w1 rfl rfl ?_ | refine step_oA (by first | omega | decide | (simp only [tiB5, tiB66, tiB3, tiB2, tiB9, tiB43, tiB87, tiB29, tiB33, tiB41, tiB35, tiB4, tiB83, tiB85, tiB121, tiB31, tiB82, tiB37, dlen, List.length_replicate, List.length_set, List.length_map, List.length_zipWith, List.length_take, List.length_append, List.length_cons, List.length_nil]; omega)) ?_ | refine g_o (op_pickT rfl (ev_ok rfl) (ev_ok rfl)) ?_ | refine tst_tt t1 ?_ | rw [t1] | rw [t2]); conv => whnf))
      refine ⟨n - (i + 1), renBy [(22, 2001)], [0, 1, 2, 7, 8], [22], by omega, by kernel_rfl, i + 1, rfl, h0, rfl, ?_⟩
      rw [e2, e1]; rfl
    · have t1 := dge h0
      obtain rfl : n = i := by omega
      rw [List.take_of_length_le (by omega)]
      (repeat ((first | refine step_w2 rfl rfl ?_ | refine g_o (op_pickF rfl (ev_ok rfl) (ev_ok rfl)) ?_ | refine tst_ff t1 ?_ | rw [t1]); conv => whnf))
      refine SW_loopN hE (fun k => k) [0, 1, 7, 9] [2001] (fun m fr hp => ∃ j : Nat, m = l.length - j ∧ j ≤ l.length ∧ (n = 0 → j = 0) ∧ fr = [(0, ivec .i64 l), (1, iv n), (7, .slc 2001 1 0 (n + j)), (9, iv (j : Nat))] ∧ hp = [(2001, iblkM (((List.range n).map (fun i => ((i : Nat) : Int))) ++ (l.take j).map (plF n)))]) l.length ?_ ?_ ?_
      · kernel_rfl
      · exact ⟨0, rfl, Nat.zero_le _, fun _ => rfl, rfl, by rw [show (((List.range n).map (fun i => ((i : Nat) : Int))) ++ (l.take 0).map (plF n)) = ((List.range n).map (fun i => ((i : Nat) : Int))) from by simp]; rfl⟩
      rintro m _ _ ⟨j, rfl, hj, hj0, rfl, rfl⟩
      have lq : (((List.range n).map (fun i => ((i : Nat) : Int))) ++ (l.take j).map (plF n)).length = n + j := by simp; omega
      conv => whnf
      by_cases hlt : j < l.length
      · have u1 := dlt hlt
        by_cases hn0 : 0 < n
        · have u2 : decide ((n : Int) > 0) = true := decide_eq_true (by omega)
          have u3 := winc (i := j) (by omega)
          obtain ⟨w1, w2, w3⟩ := wrap_mod (hb _ (getD_mem (d := 0) hlt)) hn0 (by omega)
          have e1 := app_int (l := ((List.range n).map (fun i => ((i : Nat) : Int))) ++ (l.take j).map (plF n)) (x := plF n (l.getD j 0))
          rw [List.append_assoc, ← take_snocI hlt, lq] at e1
          by_cases hneg : (l.getD j 0).tmod n < 0
          · have u4 : decide ((l.getD j 0).tmod n < 0) = true := decide_eq_true hneg
            have w2 := w2 hneg
            (repeat ((first | refine step_oA (by first | omega | decide | (simp only [tiB5, tiB66, tiB3, tiB2, tiB9, tiB43, tiB87, tiB29, tiB33, tiB41, tiB35, tiB4, tiB83, tiB85, tiB121, tiB31, tiB82, tiB37, dlen, List.length_replicate, List.length_set, List.length_map, List.length_zipWith, List.length_take, List.length_append, List.length_cons, List.length_nil]; omega)) ?_ | refine step_oN (by first | omega | decide | (simp only [tiB5, tiB66, tiB3, tiB2, tiB9, tiB43, tiB87, tiB29, tiB33, tiB41, tiB35, tiB4, tiB83, tiB85, tiB121, tiB31, tiB82, tiB37, dlen, List.length_replicate, List.length_set, List.length_map, List.length_zipWith, List.length_take, List.length_append, List.length_cons, List.length_nil]; omega)) ?_ | refine g_o (op_pickT rfl (ev_ok rfl) (ev_ok rfl)) ?_ | refine tst_tt u1 ?_ | refine tst_tt u2 ?_ | refine tst_tt u4 ?_ | refine g_o (op_lenM rfl rfl rfl (ev_ok rfl) (tgt rfl) rfl) ?_ | refine g_o (op_loadA rfl (ev_ok rfl) (tgt rfl) rfl (Nat.succ_ne_zero _) rfl) ?_ | refine g_o (op_indexN (α := Int) (d := 0) rfl (ev_ok rfl) (ev_ok rfl) (tgt rfl) rfl (tgt rfl) rfl (by omega)) ?_ | rw [u1] | rw [u2] | rw [u4] | rw [u3] | rw [w2]); conv => whnf))
            refine ⟨l.length - (j + 1), renBy [(47, 2001)], [0, 1, 7, 9], [47], by omega, by kernel_rfl, j + 1, rfl, hlt, fun h => by omega, by first | rfl | (rw [Nat.zero_add]; rfl), ?_⟩
            rw [e1]; first | rfl | (rw [Nat.zero_add]; rfl)
          · have u4 : decide ((l.getD j 0).tmod n < 0) = false := decide_eq_false hneg
            have w3 := w3 hneg
            (repeat ((first | refine step_oA (by first | omega | decide | (simp only [tiB5, tiB66, tiB3, tiB2, tiB9, tiB43, tiB87, tiB29, tiB33, tiB41, tiB35, tiB4, tiB83, tiB85, tiB121, tiB31, tiB82, tiB37, dlen, List.length_replicate, List.length_set, List.length_map, List.length_zipWith, List.length_take, List.length_append, List.length_cons, List.length_nil]; omega)) ?_ | refine step_oN (by first | omega | decide | (simp only [tiB5, tiB66, tiB3, tiB2, tiB9, tiB43, tiB87, tiB29, tiB33, tiB41, tiB35, tiB4, tiB83, tiB85, tiB121, tiB31, tiB82, tiB37, dlen, List.length_replicate, List.length_set, List.length_map, List.length_zipWith, List.length_take, List.length_append, List.length_cons, List.length_nil]; omega)) ?_ | refine g_o (op_pickT rfl (ev_ok rfl) (ev_ok rfl)) ?_ | refine tst_tt u1 ?_ | refine tst_tt u2 ?_ | refine tst_ff u4 ?_ | refine g_o (op_lenM rfl rfl rfl (ev_ok rfl) (tgt rfl) rfl) ?_ | refine g_o (op_loadA rfl (ev_ok rfl) (tgt rfl) rfl (Nat.succ_ne_zero _) rfl) ?_ | refine g_o (op_indexN (α := Int) (d := 0) rfl (ev_ok rfl) (ev_ok rfl) (tgt rfl) rfl (tgt rfl) rfl (by omega)) ?_ | rw [u1] | rw [u2] | rw [u4] | rw [u3]); conv => whnf))
            refine ⟨l.length - (j + 1), renBy [(47, 2001)], [0, 1, 7, 9], [47], by omega, by kernel_rfl, j + 1, rfl, hlt, fun h => by omega, by first | rfl | (rw [Nat.zero_add]; rfl), ?_⟩
            rw [e1, ← w3]; first | rfl | (rw [Nat.zero_add]; rfl)
        · have u2 : decide ((n : Int) > 0) = false := decide_eq_false (by omega)
          obtain rfl := hj0 (by omega)
          (repeat ((first | refine g_o (op_pickT rfl (ev_ok rfl) (ev_ok rfl)) ?_ | refine tst_tt u1 ?_ | refine tst_ff u2 ?_ | refine g_o (op_lenM rfl rfl rfl (ev_ok rfl) (tgt rfl) rfl) ?_ | rw [u1]); conv => whnf))
          rw [show places l n true = ((List.range n).map (fun i => ((i : Nat) : Int))) ++ (l.take 0).map (plF n) by simp [places]; omega]
          (first | exact Recast.refl _ | exact Frz.recast (Recast.refl _) rfl | (refine Frz.one rfl rfl ?_; (repeat (first | (refine FrzC.ints rfl ?_; (first | rfl | omega | (simp <;> fail) | (simp <;> omega)))))) | (refine Frz.tup ?_; skip))
      · have u1 := dge hlt
        obtain rfl : j = l.length := by omega
        (repeat ((first | refine step_w2 rfl rfl ?_ | refine g_o (op_pickF rfl (ev_ok rfl) (ev_ok rfl)) ?_ | refine tst_ff u1 ?_ | refine g_o (op_lenM rfl rfl rfl (ev_ok rfl) (tgt rfl) rfl) ?_ | rw [u1]); conv => whnf))
        rw [show places l n true = ((List.range n).map (fun i => ((i : Nat) : Int))) ++ (l.take l.length).map (plF n) by
          rw [List.take_length]
          by_cases hn0 : n = 0
          · have := hj0 hn0
            have hl0 : l = [] := List.length_eq_zero_iff.1 this
            simp [places, hl0]
          · simp [places, hn0]]
        (first | exact Recast.refl _ | exact Frz.recast (Recast.refl _) rfl | (refine Frz.one rfl rfl ?_; (repeat (first | (refine FrzC.ints rfl ?_; (first | rfl | omega | (simp <;> fail) | (simp <;> omega)))))) | (refine Frz.tup ?_; skip))
end Go.Proofs.YtcincnngdohfnaaGreatDoor

namespace Go.Proofs.YtcincnngdohfnaaGreatDoor
open Go.Sx
set_option linter.unusedSimpArgs false
set_option linter.unusedVariables false
set_option maxRecDepth 100000
set_option maxHeartbeats 40000000

theorem places_nil (n : Nat) : places [] n true = (List.range n).map (fun i => ((i : Nat) : Int)) := by simp [places]
theorem places_nil_len (n : Nat) : (places [] n true).length = n := by rw [places_nil]; simp
theorem places_nil_get {n i : Nat} (h : i < n) : ((places [] n true).getD i 0).toNat = i := by rw [places_nil, take_range n i h]; simp
theorem places_len_le (l : List Int) (n : Nat) : (places l n false).length ≤ l.length := by
  simp only [places, Bool.false_eq_true, if_false, List.nil_append]
  split <;> simp
theorem part_id {n k : Nat} {X : List Rat} (hX : X.length = n * k) : mpart k X (places [] n true) (places [] k true) = X := by
  unfold mpart
  rw [places_nil_len, places_nil_len]
  exact mk_ext hX fun i j hi hj => by rw [places_nil_get hi, places_nil_get hj]
theorem part_el {k : Nat} {X : List Rat} {A B : List Int} {i j : Nat} (hi : i < A.length) (hj : j < B.length) : el (mpart k X A B) B.length i j = el X k (A.getD i 0).toNat (B.getD j 0).toNat := mk_el hi hj
theorem part_turn {n k : Nat} {X : List Rat} {A B : List Int} (hA : ∀ x ∈ A, 0 ≤ x ∧ x < (n : Int)) (hB : ∀ x ∈ B, 0 ≤ x ∧ x < (k : Int)) : mpart n (mturn n k X) B A = mturn A.length B.length (mpart k X A B) := by
  refine mk_congr fun i j hi hj => ?_
  have h1 := hA _ (getD_mem (d := 0) hj)
  have h2 := hB _ (getD_mem (d := 0) hi)
  rw [mk_el (by omega) (by omega)]
  exact (part_el hj hi).symm
/-- The indices picked among indices. -/
def thenL (A K : List Int) : List Int := K.map fun x => A.getD x.toNat 0
theorem part_part {k : Nat} {X : List Rat} {A B K : List Int} (hK : ∀ x ∈ K, 0 ≤ x ∧ x < (A.length : Int)) : mpart B.length (mpart k X A B) K (places [] B.length true) = mpart k X (thenL A K) B := by
  have hl : (thenL A K).length = K.length := by simp [thenL]
  unfold mpart
  rw [places_nil_len, hl]
  refine mk_congr fun i j hi hj => ?_
  have h1 := hK _ (getD_mem (d := 0) hi)
  rw [places_nil_get hj]
  have e : (thenL A K).getD i 0 = A.getD (K.getD i 0).toNat 0 := by
    simp [thenL, List.getD_eq_getElem?_getD, hi]
  rw [e]
  exact part_el (by omega) hj
/-- The first p columns. -/
def cutS (n k : Nat) (X : List Rat) (p : Nat) : List Rat := mk n k fun i j => if j < p then el X k i j else 0
theorem cutS_all {n k : Nat} {X : List Rat} (hX : X.length = n * k) : cutS n k X k = X := mk_ext hX fun i j _ hj => if_pos hj
theorem cutS_zero {n k : Nat} {X : List Rat} : cutS n k X 0 = mk n k fun _ _ => 0 := mk_congr fun i j _ _ => if_neg (by omega)
theorem unit_get {k p j : Nat} (hj : j < k) : ((List.replicate k (0 : Rat)).set p 1).getD j 0 = if p = j then 1 else 0 := by
  rw [List.getD_eq_getElem?_getD, List.getElem?_set]
  by_cases h : p = j
  · subst h; simp [hj]
  · simp [h, hj]
theorem cutS_next {n k p : Nat} {X : List Rat} (hp : p < k) : vadd (cutS n k X p) (mk n k fun i j => (colF n k X p).getD i 0 * ((List.replicate k (0 : Rat)).set p 1).getD j 0) = cutS n k X (p + 1) := by
  unfold cutS
  rw [madd_mk (mk_len ..) (mk_len ..)]
  refine mk_congr fun i j hi hj => ?_
  rw [mk_el hi hj, mk_el hi hj, colF_get hi, unit_get hj]
  by_cases h : p = j
  · subst h
    rw [if_neg (by omega), if_pos rfl, if_pos (by omega)]; grind
  · by_cases h2 : j < p
    · rw [if_pos h2, if_neg h, if_pos (by omega)]; grind
    · rw [if_neg h2, if_neg h, if_neg (by omega)]; grind
theorem Sm_cutS {n k p B : Nat} {X : List Rat} (hX : X.length = n * k) (sX : Sm B X) (hB : 2 ≤ B) : Sm B (cutS n k X p) := Sm_mk fun i j hi hj => by
  by_cases h : j < p
  · rw [if_pos h]; exact el_sm sX hX hi hj
  · rw [if_neg h, fs_zero]; exact hB
theorem Sm_col {n k p B : Nat} {X : List Rat} (hX : X.length = n * k) (sX : Sm B X) (hp : p < k) : Sm B (colF n k X p) := by
  intro i hi
  rw [List.length_map, List.length_range] at hi
  rw [colF_get hi]; exact el_sm sX hX hi hp
theorem m_Zero1 (i k : Nat) : CallOK Tryz.prog 58 ([] ++ ([iv (i : Nat), iv (k : Nat)] ++ [])) [] (.frac 0) [] [] := by
  refine callV (Z := []) tabOK mixedOK Tryz.func58 rfl (by kernel_rfl) rfl rfl (by kernel_rfl) rfl ?_
  intro W0 w0 ρ0 hE
  conv => whnf
  skip; (first | exact Recast.refl _ | exact Frz.recast (Recast.refl _) rfl | (refine Frz.one rfl rfl ?_; skip) | (refine Frz.tup ?_; skip))
end Go.Proofs.YtcincnngdohfnaaGreatDoor

namespace Go.Proofs.YtcincnngdohfnaaGreatDoor
open Go.Sx
set_option linter.unusedSimpArgs false
set_option linter.unusedVariables false
set_option maxRecDepth 100000
set_option maxHeartbeats 40000000

theorem c_Parts (a : MM) (rows cols again : List Int) (ha : mOK a) (h1 : ∀ p ∈ rows, -9223372036854775808 ≤ p ∧ p < 9223372036854775808) (h2 : ∀ p ∈ cols, -9223372036854775808 ≤ p ∧ p < 9223372036854775808) (h3 : ∀ p ∈ again, -9223372036854775808 ≤ p ∧ p < 9223372036854775808)
    (lr : rows.length ≤ maxLen) (lc : cols.length ≤ maxLen) (lg : again.length ≤ maxLen) :
    CallOK Tryz.prog 9 [mQ a, ivec .i64 rows, ivec .i64 cols, ivec .i64 again] [] (.val (.bool true)) [] [] := by
  have kw := l_works13
  have kf := c_fewL [a] (by simp) (by intro m hm; simp only [List.mem_cons, List.not_mem_nil, or_false] at hm; obtain rfl := hm; assumption)
  cases hF : [a].all fun m => decide (m.2.2.length ≤ 40)
  · rw [hF] at kf
    refine callV (Z := [4, 39]) tabOK mixedOK Tryz.func9 rfl (by kernel_rfl) rfl rfl (by kernel_rfl) rfl ?_
    intro W0 w0 ρ0 hE
    conv => whnf
    (repeat ((first | refine step_w1 rfl rfl ?_ | refine step_w2 rfl rfl ?_ | refine g_c (by assumption) ?_ | refine g_o (op_pickT rfl (ev_ok rfl) (ev_ok rfl)) ?_ | refine g_o (op_loadA rfl (ev_ok rfl) (tgt rfl) rfl (Nat.succ_ne_zero _) rfl) ?_); conv => whnf)); (first | exact Recast.refl _ | exact Frz.recast (Recast.refl _) rfl | (refine Frz.one rfl rfl ?_; skip) | (refine Frz.tup ?_; skip))
  rw [hF] at kf
  by_cases hl1 : rows.length > 8
  · have t1 : decide ((rows.length : Int) > 8) = true := decide_eq_true (by omega)
    refine callV (Z := [4, 39]) tabOK mixedOK Tryz.func9 rfl (by kernel_rfl) rfl rfl (by kernel_rfl) rfl ?_
    intro W0 w0 ρ0 hE
    conv => whnf
    (repeat ((first | refine step_w1 rfl rfl ?_ | refine step_w2 rfl rfl ?_ | refine g_c (by assumption) ?_ | refine g_o (op_pickT rfl (ev_ok rfl) (ev_ok rfl)) ?_ | refine g_o (op_pickF rfl (ev_ok rfl) (ev_ok rfl)) ?_ | refine g_o (op_lenM rfl rfl rfl (ev_ok rfl) (tgt rfl) rfl) ?_ | refine g_o (op_loadA rfl (ev_ok rfl) (tgt rfl) rfl (Nat.succ_ne_zero _) rfl) ?_ | rw [t1]); conv => whnf)); (first | exact Recast.refl _ | exact Frz.recast (Recast.refl _) rfl | (refine Frz.one rfl rfl ?_; skip) | (refine Frz.tup ?_; skip))
  have t1 : decide ((rows.length : Int) > 8) = false := decide_eq_false (by omega)
  by_cases hl2 : cols.length > 8
  · have t2 : decide ((cols.length : Int) > 8) = true := decide_eq_true (by omega)
    refine callV (Z := [4, 39]) tabOK mixedOK Tryz.func9 rfl (by kernel_rfl) rfl rfl (by kernel_rfl) rfl ?_
    intro W0 w0 ρ0 hE
    conv => whnf
    (repeat ((first | refine step_w1 rfl rfl ?_ | refine step_w2 rfl rfl ?_ | refine g_c (by assumption) ?_ | refine g_o (op_pickT rfl (ev_ok rfl) (ev_ok rfl)) ?_ | refine g_o (op_pickF rfl (ev_ok rfl) (ev_ok rfl)) ?_ | refine g_o (op_lenM rfl rfl rfl (ev_ok rfl) (tgt rfl) rfl) ?_ | refine g_o (op_loadA rfl (ev_ok rfl) (tgt rfl) rfl (Nat.succ_ne_zero _) rfl) ?_ | rw [t1] | rw [t2]); conv => whnf)); (first | exact Recast.refl _ | exact Frz.recast (Recast.refl _) rfl | (refine Frz.one rfl rfl ?_; skip) | (refine Frz.tup ?_; skip))
  have t2 : decide ((cols.length : Int) > 8) = false := decide_eq_false (by omega)
  by_cases hl3 : again.length > 8
  · have t3 : decide ((again.length : Int) > 8) = true := decide_eq_true (by omega)
    refine callV (Z := [4, 39]) tabOK mixedOK Tryz.func9 rfl (by kernel_rfl) rfl rfl (by kernel_rfl) rfl ?_
    intro W0 w0 ρ0 hE
    conv => whnf
    (repeat ((first | refine step_w1 rfl rfl ?_ | refine g_c (by assumption) ?_ | refine g_o (op_pickF rfl (ev_ok rfl) (ev_ok rfl)) ?_ | refine tst_tt t3 ?_ | refine g_o (op_lenM rfl rfl rfl (ev_ok rfl) (tgt rfl) rfl) ?_ | refine g_o (op_loadA rfl (ev_ok rfl) (tgt rfl) rfl (Nat.succ_ne_zero _) rfl) ?_ | rw [t1] | rw [t2]); conv => whnf)); (first | exact Recast.refl _ | exact Frz.recast (Recast.refl _) rfl | (refine Frz.one rfl rfl ?_; skip) | (refine Frz.tup ?_; skip))
  have t3 : decide ((again.length : Int) > 8) = false := decide_eq_false (by omega)
  have ks := c_Sides a ha
  have km := c_MOf a ha
  have n6 := side_le a.1
  have k6 := side_le a.2.1
  generalize (a.1 % 7).toNat = n at *
  generalize (a.2.1 % 7).toNat = k at *
  have hX := OKM_some a.2.2 (r := n) (c := k) (by omega) (by omega)
  have sX := Sm_some ha.2.2.2 (n * k)
  generalize someL a.2.2 (n * k) = X at *
  clear hF ha
  have hXl := hX.n
  have o1 := m_Make0 (r := n) (c := k) (by omega) (by omega) (fun _ _ => 0) 58 (fun i k _ _ => m_Zero1 i k)
  rw [← cutS_zero (X := X)] at o1
  have p1 := (c_places [] (by decide) (by intro p hp; cases hp) (n := n) (by omega) true).wk (args := [.val (.slice none 0 0), iv n, .val (.bool true)]) (by repeat (first | exact WkL.nil | refine WkL.cons ?_ ?_ | exact Wk.nil | exact Wk.refl | refine Wk.agg ?_))
  have p2 := (c_places [] (by decide) (by intro p hp; cases hp) (n := k) (by omega) true).wk (args := [.val (.slice none 0 0), iv k, .val (.bool true)]) (by repeat (first | exact WkL.nil | refine WkL.cons ?_ ?_ | exact Wk.nil | exact Wk.refl | refine Wk.agg ?_))
  have o2 := m_Part hX (places [] n true) (places [] k true) (by rw [places_nil_len]; omega) (by rw [places_nil_len]; omega) places_in places_in
  rw [part_id hXl, places_nil_len, places_nil_len] at o2
  have q1 := m_SameT hX rfl
  have p3 := c_places rows (by omega) h1 (n := n) (by omega) false
  have p4 := c_places cols (by omega) h2 (n := k) (by omega) false
  have lA := places_len_le rows n
  have lO := places_len_le cols k
  have iA : ∀ x ∈ places rows n false, 0 ≤ x ∧ x < (n : Int) := places_in
  have iO : ∀ x ∈ places cols k false, 0 ≤ x ∧ x < (k : Int) := places_in
  generalize places rows n false = A at *
  generalize places cols k false = O at *
  have o3 := m_Part hX A O (by omega) (by omega) iA iO
  have o4 := l_turnM hX
  have o5 := m_Part (OKM_turn hX) O A (by omega) (by omega) iO iA
  rw [part_turn iA iO] at o5
  have hP : OKM A.length O.length (mpart k X A O) := OKM_mk (by omega) (by omega)
  have o6 := l_turnM hP
  have q2 := m_SameT (OKM_turn hP) rfl
  have p5 := c_places again (by omega) h3 (n := A.length) (by omega) false
  have lK := places_len_le again A.length
  have iK : ∀ x ∈ places again A.length false, 0 ≤ x ∧ x < (A.length : Int) := places_in
  generalize places again A.length false = K at *
  have p6 := (c_places [] (by decide) (by intro p hp; cases hp) (n := O.length) (by omega) true).wk (args := [.val (.slice none 0 0), iv O.length, .val (.bool true)]) (by repeat (first | exact WkL.nil | refine WkL.cons ?_ ?_ | exact Wk.nil | exact Wk.refl | refine Wk.agg ?_))
  have o7 := m_Part hP K (places [] O.length true) (by omega) (by rw [places_nil_len]; omega) iK places_in
  rw [part_part iK, places_nil_len] at o7
  have lT : (thenL A K).length = K.length := by simp [thenL]
  have iT : ∀ x ∈ thenL A K, 0 ≤ x ∧ x < (n : Int) := by
    intro x hx
    obtain ⟨y, hy, rfl⟩ := List.mem_map.1 hx
    have := iK y hy
    exact iA _ (getD_mem (by omega))
  have o8 := m_Part hX (thenL A K) O (by omega) (by omega) iT iO
  have hQ : OKM (thenL A K).length O.length (mpart k X (thenL A K) O) := OKM_mk (by omega) (by omega)
  have q3 := m_SameT hQ rfl
  rw [← lT] at o7
  have gP : ∀ i j, i < A.length → j < O.length → (mpart k X A O).getD (i * O.length + j) 0 = el X k (A.getD i 0).toNat (O.getD j 0).toNat := fun i j hi hj => part_el hi hj
  have lP : (mpart k X A O).length = A.length * O.length := mk_len ..
  have gT : ∀ j, j < K.length → (thenL A K).getD j 0 = A.getD (K.getD j 0).toNat 0 := fun j hj => by simp [thenL, List.getD_eq_getElem?_getD, hj]
  generalize mturn A.length O.length (mpart k X A O) = PT at *
  generalize mpart k X A O = P at *
  generalize mpart k X (thenL A K) O = Q at *
  have hAO := Nat.mul_le_mul (show A.length ≤ 8 by omega) (show O.length ≤ 8 by omega)
  have w0' : IntKind.i64.wrap ((A.length : Int) * (O.length : Int)) = ((A.length * O.length : Nat) : Int) := by rw [← Int.natCast_mul, wrap_i64 (by omega) (by omega)]
  have t4 : ((P.length : Int) != ((A.length * O.length : Nat) : Int)) = false := by rw [lP]; exact bne_self_eq_false _
  refine callF (Z := [4, 39]) tabOK mixedOK Tryz.func9 rfl (by kernel_rfl) (by first | rfl | (simp [keylessL, keyless, keylessL_map, *]; done)) (by first | rfl | (simp [keylessL, keyless, keylessL_map, *]; done)) (by kernel_rfl) rfl ?_
  intro w0 ρ0 hE
  conv => whnf
  (repeat ((first | refine step_w1 rfl rfl ?_ | refine g_c (by assumption) ?_ | refine g_o (op_pickF rfl (ev_ok rfl) (ev_ok rfl)) ?_ | refine tst_ff t3 ?_ | refine g_o (op_lenM rfl rfl rfl (ev_ok rfl) (tgt rfl) rfl) ?_ | refine g_o (op_loadA rfl (ev_ok rfl) (tgt rfl) rfl (Nat.succ_ne_zero _) rfl) ?_ | rw [t1] | rw [t2] | rw [t3]); conv => whnf))
  refine SW_loopN hE (fun k => k) [1, 2, 3, 9, 10, 11, 12, 13, 14] [11, 12] (fun m fr hp => ∃ p : Nat, m = k - p ∧ p ≤ k ∧ fr = [(1, ivec .i64 rows), (2, ivec .i64 cols), (3, ivec .i64 again), (9, iv n), (10, iv k), (11, .ptr 11 0 0 0), (12, .ptr 12 0 0 0), (13, iv 0), (14, iv (p : Nat))] ∧
    hp = [(11, mblk n k X), (12, mblk n k (cutS n k X p))]) k ?_ ?_ ?_
  · kernel_rfl
  · exact ⟨0, rfl, Nat.zero_le _, rfl, rfl⟩
  rintro m _ _ ⟨p, rfl, hp, rfl, rfl⟩
  conv => whnf
  by_cases hlt : p < k
  · have u1 := dlt hlt
    have u2 := winc (i := p) (by omega)
    have c1 := m_Col hX (i := p) hlt
    have c2 := v_Unit k p (by omega) hlt
    have lC : (colF n k X p).length = n := by simp [colF]
    have lU : ((List.replicate k (0 : Rat)).set p 1).length = k := by simp
    have sU : Sm 10 ((List.replicate k (0 : Rat)).set p 1) := by
      intro i hi
      rw [lU] at hi
      rw [unit_get hi]; split <;> decide +kernel
    have sC := Sm_col hXl sX hlt
    have c3 := m_Outer (v := colF n k X p) (w := (List.replicate k (0 : Rat)).set p 1) (by omega) (by omega) sC sU (by decide)
    have c4 := cutS_next (n := n) (X := X) hlt
    have hM : OKM n k (cutS n k X p) := OKM_mk (by omega) (by omega)
    have sO : Sm 140 (mk n k fun i j => (colF n k X p).getD i 0 * ((List.replicate k (0 : Rat)).set p 1).getD j 0) := Sm_mk fun i j hi hj => by
      have b1 := sC i (by omega)
      have b2 := sU j (by omega)
      have := fs_mul ((colF n k X p).getD i 0) (((List.replicate k (0 : Rat)).set p 1).getD j 0)
      omega
    have c5 := l_addM hM (b := mk n k fun i j => (colF n k X p).getD i 0 * ((List.replicate k (0 : Rat)).set p 1).getD j 0) (OKM_mk (by omega) (by omega)) (Sm_cutS hXl sX (by decide)) sO (by decide)
    rw [c4] at c5
    unfold mouter at c3
    rw [lC, lU] at c3
    clear c4 sO sC sU gP gT
    (repeat ((first | refine g_c (by assumption) ?_ | refine tst_tt u1 ?_ | rw [u1] | rw [u2]); conv => whnf))
    exact ⟨k - (p + 1), fun k => k, [1, 2, 3, 9, 10, 11, 12, 13, 14], [11, 12], by omega, by kernel_rfl, p + 1, rfl, hlt, rfl, rfl⟩
  have u1 := dge hlt
  obtain rfl : p = k := by omega
  rw [cutS_all hXl]
  clear o1 ks km kf t1 t2 t3 hlt
  (repeat ((first | refine step_w1 rfl rfl ?_ | refine step_w2 rfl rfl ?_ | refine step_i (by kernel_rfl) ?_ | refine g_c (by assumption) ?_ | refine g_o (op_pickF rfl (ev_ok rfl) (ev_ok rfl)) ?_ | rw [bne_self_eq_false] | refine tst_ff u1 ?_ | refine tst_ff t4 ?_ | refine g_o (op_lenM rfl rfl rfl (ev_ok rfl) (tgt rfl) rfl) ?_ | rw [u1] | rw [t4] | rw [w0'] | rw [Nat.zero_add]); conv => whnf))
  refine SW_loopN hE (fun k => k) [3, 10, 11, 23, 24, 25, 27] [11, 25] (fun m fr hp => ∃ i : Nat, m = A.length - i ∧ i ≤ A.length ∧ fr = [(3, ivec .i64 again), (10, iv p), (11, .ptr 11 0 0 0), (23, ivec .i64 A), (24, ivec .i64 O), (25, .ptr 25 0 0 0), (27, iv (i : Nat))] ∧
    hp = [(11, mblk n p X), (25, mblk A.length O.length P)]) A.length ?_ ?_ ?_
  · kernel_rfl
  · exact ⟨0, rfl, Nat.zero_le _, rfl, rfl⟩
  clear o2 o3 p1 p2 p3 p4 q1
  rintro m _ _ ⟨i, rfl, hi, rfl, rfl⟩
  conv => whnf
  by_cases hlt : i < A.length
  · have u1 := dlt hlt
    have u2 := winc (i := i) (by omega)
    (repeat (first | (refine tst_tt u1 ?_; conv => whnf) | (refine g_o (op_lenM rfl rfl rfl (ev_ok rfl) (tgt rfl) rfl) ?_; conv => whnf) | (rw [u1]; conv => whnf)))
    refine SW_loopN hE (fun k => k) [3, 10, 11, 23, 24, 25, 27, 28] [11, 25] (fun m fr hp => ∃ j : Nat, m = O.length - j ∧ j ≤ O.length ∧ fr = [(3, ivec .i64 again), (10, iv p), (11, .ptr 11 0 0 0), (23, ivec .i64 A), (24, ivec .i64 O), (25, .ptr 25 0 0 0), (27, iv (i : Nat)), (28, iv (j : Nat))] ∧
      hp = [(11, mblk n p X), (25, mblk A.length O.length P)]) O.length ?_ ?_ ?_
    · kernel_rfl
    · exact ⟨0, rfl, Nat.zero_le _, rfl, rfl⟩
    rintro m _ _ ⟨j, rfl, hj, rfl, rfl⟩
    conv => whnf
    by_cases hlj : j < O.length
    · have u3 := dlt hlj
      have u4 := winc (i := j) (by omega)
      obtain ⟨w1, w2⟩ := idx_w (i := i) (k := j) (c := O.length) (by omega) (by omega) (by omega)
      have hix := idx_lt hlt hlj
      rw [← lP] at hix
      have g1 := gP i j hlt hlj
      have b1 := iA _ (getD_mem (d := 0) hlt)
      have b2 := iO _ (getD_mem (d := 0) hlj)
      obtain ⟨x, hx⟩ : ∃ x : Nat, A.getD i 0 = (x : Int) := ⟨(A.getD i 0).toNat, by omega⟩
      obtain ⟨y, hy⟩ : ∃ y : Nat, O.getD j 0 = (y : Int) := ⟨(O.getD j 0).toNat, by omega⟩
      rw [hx, hy, Int.toNat_natCast, Int.toNat_natCast] at g1
      rw [hx] at b1
      rw [hy] at b2
      have hxy := idx_lt (r := n) (c := p) (i := x) (k := y) (by omega) (by omega)
      rw [← hXl] at hxy
      obtain ⟨w3, w4⟩ := idx_w (i := x) (k := y) (c := p) (by omega) (by omega) (by omega)
      clear gP gT
      (repeat ((first | refine step_w2 rfl rfl ?_ | refine step_i (by kernel_rfl) ?_ | refine tst_tt u3 ?_ | refine g_o (op_lenM rfl rfl rfl (ev_ok rfl) (tgt rfl) rfl) ?_ | refine g_o (op_loadA rfl (ev_ok rfl) (tgt rfl) rfl (Nat.succ_ne_zero _) rfl) ?_ | refine g_o (op_indexN (α := Int) (d := 0) rfl (ev_ok rfl) (ev_ok rfl) (tgt rfl) rfl (tgt rfl) rfl (by omega)) ?_ | refine g_o (op_indexM (α := Rat) (d := 0) rfl (ev_ok rfl) (ev_ok rfl) (tgt rfl) rfl (tgt rfl) rfl (by omega)) ?_ | refine ⟨_, op_neAgg tabOK goodOK rfl (ev_ok rfl) (ev_ok rfl) rfl rfl rfl rfl (q_eq (g1)) q_guard, ?_⟩ | rw [u3] | rw [u4] | rw [w1] | rw [w2] | rw [hx] | rw [hy] | rw [w3] | rw [w4] | rw [Int.toNat_natCast] | rw [Nat.zero_add]); conv => whnf))
      exact ⟨O.length - (j + 1), fun k => k, [3, 10, 11, 23, 24, 25, 27, 28], [11, 25], by omega, by kernel_rfl, j + 1, rfl, hlj, rfl, rfl⟩
    · have u3 := dge hlj
      (repeat ((first | refine tst_ff u3 ?_ | refine g_o (op_lenM rfl rfl rfl (ev_ok rfl) (tgt rfl) rfl) ?_ | rw [u3] | rw [u2]); conv => whnf))
      exact ⟨A.length - (i + 1), fun k => k, [3, 10, 11, 23, 24, 25, 27], [11, 25], by omega, by kernel_rfl, i + 1, rfl, hlt, rfl, rfl⟩
  have u1 := dge hlt
  clear gP hi hlt
  (repeat ((first | refine g_c (by assumption) ?_ | refine tst_ff u1 ?_ | refine g_o (op_lenM rfl rfl rfl (ev_ok rfl) (tgt rfl) rfl) ?_ | rw [u1]); conv => whnf))
  clear iO lO hAO w0' t4 hXl o5 p5 o4
  refine SWx_adopt (t := 32) (k := 2001) (s := 1) (blk := iblkM []) rfl rfl rfl ?_
  refine SW_loopS hE (fun k => k) [11, 23, 24, 25, 29, 30, 31, 32, 33] [11, 25, 29, 2001] (fun m fr hp => ∃ i : Nat, m = K.length - i ∧ i ≤ K.length ∧ fr = [(11, .ptr 11 0 0 0), (23, ivec .i64 A), (24, ivec .i64 O), (25, .ptr 25 0 0 0), (29, .ptr 29 0 0 0), (30, iv 0), (31, ivec .i64 K), (32, .slc 2001 1 0 i), (33, iv (i : Nat))] ∧
    hp = [(11, mblk n p X), (25, mblk A.length O.length P), (29, mblk O.length A.length PT), (2001, iblkM ((thenL A K).take i))]) K.length ?_ ?_ ?_
  · kernel_rfl
  · exact ⟨0, rfl, Nat.zero_le _, rfl, rfl⟩
  rintro m _ _ ⟨i, rfl, hi, rfl, rfl⟩
  have lt0 : ((thenL A K).take i).length = i := by rw [List.length_take]; omega
  by_cases hlt : i < K.length
  · have u1 := dlt hlt
    have u2 := winc (i := i) (by omega)
    have b1 := iK _ (getD_mem (d := 0) hlt)
    have g1 := gT i hlt
    obtain ⟨x, hx⟩ : ∃ x : Nat, K.getD i 0 = (x : Int) := ⟨(K.getD i 0).toNat, by omega⟩
    rw [hx, Int.toNat_natCast] at g1
    rw [hx] at b1
    have e1 := app_int (l := (thenL A K).take i) (x := A.getD x 0)
    rw [lt0] at e1
    have e2 : (thenL A K).take (i + 1) = (thenL A K).take i ++ [A.getD x 0] := by
      rw [← g1, List.take_add_one, List.getD_eq_getElem?_getD, List.getElem?_eq_getElem (show i < (thenL A K).length by omega)]; rfl
    clear gT
    refine SWx.of hE ?_
    conv => whnf
    (repeat ((first | refine step_oA (by first | omega | decide | (simp only [tiB5, tiB66, tiB3, tiB2, tiB9, tiB43, tiB87, tiB29, tiB33, tiB41, tiB35, tiB4, tiB83, tiB85, tiB121, tiB31, tiB82, tiB37, dlen, List.length_replicate, List.length_set, List.length_map, List.length_zipWith, List.length_take, List.length_append, List.length_cons, List.length_nil]; omega)) ?_ | refine tst_tt u1 ?_ | refine g_o (op_lenM rfl rfl rfl (ev_ok rfl) (tgt rfl) rfl) ?_ | refine g_o (op_loadA rfl (ev_ok rfl) (tgt rfl) rfl (Nat.succ_ne_zero _) rfl) ?_ | refine g_o (op_indexN (α := Int) (d := 0) rfl (ev_ok rfl) (ev_ok rfl) (tgt rfl) rfl (tgt rfl) rfl (by omega)) ?_ | refine g_o (op_indexM (α := Int) (d := 0) rfl (ev_ok rfl) (ev_ok rfl) (tgt rfl) rfl (tgt rfl) rfl (by omega)) ?_ | rw [u1] | rw [u2] | rw [hx] | rw [Int.toNat_natCast]); conv => whnf))
    refine ⟨K.length - (i + 1), renBy [(229, 2001)], [11, 23, 24, 25, 29, 30, 31, 32, 33], [11, 25, 29, 229], by omega, by kernel_rfl, i + 1, rfl, hlt, rfl, ?_⟩
    rw [e2, e1]; rfl
  · have u1 := dge hlt
    obtain rfl : i = K.length := by omega
    rw [List.take_of_length_le (by omega)]
    refine SWx_freeze 32 2001 (xs := (thenL A K).map (iel .i64)) (fun _ h => h) rfl rfl rfl rfl (keylessL_map (fun _ => rfl) _) (by simp; omega) ?_
    rw [cutL_all (by simp; omega)]
    refine SWx.of hE ?_
    conv => whnf
    (repeat ((first | refine step_w1 rfl rfl ?_ | refine step_i (by kernel_rfl) ?_ | refine g_c (by assumption) ?_ | refine g_o (op_pickT rfl (ev_ok rfl) (ev_ok rfl)) ?_ | refine tst_ff u1 ?_ | refine g_o (op_lenM rfl rfl rfl (ev_ok rfl) (tgt rfl) rfl) ?_); conv => whnf)); (first | exact Recast.refl _ | exact Frz.recast (Recast.refl _) rfl | (refine Frz.one rfl rfl ?_; skip) | (refine Frz.tup ?_; skip))
theorem law_MatsParts (a0 : MM) (a1 a2 a3 : List Int) (w0 : MWf a0) (w1 : a1.length ≤ maxLen ∧ ∀ x ∈ a1, (Lit.int .i64 x).wf = true) (w2 : a2.length ≤ maxLen ∧ ∀ x ∈ a2, (Lit.int .i64 x).wf = true) (w3 : a3.length ≤ maxLen ∧ ∀ x ∈ a3, (Lit.int .i64 x).wf = true) :
    CallOK Tryz.prog 9 [mQ a0, mvec 1 (iel .i64) a1, mvec 1 (iel .i64) a2, mvec 1 (iel .i64) a3] [] (.val (.bool true)) [] [] :=
  c_Parts a0 a1 a2 a3 (mOK_of w0) (fun x hx => wf_i64 (w1.2 x hx)) (fun x hx => wf_i64 (w2.2 x hx)) (fun x hx => wf_i64 (w3.2 x hx)) w1.1 w2.1 w3.1
end Go.Proofs.YtcincnngdohfnaaGreatDoor

namespace Go.Proofs.YtcincnngdohfnaaGreatDoor.matsParts
open Go.ChangeShapes Go.WideShapes Go.ChangeAt Go.RowKit Go.Sx
set_option maxRecDepth 100000
set_option linter.unusedSimpArgs false

theorem own : ownKnob Tryz.prog.godebug = none := by kernel_rfl
theorem laidOut : laidOutB Tryz.prog = true := by kernel_rfl
theorem params : Tryz.f9.params.toList.all (fun t => Tryz.prog.readableRec t && decide (t < Tryz.prog.types.size)) = true := by kernel_rfl
theorem gTab0 : Tryz.prog.globalNamed "math/bits.deBruijn32tab" = some 3 := by kernel_rfl
theorem gTabType0 : (Tryz.prog.globals[3]?).map (·.type) = some 245 := by kernel_rfl
theorem cellsA0 : Tryz.prog.cellsOf 245 = 32 := by kernel_rfl
theorem cellsE0 : Tryz.prog.cellsOf 5 = 1 := by kernel_rfl
theorem gTab1 : Tryz.prog.globalNamed "math/bits.deBruijn64tab" = some 4 := by kernel_rfl
theorem gTabType1 : (Tryz.prog.globals[4]?).map (·.type) = some 246 := by kernel_rfl
theorem cellsA1 : Tryz.prog.cellsOf 246 = 64 := by kernel_rfl
theorem cellsE1 : Tryz.prog.cellsOf 5 = 1 := by kernel_rfl
theorem gTab2 : Tryz.prog.globalNamed "internal/strconv.uint64pow10" = some 2 := by kernel_rfl
theorem gTabType2 : (Tryz.prog.globals[2]?).map (·.type) = some 242 := by kernel_rfl
theorem cellsA2 : Tryz.prog.cellsOf 242 = 20 := by kernel_rfl
theorem cellsE2 : Tryz.prog.cellsOf 35 = 1 := by kernel_rfl
/-- What the row's list gives: the tables' cells hold their numbers. -/
theorem table {W : World} (h : laidMetH Tryz.prog Rows.matsPartsRow.laid W) : TabsW W := by
  intro g kd l hm
  have h0 : laidMet Tryz.prog Rows.matsPartsRow.laid W := h
  have ht0 : Lib.TabIs Tryz.prog W "math/bits.deBruijn32tab" .u8 [0, 1, 28, 2, 29, 14, 24, 3, 30, 22, 20, 15, 25, 17, 4, 8, 31, 27, 13, 23, 21, 19, 16, 7, 26, 12, 18, 6, 11, 5, 10, 9] := Lib.tabIs_of_head gTab0 gTabType0 Tryz.underlying245 Tryz.underlying5 cellsE0 cellsA0 h0
  have h1 := laid_tail h0
  have ht1 : Lib.TabIs Tryz.prog W "math/bits.deBruijn64tab" .u8 [0, 1, 56, 2, 57, 49, 28, 3, 61, 58, 42, 50, 38, 29, 17, 4, 62, 47, 59, 36, 45, 43, 51, 22, 53, 39, 33, 30, 24, 18, 12, 5, 63, 55, 48, 27, 60, 41, 37, 16, 46, 35, 44, 21, 52, 32, 23, 11, 54, 26, 40, 15, 34, 20, 31, 10, 25, 14, 19, 9, 13, 8, 7, 6] := Lib.tabIs_of_head gTab1 gTabType1 Tryz.underlying246 Tryz.underlying5 cellsE1 cellsA1 h1
  have h2 := laid_tail h1
  have ht2 : Lib.TabIs Tryz.prog W "internal/strconv.uint64pow10" .u64 [1, 10, 100, 1000, 10000, 100000, 1000000, 10000000, 100000000, 1000000000, 10000000000, 100000000000, 1000000000000, 10000000000000, 100000000000000, 1000000000000000, 10000000000000000, 100000000000000000, 1000000000000000000, 10000000000000000000] := Lib.tabIs_of_head gTab2 gTabType2 Tryz.underlying242 Tryz.underlying35 cellsE2 cellsA2 h2
  simp only [globTabs, List.mem_cons, List.not_mem_nil, or_false, Prod.mk.injEq] at hm
  rcases hm with ⟨rfl, rfl, rfl⟩ | ⟨rfl, rfl, rfl⟩ | ⟨rfl, rfl, rfl⟩
  · refine ⟨by simp, fun j x hx => by rw [ht0.cell gTab0 j (List.getElem?_eq_some_iff.1 hx).1, List.getD_eq_getElem?_getD, hx]; rfl, ?_⟩
    exact tab_heap gTab0 ht0
  · refine ⟨by simp, fun j x hx => by rw [ht1.cell gTab1 j (List.getElem?_eq_some_iff.1 hx).1, List.getD_eq_getElem?_getD, hx]; rfl, ?_⟩
    exact tab_heap gTab1 ht1
  · refine ⟨by simp, fun j x hx => by rw [ht2.cell gTab2 j (List.getElem?_eq_some_iff.1 hx).1, List.getD_eq_getElem?_getD, hx]; rfl, ?_⟩
    exact tab_heap gTab2 ht2

/-- The contract, over values. -/
theorem called (a0 : (Int) × (Int) × (List ((Int) × (Int)))) (a1 : List (Int)) (a2 : List (Int)) (a3 : List (Int)) (w0 : ((Lit.int .u8 a0.1).wf = true) ∧ ((Lit.int .u8 a0.2.1).wf = true) ∧ ((a0.2.2).length ≤ maxLen ∧ ∀ x ∈ a0.2.2, ((Lit.int .i64 x.1).wf = true) ∧ ((Lit.int .u32 x.2).wf = true))) (w1 : (a1).length ≤ maxLen ∧ ∀ x ∈ a1, (Lit.int .i64 x).wf = true) (w2 : (a2).length ≤ maxLen ∧ ∀ x ∈ a2, (Lit.int .i64 x).wf = true) (w3 : (a3).length ≤ maxLen ∧ ∀ x ∈ a3, (Lit.int .i64 x).wf = true) : CallOK Tryz.prog 9 [(ag3 (iel .u8) (iel .u8) (mvec 2 (ag2 (iel .i64) (iel .u32)))) a0, (mvec 1 (iel .i64)) a1, (mvec 1 (iel .i64)) a2, (mvec 1 (iel .i64)) a3] [] (.val (.bool true)) [] [] := law_MatsParts a0 a1 a2 a3 w0 w1 w2 w3

theorem contract (H : Type) (enc : TypeId × Value → H) (W : World) (base : Nat) (args : Array Value) (ds gs : List (DataW H)) (before : List MemPlace)
    (hval : ∀ (j : Nat) t v, Tryz.f9.params[j]? = some t → args[j]? = some v → Value.okWide Tryz.prog W .any base t v)
    (hW : DataW.Whole enc Tryz.prog Tryz.f9.params.toList Rows.matsPartsSpec.vars false W args.toList ds gs before) (hL : laidMetH Tryz.prog Rows.matsPartsRow.laid W) :
    Calls Tryz.prog 9 args W fun e W' => ∃ v, e = .returned v ∧ Rows.matsPartsSpec.post enc Tryz.prog Tryz.f9 false true false false W args v W' := by
  have hW' := hW
  obtain ⟨p, q, hA0, hV, rfl, hfz, hnd⟩ := hW
  have hA : DataW.TrodAll enc Tryz.prog W 0 (fun _ => true) true Tryz.f9.params.toList args.toList ds p := hA0
  rw [Tryz.params9] at hA hval
  obtain ⟨v0, vs0, d0, ds0, p0, q0, hargs, rfl, rfl, h0, r0⟩ := trodAll_cons hA
  obtain ⟨v1, vs1, d1, ds1, p1, q1, rfl, rfl, rfl, h1, r1⟩ := trodAll_cons r0
  obtain ⟨v2, vs2, d2, ds2, p2, q2, rfl, rfl, rfl, h2, r2⟩ := trodAll_cons r1
  obtain ⟨v3, vs3, d3, ds3, p3, q3, rfl, rfl, rfl, h3, r3⟩ := trodAll_cons r2
  obtain ⟨rfl, rfl, rfl⟩ := trodAll_nil r3
  obtain rfl : args = #[v0, v1, v2, v3] := by cases args; simp_all
  obtain ⟨rfl, rfl⟩ := trodVars_none hV
  have hg := table hL
  obtain ⟨n0, t0⟩ := h0
  obtain ⟨a0, w0, c0⟩ := (show Opens enc Tryz.prog hg 24 (ag3 (iel .u8) (iel .u8) (mvec 2 (ag2 (iel .i64) (iel .u32)))) (fun a => ((Lit.int .u8 a.1).wf = true) ∧ ((Lit.int .u8 a.2.1).wf = true) ∧ ((a.2.2).length ≤ maxLen ∧ ∀ x ∈ a.2.2, ((Lit.int .i64 x.1).wf = true) ∧ ((Lit.int .u32 x.2).wf = true))) from Opens.struct3 Tryz.underlying24 rfl (by kernel_rfl) (by kernel_rfl) (by kernel_rfl) (Opens.int Tryz.underlying5) (Opens.int Tryz.underlying5) (Opens.slice (w := 2) Tryz.underlying22 (by kernel_rfl) (by decide) (fun _ => rfl) (Opens.struct2 Tryz.underlying68 rfl (by kernel_rfl) (by kernel_rfl) (Opens.int Tryz.underlying2) (Opens.int Tryz.underlying66)))) _ _ _ t0
  have e0 : mkV ((ag3 (iel .u8) (iel .u8) (mvec 2 (ag2 (iel .i64) (iel .u32)))) a0) v0.cells.toList = v0 := by obtain ⟨cs, hc, _⟩ := okWide_struct Tryz.underlying24 (hval 0 24 v0 rfl rfl); exact mkV_agg rfl hc
  obtain ⟨n1, t1⟩ := h1
  obtain ⟨a1, w1, c1⟩ := (show Opens enc Tryz.prog hg 82 (mvec 1 (iel .i64)) (fun a => (a).length ≤ maxLen ∧ ∀ x ∈ a, (Lit.int .i64 x).wf = true) from Opens.slice (w := 1) Tryz.underlying82 (by kernel_rfl) (by decide) (fun _ => rfl) (Opens.int Tryz.underlying3)) _ _ _ t1
  have e1 : mkV ((mvec 1 (iel .i64)) a1) v1.cells.toList = v1 := by obtain ⟨_, _, _, rfl⟩ := okWide_slice Tryz.underlying82 (hval 1 82 v1 rfl rfl); exact mkV_one rfl (by simp [Value.cells])
  obtain ⟨n2, t2⟩ := h2
  obtain ⟨a2, w2, c2⟩ := (show Opens enc Tryz.prog hg 82 (mvec 1 (iel .i64)) (fun a => (a).length ≤ maxLen ∧ ∀ x ∈ a, (Lit.int .i64 x).wf = true) from Opens.slice (w := 1) Tryz.underlying82 (by kernel_rfl) (by decide) (fun _ => rfl) (Opens.int Tryz.underlying3)) _ _ _ t2
  have e2 : mkV ((mvec 1 (iel .i64)) a2) v2.cells.toList = v2 := by obtain ⟨_, _, _, rfl⟩ := okWide_slice Tryz.underlying82 (hval 2 82 v2 rfl rfl); exact mkV_one rfl (by simp [Value.cells])
  obtain ⟨n3, t3⟩ := h3
  obtain ⟨a3, w3, c3⟩ := (show Opens enc Tryz.prog hg 82 (mvec 1 (iel .i64)) (fun a => (a).length ≤ maxLen ∧ ∀ x ∈ a, (Lit.int .i64 x).wf = true) from Opens.slice (w := 1) Tryz.underlying82 (by kernel_rfl) (by decide) (fun _ => rfl) (Opens.int Tryz.underlying3)) _ _ _ t3
  have e3 : mkV ((mvec 1 (iel .i64)) a3) v3.cells.toList = v3 := by obtain ⟨_, _, _, rfl⟩ := okWide_slice Tryz.underlying82 (hval 3 82 v3 rfl rfl); exact mkV_one rfl (by simp [Value.cells])
  have hz : HasZ (allRho hg) [(ag3 (iel .u8) (iel .u8) (mvec 2 (ag2 (iel .i64) (iel .u32)))) a0, (mvec 1 (iel .i64)) a1, (mvec 1 (iel .i64)) a2, (mvec 1 (iel .i64)) a3] [v0.cells.toList, v1.cells.toList, v2.cells.toList, v3.cells.toList] := by simp only [HasZ]; exact ⟨_, _, rfl, c0, _, _, rfl, c1, _, _, rfl, c2, _, _, rfl, c3, rfl⟩
  have hr := law_runA ⟨Tryz.f9, Tryz.func9, rfl, by kernel_rfl⟩ (called a0 a1 a2 a3 w0 w1 w2 w3) hg hz
  simp only [List.zipWith_cons_cons, List.zipWith_nil_left, List.zipWith_nil_right, e0, e1, e2, e3] at hr
  refine hr.mono fun e W' ⟨he, hb⟩ => ?_
  subst he
  exact ⟨_, rfl, law_post laidOut params rfl rfl Tryz.underlying4 hW' ⟨rfl, rfl, rfl⟩ hb⟩

/-- A world for the witness: the settled one, the tables holding what their texts lay. -/
noncomputable def laidWorld (os : Os) : World :=
  { World.holding Tryz.prog os ⟨#[], #[], []⟩ with heap := ((World.holding Tryz.prog os ⟨#[], #[], []⟩).heap |>.modify 3 (fun | .cells _ t frozen => .cells #[.int .u8 0, .int .u8 1, .int .u8 28, .int .u8 2, .int .u8 29, .int .u8 14, .int .u8 24, .int .u8 3, .int .u8 30, .int .u8 22, .int .u8 20, .int .u8 15, .int .u8 25, .int .u8 17, .int .u8 4, .int .u8 8, .int .u8 31, .int .u8 27, .int .u8 13, .int .u8 23, .int .u8 21, .int .u8 19, .int .u8 16, .int .u8 7, .int .u8 26, .int .u8 12, .int .u8 18, .int .u8 6, .int .u8 11, .int .u8 5, .int .u8 10, .int .u8 9] t frozen | o => o) |>.modify 4 (fun | .cells _ t frozen => .cells #[.int .u8 0, .int .u8 1, .int .u8 56, .int .u8 2, .int .u8 57, .int .u8 49, .int .u8 28, .int .u8 3, .int .u8 61, .int .u8 58, .int .u8 42, .int .u8 50, .int .u8 38, .int .u8 29, .int .u8 17, .int .u8 4, .int .u8 62, .int .u8 47, .int .u8 59, .int .u8 36, .int .u8 45, .int .u8 43, .int .u8 51, .int .u8 22, .int .u8 53, .int .u8 39, .int .u8 33, .int .u8 30, .int .u8 24, .int .u8 18, .int .u8 12, .int .u8 5, .int .u8 63, .int .u8 55, .int .u8 48, .int .u8 27, .int .u8 60, .int .u8 41, .int .u8 37, .int .u8 16, .int .u8 46, .int .u8 35, .int .u8 44, .int .u8 21, .int .u8 52, .int .u8 32, .int .u8 23, .int .u8 11, .int .u8 54, .int .u8 26, .int .u8 40, .int .u8 15, .int .u8 34, .int .u8 20, .int .u8 31, .int .u8 10, .int .u8 25, .int .u8 14, .int .u8 19, .int .u8 9, .int .u8 13, .int .u8 8, .int .u8 7, .int .u8 6] t frozen | o => o) |>.modify 2 (fun | .cells _ t frozen => .cells #[.int .u64 1, .int .u64 10, .int .u64 100, .int .u64 1000, .int .u64 10000, .int .u64 100000, .int .u64 1000000, .int .u64 10000000, .int .u64 100000000, .int .u64 1000000000, .int .u64 10000000000, .int .u64 100000000000, .int .u64 1000000000000, .int .u64 10000000000000, .int .u64 100000000000000, .int .u64 1000000000000000, .int .u64 10000000000000000, .int .u64 100000000000000000, .int .u64 1000000000000000000, .int .u64 10000000000000000000] t frozen | o => o)) }
theorem laid_met (os : Os) : laidMet Tryz.prog Rows.matsPartsRow.laid ((laidWorld os).forCall (fun _ _ => 0) ⟨#[], #[.agg #[.int .u8 0, .int .u8 0, .slice none 0 0], .slice none 0 0, .slice none 0 0, .slice none 0 0], []⟩).memory :=
  laidMet_of_run' 8 (by kernel_rfl) (by kernel_rfl)
theorem reads (os : Os) {H : Type} (enc : TypeId × Value → H) : ∃ places, DataW.whole enc Tryz.prog ((laidWorld os).forCall (fun _ _ => 0) ⟨#[], #[.agg #[.int .u8 0, .int .u8 0, .slice none 0 0], .slice none 0 0, .slice none 0 0, .slice none 0 0], []⟩).memory Tryz.f9.params.toList Rows.matsPartsSpec.vars false #[.agg #[.int .u8 0, .int .u8 0, .slice none 0 0], .slice none 0 0, .slice none 0 0, .slice none 0 0].toList 8 = some ([.agg [.lit (.int .u8 0), .lit (.int .u8 0), .nil], .nil, .nil, .nil], [], places) :=
  ⟨[], by kernel_rfl⟩

theorem lifted (os : Os) (started : os.Started) (H : Type) (enc : TypeId × Value → H) (F : Stop.Interp) :
    ReturnsInHanded {} Tryz.checked os 9 .any ((OpenSpec.ofChange Rows.matsPartsSpec).preRow enc Tryz.prog Tryz.f9 Rows.matsPartsRow.domain false Rows.matsPartsRow.laid) (((OpenSpec.ofChange Rows.matsPartsSpec).at F).post enc Tryz.prog Tryz.f9 false true false false) := by
  obtain ⟨places, hx⟩ := reads os enc
  refine returnsInHanded_of_row (C := Tryz.checked) (s := OpenSpec.ofChange Rows.matsPartsSpec) own started (by kernel_rfl) Tryz.func9
    (witness_row_at (enc := enc) (C := Tryz.checked) false (laidWorld os) #[.agg #[.int .u8 0, .int .u8 0, .slice none 0 0], .slice none 0 0, .slice none 0 0, .slice none 0 0] rfl (by kernel_rfl) (by kernel_rfl) (by kernel_rfl)
      (OpenSpec.preRow_of_cond 8 hx (by kernel_rfl) (fun k hk => by cases hk) (by kernel_rfl) (laid_met os))) ?_
  intro W base args ds gs before hval hW _ _ _ hL _ _
  exact contract H enc W base args ds gs before hval hW hL

theorem said : Rows.MatsPartsSaid :=
  OpenClaim.holds_of_cond 9 Tryz.f9 rfl rfl rfl rfl rfl rfl rfl ⟨rfl, rfl, rfl, rfl, rfl⟩ rfl rfl rfl rfl rfl (by kernel_rfl) Tryz.func9 (by kernel_rfl)
    (of_decide_eq_true (by kernel_rfl)) (by unfold Func.isWrapper; first | (rw [if_pos (by decide +kernel)]; kernel_rfl) | (rw [if_neg (by decide +kernel)]; exact ⟨rfl, rfl⟩))
    (fun os started H enc _ F => by rw [OpenClaim.pre_eq_preRow]; exact lifted os started H enc F)

/-- No parameter wants a stand-in; the program's own looks are off. -/
theorem plain (f : FuncId) (fn : Func) (hf : Tryz.pinned.checked.prog.funcNamed "gusset/gussetlaw13.MatsParts" = some f) (hfn : Tryz.pinned.checked.prog.funcs[f]? = some fn) :
    false = Tryz.pinned.checked.prog.looks [] ∧ ∀ (j : Nat) t, fn.params[j]? = some t → Tryz.pinned.checked.prog.wantsStandIn t = false := by
  obtain rfl : f = 9 := Option.some.inj ((show Tryz.prog.funcNamed "gusset/gussetlaw13.MatsParts" = some 9 by kernel_rfl).symm.trans hf) |>.symm
  obtain rfl : fn = Tryz.f9 := (Option.some.inj (Tryz.func9.symm.trans hfn)).symm
  refine ⟨by kernel_rfl, fun j t ht => ?_⟩
  have hall : (Tryz.f9.params.toList.all fun t => !Tryz.prog.wantsStandIn t) = true := by kernel_rfl
  have := List.all_eq_true.1 hall t (by simpa using Array.mem_of_getElem? ht)
  exact (show Tryz.prog.wantsStandIn t = false by simpa using this)

/-- The card. -/
theorem card : Rows.MatsPartsCardSaid :=
  Claim7.holds_tied_plain_at .later [] _ _ _ _ said (fun _ h => by cases h) (by kernel_rfl) (fun _ h => by cases h) matsParts_row_tie rfl ⟨rfl, rfl⟩ (by kernel_rfl) rfl plain (by kernel_rfl)
#print axioms card
end Go.Proofs.YtcincnngdohfnaaGreatDoor.matsParts
