/- MatsRing returns true for every input and leaves its arguments as they were: the row, and the card that ties its tables to the program's text. -/
import Derived.Test.YtcincnngdohfnaaGreatDoorCards
import Derived.Test.YtcincnngdohfnaaGreatDoorTie
import Derived.WalkKit
import Derived.ProofKit
import Derived.OpenShut
import Derived.Deep.DeepHandedRow
import Derived.Lib.LaidTab
import Derived.Test.YtcincnngdohfnaaGreatDoorQLMatsRing4
namespace Go.Sx
theorem addKey_RR {E : Env} {k : Nat} {blk : Blk} {fr : List (Nat × SV)} {hp : List (Nat × Blk)} (hk : find hp k = none) (he : blk.data.empty) {a : Act} {w : World} (hR : RR E (fn fr hp) a w) :
    RR E (fn fr ((k, blk) :: hp)) a w := by
  obtain ⟨ρ, hext, hfx, hR⟩ := hR
  have hkn : ρ.key k = none := by
    cases hx : ρ.key k with
    | none => rfl
    | some x =>
      obtain ⟨b, hb⟩ := hR.hp.dom k x hx
      simp only [fn, LV.blk, hk] at hb
      cases hb
  have hblk : ∀ j b, (fn fr ((k, blk) :: hp) (.k j)).blk = some b → (j = k ∧ b = blk) ∨ (j ≠ k ∧ (fn fr hp (.k j)).blk = some b) := by
    intro j b hb
    simp only [fn, LV.blk, find] at hb ⊢
    cases hj : Nat.beq k j with
    | true => rw [hj] at hb; simp only [Option.some.injEq] at hb; exact .inl ⟨(Nat.eq_of_beq_eq_true hj).symm, hb.symm⟩
    | false => rw [hj] at hb; exact .inr ⟨by rintro rfl; simp [Nat.beq_refl] at hj, hb⟩
  have hne : ∀ j x, ρ.key j = some x → j ≠ k := fun j x hx h => by rw [h, hkn] at hx; cases hx
  refine ⟨ρ, hext, fun j hj => ?_, { defers := hR.defers, size := hR.size, fr := fun u sv hu => hR.fr u sv hu, pres := hR.pres, hp := ?_ }⟩
  · have := hfx j hj
    simp only [fn, LV.blk, find] at this ⊢
    cases hb : Nat.beq k j with
    | true => simp
    | false => exact this
  · constructor
    · intro j b hb
      rcases hblk j b hb with ⟨rfl, rfl⟩ | ⟨_, h1⟩
      · exact .inr (.inr ⟨hkn, he⟩)
      · exact hR.hp.blk j b h1
    · intro j j' x x' b b' hx hx' hn hxe hb hb'
      rcases hblk j b hb with ⟨h1, _⟩ | ⟨_, h1⟩
      · exact absurd h1 (hne j x hx)
      · rcases hblk j' b' hb' with ⟨h2, _⟩ | ⟨_, h2⟩
        · exact absurd h2 (hne j' x' hx')
        · exact hR.hp.sep j j' x x' b b' hx hx' hn hxe h1 h2
    · intro j b x hb hw hl hx
      rcases hblk j b hb with ⟨h1, _⟩ | ⟨_, h1⟩
      · exact absurd h1 (hne j x hx)
      · exact hR.hp.own j b x h1 hw hl hx
    · intro j x hx
      obtain ⟨b, hb⟩ := hR.hp.dom j x hx
      have := hne j x hx
      refine ⟨b, ?_⟩
      simp only [fn, LV.blk, find] at hb ⊢
      cases hj : Nat.beq k j with
      | true => exact absurd (Nat.eq_of_beq_eq_true hj).symm this
      | false => exact hb
    · exact hR.hp.imm
    · intro j b x hb hw hl hx
      rcases hblk j b hb with ⟨h1, _⟩ | ⟨_, h1⟩
      · exact absurd h1 (hne j x hx)
      · exact hR.hp.immw j b x h1 hw hl hx

/-- A block's contents told in other words. -/
theorem retell_RR {E : Env} {j : Nat} {ty : TypeId} {wr : Bool} {cs cs' : List SV} {fr : List (Nat × SV)} {hp : List (Nat × Blk)} (hj : find hp j = some ⟨ty, wr, .one cs⟩) (hd : ∀ ρ z, HasZ ρ cs z → HasZ ρ cs' z) {a : Act} {w : World} (hR : RR E (fn fr hp) a w) :
    RR E (fn fr ((j, ⟨ty, wr, .one cs'⟩) :: hp)) a w := by
  obtain ⟨ρ, hext, hfx, hR⟩ := hR
  have hblk : ∀ i b, (fn fr ((j, ⟨ty, wr, .one cs'⟩) :: hp) (.k i)).blk = some b → ∃ b0, (fn fr hp (.k i)).blk = some b0 ∧ b0.wr = b.wr ∧ b0.data.live = b.data.live ∧ (b0 = b ∨ (i = j ∧ b0 = ⟨ty, wr, .one cs⟩ ∧ b = ⟨ty, wr, .one cs'⟩)) := by
    intro i b hb
    simp only [fn, LV.blk, find] at hb ⊢
    cases hi : Nat.beq j i with
    | true =>
      rw [hi] at hb
      simp only [Option.some.injEq] at hb
      obtain rfl := Nat.eq_of_beq_eq_true hi
      subst hb
      exact ⟨_, hj, rfl, rfl, .inr ⟨rfl, rfl, rfl⟩⟩
    | false => rw [hi] at hb; exact ⟨b, hb, rfl, rfl, .inl rfl⟩
  refine ⟨ρ, hext, fun i hi => ?_, { defers := hR.defers, size := hR.size, fr := fun u sv hu => hR.fr u sv hu, pres := hR.pres, hp := ?_ }⟩
  · have := hfx i hi
    simp only [fn, LV.blk, find] at this ⊢
    cases hb : Nat.beq j i with
    | true => simp
    | false => exact this
  · constructor
    · intro i b hb
      obtain ⟨b0, h1, h2, h3, rfl | ⟨rfl, rfl, rfl⟩⟩ := hblk i b hb
      · exact hR.hp.blk i b0 h1
      · rcases hR.hp.blk i _ h1 with h4 | ⟨b', t, vs, ex, g1, g2, g3, g4, g5⟩ | ⟨_, h4⟩
        · cases h4
        · refine .inr (.inl ⟨b', t, vs, ex, g1, g2, ?_, g4, g5⟩)
          simp only [DataC] at g3 ⊢
          obtain ⟨z, g6, g7⟩ := g3
          exact ⟨z, hd ρ z g6, g7⟩
        · exact h4.elim
    · intro i i' x x' b b' hx hx' hn hxe hb hb' hl hl'
      obtain ⟨b0, h1, h2, h3, _⟩ := hblk i b hb
      obtain ⟨b0', h1', h2', h3', _⟩ := hblk i' b' hb'
      rw [← h2]
      exact hR.hp.sep i i' x x' b0 b0' hx hx' hn hxe h1 h1' (h3.trans hl) (h3'.trans hl')
    · intro i b x hb hw hl hx
      obtain ⟨b0, h1, h2, h3, _⟩ := hblk i b hb
      exact hR.hp.own i b0 x h1 (h2.trans hw) (h3.trans hl) hx
    · intro i x hx
      obtain ⟨b, hb⟩ := hR.hp.dom i x hx
      simp only [fn, LV.blk, find] at hb ⊢
      cases hi : Nat.beq j i with
      | true => exact ⟨_, rfl⟩
      | false => exact ⟨b, hb⟩
    · exact hR.hp.imm
    · intro i b x hb hw hl hx
      obtain ⟨b0, h1, h2, h3, _⟩ := hblk i b hb
      exact hR.hp.immw i b0 x h1 (h2.trans hw) (h3.trans hl) hx

theorem HasZ_adopt {ρ : Rho} {k s : Nat} : ∀ {cs : List SV} {p : Nat} {z : List (List Value)}, cs[p]? = some (.val (.slice none 0 0)) → HasZ ρ cs z → HasZ ρ (cs.set p (.slc k s 0 0)) z
  | [], p, z, h, _ => by simp at h
  | c :: cs, 0, z, h, hz => by
    simp only [List.getElem?_cons_zero, Option.some.injEq] at h
    subst h
    simp only [HasZ, List.set_cons_zero] at hz ⊢
    obtain ⟨x, r, rfl, h1, h2⟩ := hz
    refine ⟨x, r, rfl, ?_, h2⟩
    simp only [HasC] at h1 ⊢
    exact .inr ⟨trivial, none, h1.1⟩
  | c :: cs, p + 1, z, h, hz => by
    simp only [List.getElem?_cons_succ] at h
    simp only [HasZ, List.set_cons_succ] at hz ⊢
    obtain ⟨x, r, rfl, h1, h2⟩ := hz
    exact ⟨x, r, rfl, h1, HasZ_adopt h h2⟩

theorem SWx_adoptB {E : Env} {j k s p : Nat} {ty : TypeId} {wr : Bool} {cs cs' : List SV} {c : Code} {K : Post'} {blk : Blk} {fr : List (Nat × SV)} {hp : List (Nat × Blk)} (hj : find hp j = some ⟨ty, wr, .one cs⟩) (hp' : cs[p]? = some (.val (.slice none 0 0))) (hk : find hp k = none) (he : blk.data.empty)
    (hcs : cs.set p (.slc k s 0 0) = cs') (hs : SWx E c K fr ((k, blk) :: (j, ⟨ty, wr, .one cs'⟩) :: hp)) : SWx E c K fr hp := ⟨fun a w hR => hs.run a w (by
    subst hcs
    refine addKey_RR ?_ he (retell_RR hj (fun ρ z hz => HasZ_adopt hp' hz) hR)
    simp only [find]
    cases hb : Nat.beq j k with
    | false => exact hk
    | true => rw [Nat.eq_of_beq_eq_true hb, hk] at hj; cases hj)⟩

/-- One value told in the words of another. -/
def Wk (c d : SV) : Prop := c.isOne = d.isOne ∧ ∀ ρ x, HasC ρ c x → HasC ρ d x
def WkL (l m : List SV) : Prop := (∀ z, List.zipWith mkV l z = List.zipWith mkV m z) ∧ ∀ ρ z, HasZ ρ l z → HasZ ρ m z
theorem Wk.refl {c : SV} : Wk c c := ⟨rfl, fun _ _ h => h⟩
theorem Wk.nil {w : Nat} {a : Option Addr} : Wk (.val (.slice a 0 0)) (vecA w []) := ⟨rfl, fun _ _ h => nil_vec h⟩
theorem WkL.nil : WkL [] [] := ⟨fun _ => rfl, fun _ _ h => h⟩
theorem WkL.cons {c d : SV} {l m : List SV} (h : Wk c d) (k : WkL l m) : WkL (c :: l) (d :: m) :=
  ⟨fun z => by cases z with
    | nil => rfl
    | cons x r => rw [List.zipWith_cons_cons, List.zipWith_cons_cons, k.1 r, mkV_eq h.1], fun ρ z hz => by
    simp only [HasZ] at hz ⊢
    obtain ⟨x, r, rfl, h1, h2⟩ := hz
    exact ⟨x, r, rfl, h.2 ρ x h1, k.2 ρ r h2⟩⟩
theorem Wk.agg {l m : List SV} (h : WkL l m) : Wk (.agg l) (.agg m) := ⟨rfl, fun ρ x hx => by
  simp only [HasC] at hx ⊢
  obtain ⟨z, h1, h2⟩ := hx
  exact ⟨z, h.2 ρ z h1, h2⟩⟩
theorem CallOK.wk {P : Program} {f : FuncId} {args args' : List SV} {fk : List (Nat × Blk)} {c : SV} {new upd : List (Nat × Blk)} (h : CallOK P f args' fk c new upd) (hw : WkL args args') : CallOK P f args fk c new upd := CallOK.args h hw.2 hw.1

/-- Three values as one. -/
def ag3 {α β γ : Type} (f : α → SV) (g : β → SV) (h : γ → SV) (p : α × β × γ) : SV := .agg [f p.1, g p.2.1, h p.2.2]
theorem Opens.struct3 {H : Type} {enc : TypeId × Value → H} {P : Program} {W : World} {hg : TabsW W} {t : TypeId} {f0 f1 f2 : Field} {α β γ : Type} {a : α → SV} {b : β → SV} {c : γ → SV} {ga : α → Prop} {gb : β → Prop} {gc : γ → Prop} (ht : P.underlying t = some (.struct #[f0, f1, f2])) (o0 : f0.offset = 0) (o1 : f1.offset = P.cellsOf f0.type)
    (o2 : f2.offset = P.cellsOf f0.type + P.cellsOf f1.type) (hc : P.cellsOf t = P.cellsOf f0.type + P.cellsOf f1.type + P.cellsOf f2.type)
    (h0 : Opens enc P hg f0.type a ga) (h1 : Opens enc P hg f1.type b gb) (h2 : Opens enc P hg f2.type c gc) : Opens enc P hg t (ag3 a b c) (fun p => ga p.1 ∧ gb p.2.1 ∧ gc p.2.2) := fun fuel cs x h => by
  obtain ⟨xs, n, rfl, _, hlen, hxl, hf⟩ := DataW.trod_struct ht h
  have hx0 : xs.length = 3 := hxl
  obtain ⟨y0, y1, y2, rfl⟩ : ∃ y0 y1 y2, xs = [y0, y1, y2] := by
    match xs, hx0 with
    | [y0, y1, y2], _ => exact ⟨y0, y1, y2, rfl⟩
  have g0 := hf 0 f0 rfl
  have g1 := hf 1 f1 rfl
  have g2 := hf 2 f2 rfl
  obtain ⟨p, p1, p2⟩ := h0 _ _ _ g0
  obtain ⟨q, q1, q2⟩ := h1 _ _ _ g1
  obtain ⟨r, r1, r2⟩ := h2 _ _ _ g2
  refine ⟨(p, q, r), ⟨p1, q1, r1⟩, ?_⟩
  simp only [ag3, HasC]
  refine ⟨[_, _, _], by simp only [HasZ]; exact ⟨_, _, rfl, p2, _, _, rfl, q2, _, _, rfl, r2, rfl⟩, ?_⟩
  simp only [List.flatten_cons, List.flatten_nil, List.append_nil, o0, o1, o2, List.drop_zero]
  rw [List.take_of_length_le (l := cs.drop (P.cellsOf f0.type + P.cellsOf f1.type)) (by rw [List.length_drop]; omega), ← List.drop_drop, List.take_append_drop, List.take_append_drop]
end Go.Sx

namespace Go.Proofs.YtcincnngdohfnaaGreatDoor
open Go.Sx
set_option linter.unusedSimpArgs false
set_option linter.unusedVariables false
set_option maxRecDepth 100000
set_option maxHeartbeats 4000000

/-- A matrix as plain data. -/
abbrev MM := Int × Int × List (Int × Int)
abbrev mQ : MM → SV := ag3 (iel .u8) (iel .u8) (mvec 2 qA)
abbrev nilQ : MM := (0, 0, [])
def mOK (m : MM) : Prop := (0 ≤ m.1 ∧ m.1 < 256) ∧ (0 ≤ m.2.1 ∧ m.2.1 < 256) ∧ m.2.2.length ≤ maxLen ∧ ∀ q ∈ m.2.2, qOK q
/-- Its elements, with zeros for missing ones. -/
def eQ (l : List (Int × Int)) (p : Nat) : Rat := qV (l.getD p (0, 0))
def someL (l : List (Int × Int)) (n : Nat) : List Rat := (List.range n).map (eQ l)
theorem someL_len (l : List (Int × Int)) (n : Nat) : (someL l n).length = n := by simp [someL]
theorem someL_get {l : List (Int × Int)} {n p : Nat} (h : p < n) : (someL l n).getD p 0 = eQ l p := by simp [someL, List.getD_eq_getElem?_getD, h]
theorem qOK_at {l : List (Int × Int)} (h : ∀ q ∈ l, qOK q) (p : Nat) : qOK (l.getD p (0, 0)) := by
  by_cases hp : p < l.length
  · exact h _ (getD_mem hp)
  · rw [List.getD_eq_getElem?_getD, List.getElem?_eq_none (by omega)]; exact ⟨⟨by decide, by decide⟩, by decide, by decide⟩
theorem Sm_some {l : List (Int × Int)} (h : ∀ q ∈ l, qOK q) (n : Nat) : Sm 130 (someL l n) := by
  intro p hp
  rw [someL_len] at hp
  rw [someL_get hp]; exact fs_qV (qOK_at h p)
theorem OKM_some (l : List (Int × Int)) {r c : Nat} (hr : r ≤ 2048) (hc : c ≤ 2048) : OKM r c (someL l (r * c)) := ⟨hr, hc, someL_len ..⟩

theorem c_few (ms : List MM) (h : ms.length < 1000) (hl : ∀ m ∈ ms, m.2.2.length ≤ maxLen) : CallOK Tryz.prog 11 [mvec 3 mQ ms] [] (.val (.bool (ms.all fun m => decide (m.2.2.length ≤ 40)))) [] [] := by
  refine callV (Z := []) tabOK mixedOK Tryz.func11 rfl (by kernel_rfl) rfl rfl (by kernel_rfl) rfl ?_
  intro W0 w0 ρ0 hE
  conv => whnf
  skip
  refine SW_loopN hE (fun k => k) [0, 3] [] (fun m fr hp => ∃ i : Nat, m = ms.length - i ∧ i ≤ ms.length ∧ (∀ j, j < i → decide ((ms.getD j nilQ).2.2.length ≤ 40) = true) ∧ fr = [(0, mvec 3 mQ ms), (3, iv (i : Nat))] ∧ hp = []) ms.length ?_ ?_ ?_
  · kernel_rfl
  · exact ⟨0, rfl, Nat.zero_le _, (fun j hj => by omega), rfl, rfl⟩
  rintro m _ _ ⟨i, rfl, hi, hs, rfl, rfl⟩
  conv => whnf
  by_cases hlt : i < ms.length
  · have t1 := dlt hlt
    have t2 := winc (i := i) (by omega)
    by_cases hL : (ms.getD i nilQ).2.2.length ≤ 40
    · have t3 : decide (((ms.getD i nilQ).2.2.length : Int) > 40) = false := decide_eq_false (by omega)
      (repeat ((first | refine step_w1 rfl rfl ?_ | refine step_w2 rfl rfl ?_ | refine g_o (op_lenM rfl rfl rfl (ev_ok rfl) (tgt rfl) rfl) ?_ | refine g_o (op_loadA rfl (ev_ok rfl) (tgt rfl) rfl (Nat.succ_ne_zero _) rfl) ?_ | refine g_o (op_fieldA rfl (ev_ok rfl) (tgt rfl) rfl rfl (Nat.succ_ne_zero _) rfl) ?_ | refine g_o (op_indexN (α := MM) (d := nilQ) rfl (ev_ok rfl) (ev_ok rfl) (tgt rfl) rfl (tgt rfl) rfl (by omega)) ?_ | rw [t1] | rw [t3] | rw [t2]); conv => whnf))
      refine ⟨ms.length - (i + 1), fun k => k, [0, 3], [], by omega, by kernel_rfl, i + 1, rfl, hlt, ?_, rfl, rfl⟩
      intro j hj
      by_cases hji : j = i
      · rw [hji]; exact decide_eq_true hL
      · exact hs j (by omega)
    · have t3 : decide (((ms.getD i nilQ).2.2.length : Int) > 40) = true := decide_eq_true (by omega)
      have e : (ms.all fun m => decide (m.2.2.length ≤ 40)) = false := all_no (d := nilQ) hlt (decide_eq_false hL)
      rw [e]
      (repeat ((first | refine step_w1 rfl rfl ?_ | refine g_o (op_lenM rfl rfl rfl (ev_ok rfl) (tgt rfl) rfl) ?_ | refine g_o (op_loadA rfl (ev_ok rfl) (tgt rfl) rfl (Nat.succ_ne_zero _) rfl) ?_ | refine g_o (op_fieldA rfl (ev_ok rfl) (tgt rfl) rfl rfl (Nat.succ_ne_zero _) rfl) ?_ | refine g_o (op_indexN (α := MM) (d := nilQ) rfl (ev_ok rfl) (ev_ok rfl) (tgt rfl) rfl (tgt rfl) rfl (by omega)) ?_ | rw [t1] | rw [t3]); conv => whnf)); (first | exact Recast.refl _ | exact Frz.recast (Recast.refl _) rfl | (refine Frz.one rfl rfl ?_; skip) | (refine Frz.tup ?_; skip))
  · have t1 := dge hlt
    obtain rfl : i = ms.length := by omega
    have e : (ms.all fun m => decide (m.2.2.length ≤ 40)) = true := all_at nilQ hs
    rw [e]
    (repeat (first | (refine step_w2 rfl rfl ?_; conv => whnf) | (refine g_o (op_lenM rfl rfl rfl (ev_ok rfl) (tgt rfl) rfl) ?_; conv => whnf) | (rw [t1]; conv => whnf))); (first | exact Recast.refl _ | exact Frz.recast (Recast.refl _) rfl | (refine Frz.one rfl rfl ?_; skip) | (refine Frz.tup ?_; skip))
theorem wrap_u8 {n : Int} (h0 : 0 ≤ n) (h : n < 256) : IntKind.u8.wrap n = n := by
  simp [IntKind.wrap, IntKind.bits, IntKind.signed]; omega
theorem app_one {α : Type} {l : List α} {i : Nat} {d : α} (h : i < l.length) : l.take (i + 1) = (l.take i).take i ++ (([l.getD i d] : List α).drop 0).take 1 := (app_snoc h).symm
theorem c_Some (m : MM) (hm : mOK m) {r c : Nat} (hr : r ≤ 12) (hc : c ≤ 12) : CallOK Tryz.prog 32 [mQ m, iv r, iv c] [] (mA r c (someL m.2.2 (r * c))) [] [] := by
  obtain ⟨A, B, l⟩ := m
  obtain ⟨_, _, hl, hq⟩ := hm
  replace hl : l.length ≤ maxLen := hl
  have hz := someL_len l (r * c)
  have hN : r * c ≤ 12 * 12 := Nat.mul_le_mul hr hc
  have t0 : IntKind.i64.wrap ((r : Int) * (c : Int)) = ((r * c : Nat) : Int) := by rw [← Int.natCast_mul, wrap_i64 (by omega) (by omega)]
  generalize r * c = N at *
  refine callF (Z := [3]) tabOK mixedOK Tryz.func32 rfl (by kernel_rfl) (by first | rfl | (simp [keylessL, keyless, keylessL_map, *]; done)) (by first | rfl | (simp [keylessL, keyless, keylessL_map, *]; done)) (by kernel_rfl) rfl ?_
  intro w0 ρ0 hE
  conv => whnf
  skip
  refine SWx_adoptB (j := 7) (k := 2001) (s := 5) (p := 2) (blk := fblk []) rfl rfl rfl rfl rfl ?_
  refine SW_loopS hE (fun k => k) [1, 2, 3, 6, 7, 8] [6, 7, 2001] (fun m fr hp => ∃ i : Nat, m = N - i ∧ i ≤ N ∧ fr = [(1, iv r), (2, iv c), (3, ptrA [iel .u8 A, iel .u8 B, mvec 2 qA l]), (6, .ptr 6 0 0 0), (7, .ptr 7 0 0 0), (8, iv (i : Nat))] ∧
    hp = [(6, zM), (7, ⟨31, true, .one [iv r, iv c, .slc 2001 5 0 i]⟩), (2001, fblk ((someL l N).take i))]) N ?_ ?_ ?_
  · kernel_rfl
  · exact ⟨0, rfl, Nat.zero_le _, rfl, rfl⟩
  rintro m _ _ ⟨i, rfl, hi, rfl, rfl⟩
  have hlt0 : ((someL l N).take i).length = i := by rw [List.length_take]; omega
  by_cases hlt : i < N
  · have t1 := dlt hlt
    have t2 := winc (i := i) (by omega)
    have o1 := c_QOf (l.getD i (0, 0)) (qOK_at hq i)
    rw [show qV (l.getD i (0, 0)) = (someL l N).getD i 0 from (someL_get hlt).symm] at o1
    have e1 := app_one (d := (0 : Rat)) (show i < (someL l N).length by omega)
    refine SWx.of hE ?_
    conv => whnf
    by_cases hil : i < l.length
    · have t3 := dlt hil
      (repeat ((first | refine step_w1 rfl rfl ?_ | refine step_i (by kernel_rfl) ?_ | refine step_oA (by first | omega | decide | (simp only [tiB5, tiB66, tiB3, tiB2, tiB9, tiB43, tiB87, tiB29, tiB33, tiB41, tiB35, tiB4, tiB83, tiB85, tiB121, tiB31, tiB82, tiB37, dlen, List.length_replicate, List.length_set, List.length_map, List.length_zipWith, List.length_take, List.length_append, List.length_cons, List.length_nil]; omega)) ?_ | refine g_c (by assumption) ?_ | refine g_o (op_lenM rfl rfl rfl (ev_ok rfl) (tgt rfl) rfl) ?_ | refine g_o (op_loadA rfl (ev_ok rfl) (tgt rfl) rfl (Nat.succ_ne_zero _) rfl) ?_ | refine g_o (op_indexN (α := Int × Int) (d := (0, 0)) rfl (ev_ok rfl) (ev_ok rfl) (tgt rfl) rfl (tgt rfl) rfl (by omega)) ?_ | refine g_o (op_fieldA rfl (ev_ok rfl) (tgt rfl) rfl rfl (Nat.succ_ne_zero _) rfl) ?_ | rw [t0] | rw [t1] | rw [t3] | rw [t2] | rw [Nat.zero_add]); conv => whnf))
      refine ⟨N - (i + 1), renBy [(36, 2001)], [1, 2, 3, 6, 7, 8], [6, 7, 36], by omega, by kernel_rfl, i + 1, rfl, hlt, rfl, ?_⟩
      rw [e1]; rfl
    · have t3 := dge hil
      rw [show l.getD i (0, 0) = (0, 0) from by rw [List.getD_eq_getElem?_getD, List.getElem?_eq_none (by omega)]; rfl] at o1
      (repeat ((first | refine step_w1 rfl rfl ?_ | refine step_w2 rfl rfl ?_ | refine step_i (by kernel_rfl) ?_ | refine step_oA (by first | omega | decide | (simp only [tiB5, tiB66, tiB3, tiB2, tiB9, tiB43, tiB87, tiB29, tiB33, tiB41, tiB35, tiB4, tiB83, tiB85, tiB121, tiB31, tiB82, tiB37, dlen, List.length_replicate, List.length_set, List.length_map, List.length_zipWith, List.length_take, List.length_append, List.length_cons, List.length_nil]; omega)) ?_ | refine g_c (by assumption) ?_ | refine g_o (op_lenM rfl rfl rfl (ev_ok rfl) (tgt rfl) rfl) ?_ | refine g_o (op_loadA rfl (ev_ok rfl) (tgt rfl) rfl (Nat.succ_ne_zero _) rfl) ?_ | refine g_o (op_fieldA rfl (ev_ok rfl) (tgt rfl) rfl rfl (Nat.succ_ne_zero _) rfl) ?_ | rw [t0] | rw [t1] | rw [t3] | rw [t2] | rw [Nat.zero_add]); conv => whnf))
      refine ⟨N - (i + 1), renBy [(36, 2001)], [1, 2, 3, 6, 7, 8], [6, 7, 36], by omega, by kernel_rfl, i + 1, rfl, hlt, rfl, ?_⟩
      rw [e1]; rfl
  · have t1 := dge hlt
    obtain rfl : i = N := by omega
    rw [List.take_of_length_le (by omega)]
    refine SWx.of hE ?_
    conv => whnf
    (repeat (first | (refine step_w2 rfl rfl ?_; conv => whnf) | (rw [t0]; conv => whnf) | (rw [t1]; conv => whnf)))
    (first | exact Recast.refl _ | exact Frz.recast (Recast.refl _) rfl | (refine Frz.one rfl rfl ?_; (repeat (first | exact FrzC.keyless rfl | exact FrzL.nil | refine FrzL.cons ?_ ?_ | (refine FrzC.fracs rfl ?_; (first | rfl | omega | (simp <;> fail) | (simp <;> omega))) | refine FrzC.agg ?_))) | (refine Frz.tup ?_; skip))
theorem someL_zero {l : List (Int × Int)} {n i : Nat} (h : l.length ≤ i) : someL l n = (someL l n).take i ++ List.replicate (n - i) 0 := by
  apply List.ext_getElem
  · rw [List.length_append, List.length_take, someL_len, List.length_replicate]; omega
  · intro j h1 h2
    rw [someL_len] at h1
    rw [List.getElem_append]
    split
    · simp
    · rename_i h3
      rw [List.length_take, someL_len] at h3
      simp only [List.getElem_replicate, someL, List.getElem_map, List.getElem_range, eQ]
      rw [List.getD_eq_getElem?_getD, List.getElem?_eq_none (by omega)]; decide +kernel
theorem c_vec (l : List (Int × Int)) (hl : l.length ≤ maxLen) (h : ∀ q ∈ l, qOK q) {n : Nat} (hn : n ≤ 2048) : CallOK Tryz.prog 15 [mvec 2 qA l, iv n] [] (fvec (someL l n)) [] [] := by
  have hz := someL_len l n
  refine callF (Z := []) tabOK mixedOK Tryz.func15 rfl (by kernel_rfl) (by first | rfl | (simp [keylessL, keyless, keylessL_map, *]; done)) (by first | rfl | (simp [keylessL, keyless, keylessL_map, *]; done)) (by kernel_rfl) rfl ?_
  intro w0 ρ0 hE
  conv => whnf
  (repeat (first | (refine step_oA (by first | omega | decide | (simp only [tiB5, tiB66, tiB3, tiB2, tiB9, tiB43, tiB87, tiB29, tiB33, tiB41, tiB35, tiB4, tiB83, tiB85, tiB121, tiB31, tiB82, tiB37, dlen, List.length_replicate, List.length_set, List.length_map, List.length_zipWith, List.length_take, List.length_append, List.length_cons, List.length_nil]; omega)) ?_; conv => whnf) | (rw [Int.toNat_natCast]; conv => whnf)))
  refine SW_loopN hE (fun k => k) [0, 1, 5, 6] [8] (fun m fr hp => ∃ i : Nat, m = n - i ∧ i ≤ n ∧ fr = [(0, mvec 2 qA l), (1, iv n), (5, .slc 8 5 0 n), (6, iv (i : Nat))] ∧ hp = [(8, fblk ((someL l n).take i ++ List.replicate (n - i) 0))]) n ?_ ?_ ?_
  · kernel_rfl
  · exact ⟨0, rfl, Nat.zero_le _, rfl, rfl⟩
  rintro m _ _ ⟨i, rfl, hi, rfl, rfl⟩
  have hlen := fill_len (d := (0 : Rat)) hi hz
  conv => whnf
  by_cases hlt : i < n
  · have t1 := dlt hlt
    have t2 := winc (i := i) (by omega)
    by_cases hil : i < l.length
    · have t3 := dlt hil
      have o1 := c_QOf (l.getD i (0, 0)) (qOK_at h i)
      rw [show qV (l.getD i (0, 0)) = (someL l n).getD i 0 from (someL_get hlt).symm] at o1
      (repeat ((first | refine step_w1 rfl rfl ?_ | refine step_oL (by first | omega | decide | (simp only [tiB5, tiB66, tiB3, tiB2, tiB9, tiB43, tiB87, tiB29, tiB33, tiB41, tiB35, tiB4, tiB83, tiB85, tiB121, tiB31, tiB82, tiB37, dlen, List.length_replicate, List.length_set, List.length_map, List.length_zipWith, List.length_take, List.length_append, List.length_cons, List.length_nil]; omega)) ?_ | refine step_oA (by first | omega | decide | (simp only [tiB5, tiB66, tiB3, tiB2, tiB9, tiB43, tiB87, tiB29, tiB33, tiB41, tiB35, tiB4, tiB83, tiB85, tiB121, tiB31, tiB82, tiB37, dlen, List.length_replicate, List.length_set, List.length_map, List.length_zipWith, List.length_take, List.length_append, List.length_cons, List.length_nil]; omega)) ?_ | refine g_c (by assumption) ?_ | refine g_o (op_pickT rfl (ev_ok rfl) (ev_ok rfl)) ?_ | refine g_o (op_lenM rfl rfl rfl (ev_ok rfl) (tgt rfl) rfl) ?_ | refine g_o (op_loadA rfl (ev_ok rfl) (tgt rfl) rfl (Nat.succ_ne_zero _) rfl) ?_ | refine g_o (op_indexN (α := Int × Int) (d := (0, 0)) rfl (ev_ok rfl) (ev_ok rfl) (tgt rfl) rfl (tgt rfl) rfl (by omega)) ?_ | rw [t1] | rw [t3] | rw [t2] | rw [Int.toNat_natCast] | rw [Nat.zero_add]); conv => whnf))
      refine ⟨n - (i + 1), fun k => k, [0, 1, 5, 6], [8], by omega, by kernel_rfl, i + 1, rfl, hlt, rfl, ?_⟩
      rw [fblk, ← fill_set (e := 0) hlt hz]
      rfl
    · have t3 := dge hil
      rw [← someL_zero (by omega)] at *
      (repeat ((first | refine step_w1 rfl rfl ?_ | refine step_w2 rfl rfl ?_ | refine g_o (op_pickT rfl (ev_ok rfl) (ev_ok rfl)) ?_ | refine g_o (op_lenM rfl rfl rfl (ev_ok rfl) (tgt rfl) rfl) ?_ | rw [t1] | rw [t3]); conv => whnf))
      (first | exact Recast.refl _ | exact Frz.recast (Recast.refl _) rfl | (refine Frz.one rfl rfl ?_; (repeat (first | (refine FrzC.fracs rfl ?_; (first | rfl | omega | (simp <;> fail) | (simp <;> omega)))))) | (refine Frz.tup ?_; skip))
  · have t1 := dge hlt
    obtain rfl : i = n := by omega
    rw [fill_all hz] at *
    (repeat (first | (refine step_w2 rfl rfl ?_; conv => whnf) | (refine g_o (op_pickF rfl (ev_ok rfl) (ev_ok rfl)) ?_; conv => whnf) | (rw [t1]; conv => whnf)))
    (first | exact Recast.refl _ | exact Frz.recast (Recast.refl _) rfl | (refine Frz.one rfl rfl ?_; (repeat (first | (refine FrzC.fracs rfl ?_; (first | rfl | omega | (simp <;> fail) | (simp <;> omega)))))) | (refine Frz.tup ?_; skip))
end Go.Proofs.YtcincnngdohfnaaGreatDoor

namespace Go.Proofs.YtcincnngdohfnaaGreatDoor
open Go.Sx
set_option linter.unusedSimpArgs false
set_option linter.unusedVariables false
set_option maxRecDepth 100000
set_option maxHeartbeats 4000000

def tdF : Nat → Nat → List Nat
  | 0, _ => []
  | f + 1, n => if n = 0 then [] else n % 10000 :: tdF f (n / 10000)
def tdW (n : Nat) : List Nat := tdF n n
/-- Words are 32 bits wide. -/
def W4 (xs : List Int) : Prop := ∀ i, 0 ≤ xs.getD i 0 ∧ xs.getD i 0 < 10000

theorem W4.set {xs : List Int} (h : W4 xs) {i : Nat} {v : Int} (h0 : 0 ≤ v) (h1 : v < 10000) : W4 (xs.set i v) := by
  intro j
  rw [getD_set]
  split
  · exact ⟨h0, h1⟩
  · exact h j

/-- The tdW as the machine has them. -/
def td (n : Nat) : List Int := (tdW n).map Int.ofNat

end Go.Proofs.YtcincnngdohfnaaGreatDoor

namespace Go.Proofs.YtcincnngdohfnaaGreatDoor
open Go.Sx
set_option linter.unusedSimpArgs false
set_option linter.unusedVariables false
set_option maxRecDepth 100000
set_option maxHeartbeats 4000000

end Go.Proofs.YtcincnngdohfnaaGreatDoor

namespace Go.Proofs.YtcincnngdohfnaaGreatDoor
open Go.Sx
set_option linter.unusedSimpArgs false
set_option linter.unusedVariables false
set_option maxRecDepth 100000
set_option maxHeartbeats 4000000

end Go.Proofs.YtcincnngdohfnaaGreatDoor

namespace Go.Proofs.YtcincnngdohfnaaGreatDoor
open Go.Sx
set_option linter.unusedSimpArgs false
set_option linter.unusedVariables false
set_option maxRecDepth 100000
set_option maxHeartbeats 4000000

end Go.Proofs.YtcincnngdohfnaaGreatDoor

namespace Go.Proofs.YtcincnngdohfnaaGreatDoor
open Go.Sx
set_option linter.unusedSimpArgs false
set_option linter.unusedVariables false
set_option maxRecDepth 100000
set_option maxHeartbeats 4000000

end Go.Proofs.YtcincnngdohfnaaGreatDoor

namespace Go.Proofs.YtcincnngdohfnaaGreatDoor
open Go.Sx
set_option linter.unusedSimpArgs false
set_option linter.unusedVariables false
set_option maxRecDepth 100000
set_option maxHeartbeats 4000000

section
variable {a b R d P F T lb : Nat}
end
end Go.Proofs.YtcincnngdohfnaaGreatDoor

namespace Go.Proofs.YtcincnngdohfnaaGreatDoor
open Go.Sx
set_option linter.unusedSimpArgs false
set_option linter.unusedVariables false
set_option maxRecDepth 100000
set_option maxHeartbeats 4000000

end Go.Proofs.YtcincnngdohfnaaGreatDoor

namespace Go.Proofs.YtcincnngdohfnaaGreatDoor
open Go.Sx
set_option linter.unusedSimpArgs false
set_option linter.unusedVariables false
set_option maxRecDepth 100000
set_option maxHeartbeats 4000000

end Go.Proofs.YtcincnngdohfnaaGreatDoor

namespace Go.Proofs.YtcincnngdohfnaaGreatDoor
open Go.Sx
set_option linter.unusedSimpArgs false
set_option linter.unusedVariables false
set_option maxRecDepth 100000
set_option maxHeartbeats 4000000

end Go.Proofs.YtcincnngdohfnaaGreatDoor

namespace Go.Proofs.YtcincnngdohfnaaGreatDoor
open Go.Sx
set_option linter.unusedSimpArgs false
set_option linter.unusedVariables false
set_option maxRecDepth 100000
set_option maxHeartbeats 4000000

end Go.Proofs.YtcincnngdohfnaaGreatDoor

namespace Go.Proofs.YtcincnngdohfnaaGreatDoor
open Go.Sx
set_option linter.unusedSimpArgs false
set_option linter.unusedVariables false
set_option maxRecDepth 100000
set_option maxHeartbeats 4000000

end Go.Proofs.YtcincnngdohfnaaGreatDoor

namespace Go.Proofs.YtcincnngdohfnaaGreatDoor
open Go.Sx
set_option linter.unusedSimpArgs false
set_option linter.unusedVariables false
set_option maxRecDepth 100000
set_option maxHeartbeats 4000000

end Go.Proofs.YtcincnngdohfnaaGreatDoor

namespace Go.Proofs.YtcincnngdohfnaaGreatDoor
open Go.Sx
set_option linter.unusedSimpArgs false
set_option linter.unusedVariables false
set_option maxRecDepth 100000
set_option maxHeartbeats 4000000

theorem Sm_turn {r c B : Nat} {a : List Rat} (ha : a.length = r * c) (sa : Sm B a) : Sm B (mturn r c a) := Sm_mk fun _ _ hi hk => el_sm sa ha hk hi
end Go.Proofs.YtcincnngdohfnaaGreatDoor

namespace Go.Proofs.YtcincnngdohfnaaGreatDoor
open Go.Sx
set_option linter.unusedSimpArgs false
set_option linter.unusedVariables false
set_option maxRecDepth 100000
set_option maxHeartbeats 4000000

abbrev m4 : List Rat := ofInts [1, 2, 3, 4]
theorem l_works13 : CallOK Tryz.prog 12 [] [] (.val (.bool true)) [] [] := by
  have h4 : OKM 2 2 m4 := ⟨by decide, by decide, rfl⟩
  have s4 : Sm 20 m4 := by unfold Sm; decide +kernel
  have st : Sm 20 (mturn 2 2 m4) := by unfold Sm; decide +kernel
  have sp : Sm 20 (mmul 2 2 2 m4 m4) := by unfold Sm; decide +kernel
  have s1 : Sm 20 (ofInts [1, -1]) := by unfold Sm; decide +kernel
  have s2 : Sm 20 (ofInts [1, 0]) := by unfold Sm; decide +kernel
  have s3 : Sm 20 (ofInts [0, 1]) := by unfold Sm; decide +kernel
  have o1 := m_Of 2 2 [1, 2, 3, 4] (by decide) (by decide) rfl (by decide)
  have o2 := m_Turn h4
  have o3 := m_Mul 2 h4 h4 s4 s4 (by decide) (by decide)
  have v1 := v_Of [1, -1] (by decide) (by decide)
  have v2 := v_Of [1, 0] (by decide) (by decide)
  have v3 := v_Of [0, 1] (by decide) (by decide)
  have o4 := m_Apply 2 h4 (v := ofInts [1, -1]) rfl s4 s1 (by decide) (by decide)
  have o5 := m_Form 2 h4 (v := ofInts [1, 0]) (w := ofInts [0, 1]) rfl rfl s4 s2 s3 (by decide) (by decide) (by decide) (by decide)
  have t1 := m_Text h4 s4 (by decide)
  have t2 := m_Text (r := 2) (c := 2) (B := 20) (a := mturn 2 2 m4) ⟨by decide, by decide, rfl⟩ st (by decide)
  have t3 := m_Text (r := 2) (c := 2) (B := 20) (a := mmul 2 2 2 m4 m4) ⟨by decide, by decide, rfl⟩ sp (by decide)
  have t4 := t_VecG (mapply 2 2 m4 (ofInts [1, -1])) 20 (by decide) (by decide +kernel) (by decide)
  have o6 := c_fInt 2 (by decide) (by decide)
  have o7 := m_OfE 2 2 [1] (by decide) (by decide) (by decide)
  have o8 := (m_OfE (-1) 2049 [] (by decide) (by decide) (by decide)).wk (args := [iv (-1), iv 2049, .val (.slice none 0 0)]) (by repeat (first | exact WkL.nil | refine WkL.cons ?_ ?_ | exact Wk.nil | exact Wk.refl | refine Wk.agg ?_))
  have o9 := (m_OfE 2049 0 [] (by decide) (by decide) (by decide)).wk (args := [iv 2049, iv 0, .val (.slice none 0 0)]) (by repeat (first | exact WkL.nil | refine WkL.cons ?_ ?_ | exact Wk.nil | exact Wk.refl | refine Wk.agg ?_))
  have o10 := (m_Of 0 3 [] (by decide) (by decide) rfl (by decide)).wk (args := [iv 0, iv 3, .val (.slice none 0 0)]) (by repeat (first | exact WkL.nil | refine WkL.cons ?_ ?_ | exact Wk.nil | exact Wk.refl | refine Wk.agg ?_))
  have o11 := m_Part h4 [1, 0] [1] (by decide) (by decide) (by decide) (by decide)
  have t5 := m_Text (a := mpart 2 m4 [1, 0] [1]) (r := 2) (c := 1) (B := 20) ⟨by decide, by decide, rfl⟩ (by unfold Sm; decide +kernel) (by decide)
  have o12 := m_Sum h4 (by decide +kernel)
  have o13 := c_fInt 10 (by decide) (by decide)
  have o14 := m_Symmetric h4
  have o15 := m_Symmetric (r := 0) (c := 3) (a := []) ⟨by decide, by decide, rfl⟩
  have e1 : sameF 2 2 2 2 m4 (mturn 2 2 m4) = false := by decide +kernel
  have e2 : sameF 0 3 3 0 [] (mturn 0 3 []) = false := by decide +kernel
  replace o14 : CallOK Tryz.prog 18 [mA 2 2 m4] [] (.val (.bool (sameF 2 2 2 2 m4 (mturn 2 2 m4)))) [] [] := o14
  replace o15 : CallOK Tryz.prog 18 [mA 0 3 []] [] (.val (.bool (sameF 0 3 3 0 [] (mturn 0 3 [])))) [] [] := o15
  rw [e1] at o14
  rw [e2] at o15
  have q1 : (!(tM 2 2 m4).toList == (ByteArray.mk #[91, 49, 32, 50, 93, 32, 91, 51, 32, 52, 93]).toList) = false := by decide +kernel
  have q2 : (!(tM 2 2 (mturn 2 2 m4)).toList == (ByteArray.mk #[91, 49, 32, 51, 93, 32, 91, 50, 32, 52, 93]).toList) = false := by decide +kernel
  have q3 : (!(tM 2 2 (mmul 2 2 2 m4 m4)).toList == (ByteArray.mk #[91, 55, 32, 49, 48, 93, 32, 91, 49, 53, 32, 50, 50, 93]).toList) = false := by decide +kernel
  have q4 : (!(tV (mapply 2 2 m4 (ofInts [1, -1]))).toList == (ByteArray.mk #[91, 45, 49, 32, 45, 49, 93]).toList) = false := by decide +kernel
  have q5 : (!decide (mform 2 2 m4 (ofInts [1, 0]) (ofInts [0, 1]) = ((2 : Int) : Rat))) = false := by decide +kernel
  have q6 : ((tM 2 1 (mpart 2 m4 [1, 0] [1])).toList == (ByteArray.mk #[91, 52, 93, 32, 91, 50, 93]).toList) = true := by decide +kernel
  have q7 : decide (List.foldl (· + ·) 0 m4 = ((10 : Int) : Rat)) = true := by decide +kernel
  refine callV (Z := [22, 39, 46, 48, 97, 115, 116]) tabOK mixedOK Tryz.func12 rfl (by kernel_rfl) rfl rfl (by kernel_rfl) rfl ?_
  intro W0 w0 ρ0 hE
  conv => whnf
  (repeat ((first | refine step_w1 rfl rfl ?_ | refine step_w2 rfl rfl ?_ | refine step_i (by kernel_rfl) ?_ | refine g_c (by assumption) ?_ | refine g_o (op_pickT rfl (ev_ok rfl) (ev_ok rfl)) ?_ | refine g_o (op_pickF rfl (ev_ok rfl) (ev_ok rfl)) ?_ | rw [beq_self_eq_true] | rw [bne_self_eq_false] | refine ⟨_, op_eqAgg tabOK goodOK rfl (ev_ok rfl) (ev_ok rfl) rfl rfl rfl rfl (q_same _ _) q_guard, ?_⟩ | refine ⟨_, op_neAgg tabOK goodOK rfl (ev_ok rfl) (ev_ok rfl) rfl rfl rfl rfl (q_same _ _) q_guard, ?_⟩ | rw [q1] | rw [q2] | rw [q3] | rw [q4] | rw [q5] | rw [q6] | rw [q7]); conv => whnf)); (first | exact Recast.refl _ | exact Frz.recast (Recast.refl _) rfl | (refine Frz.one rfl rfl ?_; skip) | (refine Frz.tup ?_; skip))
end Go.Proofs.YtcincnngdohfnaaGreatDoor

namespace Go.Proofs.YtcincnngdohfnaaGreatDoor
open Go.Sx
set_option linter.unusedSimpArgs false
set_option linter.unusedVariables false
set_option maxRecDepth 100000
set_option maxHeartbeats 8000000

theorem OKM_zip {F : Rat → Rat → Rat} {r c : Nat} {a b : List Rat} (ha : OKM r c a) (hb : OKM r c b) : OKM r c (List.zipWith F a b) := ⟨ha.r, ha.c, zip_len ha.n hb.n⟩
theorem OKM_mk {r c : Nat} {F : Nat → Nat → Rat} (hr : r ≤ 2048) (hc : c ≤ 2048) : OKM r c (mk r c F) := ⟨hr, hc, mk_len ..⟩
/-- The bounds of a matrix as plain data. -/
abbrev MWf (m : MM) : Prop := ((Lit.int .u8 m.1).wf = true) ∧ ((Lit.int .u8 m.2.1).wf = true) ∧ (m.2.2.length ≤ maxLen ∧ ∀ x ∈ m.2.2, ((Lit.int .i64 x.1).wf = true) ∧ ((Lit.int .u32 x.2).wf = true))
theorem mOK_of {m : MM} (w : MWf m) : mOK m := ⟨wf_u8 w.1, wf_u8 w.2.1, w.2.2.1, qOK_of w.2.2⟩

theorem c_fewL (ms : List MM) (h : ms.length < 1000) (hl : ∀ m ∈ ms, mOK m) : CallOK Tryz.prog 11 [mvec 3 mQ ms] [] (.val (.bool (ms.all fun m => decide (m.2.2.length ≤ 40)))) [] [] := c_few ms h fun m hm => (hl m hm).2.2.1
end Go.Proofs.YtcincnngdohfnaaGreatDoor

namespace Go.Proofs.YtcincnngdohfnaaGreatDoor
open Go.Sx
set_option linter.unusedSimpArgs false
set_option linter.unusedVariables false
set_option maxRecDepth 100000
set_option maxHeartbeats 8000000

theorem l_mulM {r s t A B : Nat} (S : Nat) {a b : List Rat} (ha : OKM r s a) (hb : OKM s t b) (sa : Sm A a) (sb : Sm B b) (hS : s ≤ S) (h : A + B + (2 + S * (A + B)) ≤ 1073741824) :
    CallOK Tryz.prog 20 [mA r s a, mA s t b] [] (mA r t (mmul r s t a b)) [] [] := by
  have k1 := m_Mul S ha hb sa sb hS h
  refine callV (Z := []) tabOK mixedOK Tryz.func20 rfl (by kernel_rfl) rfl rfl (by kernel_rfl) rfl ?_
  intro W0 w0 ρ0 hE
  conv => whnf
  (repeat (first | (refine g_c (by assumption) ?_; conv => whnf))); (first | exact Recast.refl _ | exact Frz.recast (Recast.refl _) rfl | (refine Frz.one rfl rfl ?_; skip) | (refine Frz.tup ?_; skip))
theorem l_addM {r c A B : Nat} {a b : List Rat} (ha : OKM r c a) (hb : OKM r c b) (sa : Sm A a) (sb : Sm B b) (h : A + B ≤ 1073741824) : CallOK Tryz.prog 48 [mA r c a, mA r c b] [] (mA r c (vadd a b)) [] [] := by
  have k1 := m_Add ha hb sa sb h
  refine callV (Z := []) tabOK mixedOK Tryz.func48 rfl (by kernel_rfl) rfl rfl (by kernel_rfl) rfl ?_
  intro W0 w0 ρ0 hE
  conv => whnf
  (repeat (first | (refine g_c (by assumption) ?_; conv => whnf))); (first | exact Recast.refl _ | exact Frz.recast (Recast.refl _) rfl | (refine Frz.one rfl rfl ?_; skip) | (refine Frz.tup ?_; skip))
theorem l_turnM {r c : Nat} {a : List Rat} (ha : OKM r c a) : CallOK Tryz.prog 17 [mA r c a] [] (mA c r (mturn r c a)) [] [] := by
  have k1 := m_Turn ha
  refine callV (Z := []) tabOK mixedOK Tryz.func17 rfl (by kernel_rfl) rfl rfl (by kernel_rfl) rfl ?_
  intro W0 w0 ρ0 hE
  conv => whnf
  (repeat (first | (refine g_c (by assumption) ?_; conv => whnf))); (first | exact Recast.refl _ | exact Frz.recast (Recast.refl _) rfl | (refine Frz.one rfl rfl ?_; skip) | (refine Frz.tup ?_; skip))
theorem madd_mk {r c : Nat} {a b : List Rat} (ha : a.length = r * c) (hb : b.length = r * c) : vadd a b = mk r c fun i k => el a c i k + el b c i k := (zip_mk ha hb).symm
theorem mscale_mk {r c : Nat} {q : Rat} {a : List Rat} (ha : a.length = r * c) : vscale q a = mk r c fun i k => q * el a c i k := (zip_mk (F := fun x _ => q * x) ha ha).symm
theorem u8_mod (x : Int) (h : 0 ≤ x ∧ x < 256) (m : Int) (hm : 0 < m ∧ m < 256) : IntKind.u8.wrap (x.tmod m) = x.tmod m ∧ IntKind.i64.wrap (x.tmod m) = ((x % m).toNat : Nat) := by
  have h1 := Int.emod_nonneg x (show m ≠ 0 by omega)
  have h2 := Int.emod_lt_of_pos x hm.1
  rw [Int.tmod_eq_emod_of_nonneg h.1]
  constructor
  · exact wrap_u8 h1 (by omega)
  · rw [wrap_i64 (by omega) (by omega)]; omega
theorem OKM_mul {r s t : Nat} {a b : List Rat} (ha : OKM r s a) (hb : OKM s t b) : OKM r t (mmul r s t a b) := OKM_mk ha.r hb.c
theorem OKM_turn {r c : Nat} {a : List Rat} (ha : OKM r c a) : OKM c r (mturn r c a) := OKM_mk ha.c ha.r
theorem Sm_one (n : Nat) : Sm 10 (mone n) := Sm_mk fun i k _ _ => by unfold delta; split <;> decide +kernel

theorem c_Ring (c : Int × Int) (a b d : MM) (v : List (Int × Int)) (n k p : Int) (hc : qOK c) (ha : mOK a) (hb : mOK b) (hd : mOK d) (hv : v.length ≤ maxLen ∧ ∀ q ∈ v, qOK q) (hn : 0 ≤ n ∧ n < 256) (hk : 0 ≤ k ∧ k < 256) (hp : 0 ≤ p ∧ p < 256) :
    CallOK Tryz.prog 6 [qA c, mQ a, mQ b, mQ d, mvec 2 qA v, iel .u8 n, iel .u8 k, iel .u8 p] [] (.val (.bool true)) [] [] := by
  have kw := l_works13
  have kf := c_fewL [a, b, d] (by simp) (by intro m hm; simp only [List.mem_cons, List.not_mem_nil, or_false] at hm; rcases hm with rfl | rfl | rfl <;> assumption)
  cases hF : [a, b, d].all fun m => decide (m.2.2.length ≤ 40)
  · rw [hF] at kf
    refine callV (Z := [8, 9, 10, 11, 41]) tabOK mixedOK Tryz.func6 rfl (by kernel_rfl) rfl rfl (by kernel_rfl) rfl ?_
    intro W0 w0 ρ0 hE
    conv => whnf
    (repeat ((first | refine step_w1 rfl rfl ?_ | refine step_w2 rfl rfl ?_ | refine g_c (by assumption) ?_ | refine g_o (op_pickT rfl (ev_ok rfl) (ev_ok rfl)) ?_ | refine g_o (op_loadA rfl (ev_ok rfl) (tgt rfl) rfl (Nat.succ_ne_zero _) rfl) ?_); conv => whnf)); (first | exact Recast.refl _ | exact Frz.recast (Recast.refl _) rfl | (refine Frz.one rfl rfl ?_; skip) | (refine Frz.tup ?_; skip))
  rw [hF] at kf
  by_cases hl : v.length > 20
  · have t1 : decide ((v.length : Int) > 20) = true := decide_eq_true (by omega)
    refine callV (Z := [8, 9, 10, 11, 41]) tabOK mixedOK Tryz.func6 rfl (by kernel_rfl) rfl rfl (by kernel_rfl) rfl ?_
    intro W0 w0 ρ0 hE
    conv => whnf
    (repeat ((first | refine step_w1 rfl rfl ?_ | refine g_c (by assumption) ?_ | refine g_o (op_pickF rfl (ev_ok rfl) (ev_ok rfl)) ?_ | refine g_o (op_lenM rfl rfl rfl (ev_ok rfl) (tgt rfl) rfl) ?_ | refine g_o (op_loadA rfl (ev_ok rfl) (tgt rfl) rfl (Nat.succ_ne_zero _) rfl) ?_ | rw [t1]); conv => whnf)); (first | exact Recast.refl _ | exact Frz.recast (Recast.refl _) rfl | (refine Frz.one rfl rfl ?_; skip) | (refine Frz.tup ?_; skip))
  have t1 : decide ((v.length : Int) > 20) = false := decide_eq_false (by omega)
  obtain ⟨e1, e2⟩ := u8_mod n hn 5 (by decide)
  obtain ⟨e3, e4⟩ := u8_mod k hk 5 (by decide)
  obtain ⟨e5, e6⟩ := u8_mod p hp 5 (by decide)
  obtain ⟨e7, e8⟩ := u8_mod d.2.1 hd.2.1 5 (by decide)
  have r4 : (n % 5).toNat ≤ 4 := by omega
  have s4 : (k % 5).toNat ≤ 4 := by omega
  have t4 : (p % 5).toNat ≤ 4 := by omega
  have u4 : (d.2.1 % 5).toNat ≤ 4 := by omega
  generalize (n % 5).toNat = r at *
  generalize (k % 5).toNat = s at *
  generalize (p % 5).toNat = t at *
  generalize (d.2.1 % 5).toNat = u at *
  have x1 := c_Some a ha (r := r) (c := s) (by omega) (by omega)
  have y1 := c_Some b hb (r := s) (c := t) (by omega) (by omega)
  have z1 := c_Some d hd (r := t) (c := u) (by omega) (by omega)
  have w1 := c_Some d hd (r := s) (c := t) (by omega) (by omega)
  have v1 := c_vec v hv.1 hv.2 (n := t) (by omega)
  have hx := OKM_some a.2.2 (r := r) (c := s) (by omega) (by omega)
  have hy := OKM_some b.2.2 (r := s) (c := t) (by omega) (by omega)
  have hz := OKM_some d.2.2 (r := t) (c := u) (by omega) (by omega)
  have hw := OKM_some d.2.2 (r := s) (c := t) (by omega) (by omega)
  have sx := Sm_some ha.2.2.2 (r * s)
  have sy := Sm_some hb.2.2.2 (s * t)
  have sz := Sm_some hd.2.2.2 (t * u)
  have sw := Sm_some hd.2.2.2 (s * t)
  have sv := Sm_some hv.2 t
  have lv := someL_len v t
  have c1 := c_QOf c hc
  have fc := fs_qV hc
  generalize someL a.2.2 (r * s) = x at *
  generalize someL b.2.2 (s * t) = y at *
  generalize someL d.2.2 (t * u) = z at *
  generalize someL d.2.2 (s * t) = w at *
  generalize someL v t = g at *
  generalize qV c = q at *
  have o1 := m_One s (by omega)
  have h1 : OKM s s (mone s) := OKM_mk (by omega) (by omega)
  have m1 := l_mulM 4 hx hy sx sy s4 (by decide)
  have hxy := OKM_mul hx hy
  have sxy : Sm 1042 (mmul r s t x y) := Sm_mul hx.n hy.n sx sy s4
  have m2 := l_mulM 4 hxy hz sxy sz t4 (by decide)
  have m3 := l_mulM 4 hy hz sy sz t4 (by decide)
  have hyz := OKM_mul hy hz
  have syz : Sm 1042 (mmul s t u y z) := Sm_mul hy.n hz.n sy sz t4
  have m4 := l_mulM 4 hx hyz sx syz s4 (by decide)
  have e10 : mmul r t u (mmul r s t x y) z = mmul r s u x (mmul s t u y z) := mul_assocM x y z
  rw [e10] at m2
  have q1 := m_SameT (OKM_mul hx hyz) rfl
  have a1 := l_addM hy hw sy sw (by decide)
  have hyw : OKM s t (vadd y w) := OKM_zip hy hw
  have syw : Sm 260 (vadd y w) := Sm_zip fs_add sy sw (hy.n.trans hw.n.symm)
  have m5 := l_mulM 4 hx hyw sx syw s4 (by decide)
  have m6 := l_mulM 4 hx hw sx sw s4 (by decide)
  have hxw := OKM_mul hx hw
  have sxw : Sm 1042 (mmul r s t x w) := Sm_mul hx.n hw.n sx sw s4
  have a2 := l_addM hxy hxw sxy sxw (by decide)
  have e11 : mmul r s t x (vadd y w) = vadd (mmul r s t x y) (mmul r s t x w) := by
    rw [madd_mk hy.n hw.n, mul_addM, madd_mk hxy.n hxw.n]
  rw [e11] at m5
  have q2 := m_SameT (a := vadd (mmul r s t x y) (mmul r s t x w)) (OKM_zip hxy hxw) rfl
  have m7 := l_mulM 4 hx h1 sx (Sm_one s) s4 (by decide)
  have m8 := l_mulM 4 h1 hy (Sm_one s) sy s4 (by decide)
  rw [mul_oneM hx.n] at m7
  rw [one_mulM hy.n] at m8
  have q3 := m_SameT hx rfl
  have q4 := m_SameT hy rfl
  have u1 := l_turnM hxy
  have u2 := l_turnM hy
  have u3 := l_turnM hx
  have m9 := l_mulM 4 (OKM_turn hy) (OKM_turn hx) (Sm_turn hy.n sy) (Sm_turn hx.n sx) s4 (by decide)
  rw [turn_mulM x y] at u1
  have q5 := m_SameT (OKM_mul (OKM_turn hy) (OKM_turn hx)) rfl
  have u4' := l_turnM (OKM_turn hx)
  rw [turn_turnM hx.n] at u4'
  have a3 := l_addM hx hx sx sx (by decide)
  have hxx : OKM r s (vadd x x) := OKM_zip hx hx
  have sxx : Sm 260 (vadd x x) := Sm_zip fs_add sx sx rfl
  have m10 := l_mulM 4 hxx hy sxx sy s4 (by decide)
  have a4 := l_addM hxy hxy sxy sxy (by decide)
  have e12 : mmul r s t (vadd x x) y = vadd (mmul r s t x y) (mmul r s t x y) := by
    rw [madd_mk hx.n hx.n, add_mulM, madd_mk hxy.n hxy.n]
  rw [e12] at m10
  have q6 := m_SameT (a := vadd (mmul r s t x y) (mmul r s t x y)) (OKM_zip hxy hxy) rfl
  have p1 := m_Scale hx fc sx (by decide)
  have p2 := m_Scale hxy fc sxy (by decide)
  have hqx : OKM r s (vscale q x) := OKM_zip hx hx
  have sqx : Sm 260 (vscale q x) := Sm_scale fc sx
  have m11 := l_mulM 4 hqx hy sqx sy s4 (by decide)
  have e13 : mmul r s t (vscale q x) y = vscale q (mmul r s t x y) := by
    rw [mscale_mk hx.n, scale_mulM, mscale_mk hxy.n]
  rw [e13] at m11
  have q7 := m_SameT (a := vscale q (mmul r s t x y)) (OKM_zip hxy hxy) rfl
  have ap1 := m_Apply 4 hy lv sy sv t4 (by decide)
  have ap2 := m_Apply 4 hx (v := mapply s t y g) mapply_len sx (Sm_apply hy.n lv sy sv t4) s4 (by decide)
  have ap3 := m_Apply 4 hxy lv sxy sv t4 (by decide)
  rw [mul_applyM x y g] at ap3
  have q8 := s_same (a := mapply r s x (mapply s t y g)) (n := r) mapply_len mapply_len (by omega) rfl
  have lr : (mapply r s x (mapply s t y g)).length = r := mapply_len
  have f1 : (((mapply r s x (mapply s t y g)).length : Int) == (r : Int)) = true := by rw [lr]; exact beq_self_eq_true _
  clear hx hy hz hw sx sy sz sw sv lv fc hF r4 s4 t4 u4 ha hb hc hd hv hn hk hp h1 hxy sxy hyz syz hyw syw hxw sxw hxx sxx hqx sqx lr e10 e11 e12 e13
  generalize vscale q (mmul r s t x y) = b1 at *
  generalize vadd (mmul r s t x y) (mmul r s t x y) = b2 at *
  generalize vadd (mmul r s t x y) (mmul r s t x w) = b3 at *
  generalize mapply r s x (mapply s t y g) = b4 at *
  generalize mapply s t y g = b5 at *
  generalize vscale q x = b6 at *
  generalize mmul t s r (mturn s t y) (mturn r s x) = b7 at *
  generalize mturn r s x = b8 at *
  generalize mturn s t y = b9 at *
  generalize mmul r s u x (mmul s t u y z) = b10 at *
  generalize mmul s t u y z = b11 at *
  generalize mmul r s t x y = b12 at *
  generalize mmul r s t x w = b13 at *
  generalize vadd y w = b14 at *
  generalize vadd x x = b15 at *
  generalize mone s = b16 at *
  refine callV (Z := [8, 9, 10, 11, 41]) tabOK mixedOK Tryz.func6 rfl (by kernel_rfl) rfl rfl (by kernel_rfl) rfl ?_
  intro W0 w0 ρ0 hE
  conv => whnf
  (repeat ((first | refine step_w1 rfl rfl ?_ | refine step_w2 rfl rfl ?_ | refine step_i (by kernel_rfl) ?_ | refine And.intro (by first | decide | omega | (simp only [tiB5, tiB66, tiB3, tiB2, tiB9, tiB43, tiB87, tiB29, tiB33, tiB41, tiB35, tiB4, tiB83, tiB85, tiB121, tiB31, tiB82, tiB37, dlen, List.length_replicate, List.length_set, List.length_map, List.length_zipWith, List.length_take, List.length_append, List.length_cons, List.length_nil]; omega)) ?_ | refine g_c (by assumption) ?_ | refine g_o (op_pickT rfl (ev_ok rfl) (ev_ok rfl)) ?_ | refine g_o (op_pickF rfl (ev_ok rfl) (ev_ok rfl)) ?_ | rw [beq_self_eq_true] | rw [bne_self_eq_false] | refine g_o (op_lenM rfl rfl rfl (ev_ok rfl) (tgt rfl) rfl) ?_ | refine g_o (op_loadA rfl (ev_ok rfl) (tgt rfl) rfl (Nat.succ_ne_zero _) rfl) ?_ | refine g_o (op_fieldA rfl (ev_ok rfl) (tgt rfl) rfl rfl (Nat.succ_ne_zero _) rfl) ?_ | rw [t1] | rw [e2] | rw [e4] | rw [e6] | rw [e8] | rw [f1]); conv => whnf)); (first | exact Recast.refl _ | exact Frz.recast (Recast.refl _) rfl | (refine Frz.one rfl rfl ?_; skip) | (refine Frz.tup ?_; skip))
theorem law_MatsRing (a0 : Int × Int) (a1 a2 a3 : MM) (a4 : List (Int × Int)) (a5 a6 a7 : Int) (w0 : ((Lit.int .i64 a0.1).wf = true) ∧ ((Lit.int .u32 a0.2).wf = true)) (w1 : MWf a1) (w2 : MWf a2) (w3 : MWf a3) (w4 : QWf a4)
    (w5 : (Lit.int .u8 a5).wf = true) (w6 : (Lit.int .u8 a6).wf = true) (w7 : (Lit.int .u8 a7).wf = true) :
    CallOK Tryz.prog 6 [qA a0, mQ a1, mQ a2, mQ a3, mvec 2 qA a4, iel .u8 a5, iel .u8 a6, iel .u8 a7] [] (.val (.bool true)) [] [] :=
  c_Ring a0 a1 a2 a3 a4 a5 a6 a7 (qOK_one w0) (mOK_of w1) (mOK_of w2) (mOK_of w3) ⟨w4.1, qOK_of w4⟩ (wf_u8 w5) (wf_u8 w6) (wf_u8 w7)
end Go.Proofs.YtcincnngdohfnaaGreatDoor

namespace Go.Proofs.YtcincnngdohfnaaGreatDoor.matsRing
open Go.ChangeShapes Go.WideShapes Go.ChangeAt Go.RowKit Go.Sx
set_option maxRecDepth 100000
set_option linter.unusedSimpArgs false

theorem own : ownKnob Tryz.prog.godebug = none := by kernel_rfl
theorem laidOut : laidOutB Tryz.prog = true := by kernel_rfl
theorem params : Tryz.f6.params.toList.all (fun t => Tryz.prog.readableRec t && decide (t < Tryz.prog.types.size)) = true := by kernel_rfl
theorem gTab0 : Tryz.prog.globalNamed "math/bits.deBruijn32tab" = some 3 := by kernel_rfl
theorem gTabType0 : (Tryz.prog.globals[3]?).map (·.type) = some 245 := by kernel_rfl
theorem cellsA0 : Tryz.prog.cellsOf 245 = 32 := by kernel_rfl
theorem cellsE0 : Tryz.prog.cellsOf 5 = 1 := by kernel_rfl
theorem gTab1 : Tryz.prog.globalNamed "math/bits.deBruijn64tab" = some 4 := by kernel_rfl
theorem gTabType1 : (Tryz.prog.globals[4]?).map (·.type) = some 246 := by kernel_rfl
theorem cellsA1 : Tryz.prog.cellsOf 246 = 64 := by kernel_rfl
theorem cellsE1 : Tryz.prog.cellsOf 5 = 1 := by kernel_rfl
theorem gTab2 : Tryz.prog.globalNamed "internal/strconv.uint64pow10" = some 2 := by kernel_rfl
theorem gTabType2 : (Tryz.prog.globals[2]?).map (·.type) = some 242 := by kernel_rfl
theorem cellsA2 : Tryz.prog.cellsOf 242 = 20 := by kernel_rfl
theorem cellsE2 : Tryz.prog.cellsOf 35 = 1 := by kernel_rfl
/-- What the row's list gives: the tables' cells hold their numbers. -/
theorem table {W : World} (h : laidMetH Tryz.prog Rows.matsRingRow.laid W) : TabsW W := by
  intro g kd l hm
  have h0 : laidMet Tryz.prog Rows.matsRingRow.laid W := h
  have ht0 : Lib.TabIs Tryz.prog W "math/bits.deBruijn32tab" .u8 [0, 1, 28, 2, 29, 14, 24, 3, 30, 22, 20, 15, 25, 17, 4, 8, 31, 27, 13, 23, 21, 19, 16, 7, 26, 12, 18, 6, 11, 5, 10, 9] := Lib.tabIs_of_head gTab0 gTabType0 Tryz.underlying245 Tryz.underlying5 cellsE0 cellsA0 h0
  have h1 := laid_tail h0
  have ht1 : Lib.TabIs Tryz.prog W "math/bits.deBruijn64tab" .u8 [0, 1, 56, 2, 57, 49, 28, 3, 61, 58, 42, 50, 38, 29, 17, 4, 62, 47, 59, 36, 45, 43, 51, 22, 53, 39, 33, 30, 24, 18, 12, 5, 63, 55, 48, 27, 60, 41, 37, 16, 46, 35, 44, 21, 52, 32, 23, 11, 54, 26, 40, 15, 34, 20, 31, 10, 25, 14, 19, 9, 13, 8, 7, 6] := Lib.tabIs_of_head gTab1 gTabType1 Tryz.underlying246 Tryz.underlying5 cellsE1 cellsA1 h1
  have h2 := laid_tail h1
  have ht2 : Lib.TabIs Tryz.prog W "internal/strconv.uint64pow10" .u64 [1, 10, 100, 1000, 10000, 100000, 1000000, 10000000, 100000000, 1000000000, 10000000000, 100000000000, 1000000000000, 10000000000000, 100000000000000, 1000000000000000, 10000000000000000, 100000000000000000, 1000000000000000000, 10000000000000000000] := Lib.tabIs_of_head gTab2 gTabType2 Tryz.underlying242 Tryz.underlying35 cellsE2 cellsA2 h2
  simp only [globTabs, List.mem_cons, List.not_mem_nil, or_false, Prod.mk.injEq] at hm
  rcases hm with ⟨rfl, rfl, rfl⟩ | ⟨rfl, rfl, rfl⟩ | ⟨rfl, rfl, rfl⟩
  · refine ⟨by simp, fun j x hx => by rw [ht0.cell gTab0 j (List.getElem?_eq_some_iff.1 hx).1, List.getD_eq_getElem?_getD, hx]; rfl, ?_⟩
    exact tab_heap gTab0 ht0
  · refine ⟨by simp, fun j x hx => by rw [ht1.cell gTab1 j (List.getElem?_eq_some_iff.1 hx).1, List.getD_eq_getElem?_getD, hx]; rfl, ?_⟩
    exact tab_heap gTab1 ht1
  · refine ⟨by simp, fun j x hx => by rw [ht2.cell gTab2 j (List.getElem?_eq_some_iff.1 hx).1, List.getD_eq_getElem?_getD, hx]; rfl, ?_⟩
    exact tab_heap gTab2 ht2

/-- The contract, over values. -/
theorem called (a0 : (Int) × (Int)) (a1 : (Int) × (Int) × (List ((Int) × (Int)))) (a2 : (Int) × (Int) × (List ((Int) × (Int)))) (a3 : (Int) × (Int) × (List ((Int) × (Int)))) (a4 : List ((Int) × (Int))) (a5 : Int) (a6 : Int) (a7 : Int) (w0 : ((Lit.int .i64 a0.1).wf = true) ∧ ((Lit.int .u32 a0.2).wf = true)) (w1 : ((Lit.int .u8 a1.1).wf = true) ∧ ((Lit.int .u8 a1.2.1).wf = true) ∧ ((a1.2.2).length ≤ maxLen ∧ ∀ x ∈ a1.2.2, ((Lit.int .i64 x.1).wf = true) ∧ ((Lit.int .u32 x.2).wf = true))) (w2 : ((Lit.int .u8 a2.1).wf = true) ∧ ((Lit.int .u8 a2.2.1).wf = true) ∧ ((a2.2.2).length ≤ maxLen ∧ ∀ x ∈ a2.2.2, ((Lit.int .i64 x.1).wf = true) ∧ ((Lit.int .u32 x.2).wf = true))) (w3 : ((Lit.int .u8 a3.1).wf = true) ∧ ((Lit.int .u8 a3.2.1).wf = true) ∧ ((a3.2.2).length ≤ maxLen ∧ ∀ x ∈ a3.2.2, ((Lit.int .i64 x.1).wf = true) ∧ ((Lit.int .u32 x.2).wf = true))) (w4 : (a4).length ≤ maxLen ∧ ∀ x ∈ a4, ((Lit.int .i64 x.1).wf = true) ∧ ((Lit.int .u32 x.2).wf = true)) (w5 : (Lit.int .u8 a5).wf = true) (w6 : (Lit.int .u8 a6).wf = true) (w7 : (Lit.int .u8 a7).wf = true) : CallOK Tryz.prog 6 [(ag2 (iel .i64) (iel .u32)) a0, (ag3 (iel .u8) (iel .u8) (mvec 2 (ag2 (iel .i64) (iel .u32)))) a1, (ag3 (iel .u8) (iel .u8) (mvec 2 (ag2 (iel .i64) (iel .u32)))) a2, (ag3 (iel .u8) (iel .u8) (mvec 2 (ag2 (iel .i64) (iel .u32)))) a3, (mvec 2 (ag2 (iel .i64) (iel .u32))) a4, (iel .u8) a5, (iel .u8) a6, (iel .u8) a7] [] (.val (.bool true)) [] [] := law_MatsRing a0 a1 a2 a3 a4 a5 a6 a7 w0 w1 w2 w3 w4 w5 w6 w7

theorem contract (H : Type) (enc : TypeId × Value → H) (W : World) (base : Nat) (args : Array Value) (ds gs : List (DataW H)) (before : List MemPlace)
    (hval : ∀ (j : Nat) t v, Tryz.f6.params[j]? = some t → args[j]? = some v → Value.okWide Tryz.prog W .any base t v)
    (hW : DataW.Whole enc Tryz.prog Tryz.f6.params.toList Rows.matsRingSpec.vars false W args.toList ds gs before) (hL : laidMetH Tryz.prog Rows.matsRingRow.laid W) :
    Calls Tryz.prog 6 args W fun e W' => ∃ v, e = .returned v ∧ Rows.matsRingSpec.post enc Tryz.prog Tryz.f6 false true false false W args v W' := by
  have hW' := hW
  obtain ⟨p, q, hA0, hV, rfl, hfz, hnd⟩ := hW
  have hA : DataW.TrodAll enc Tryz.prog W 0 (fun _ => true) true Tryz.f6.params.toList args.toList ds p := hA0
  rw [Tryz.params6] at hA hval
  obtain ⟨v0, vs0, d0, ds0, p0, q0, hargs, rfl, rfl, h0, r0⟩ := trodAll_cons hA
  obtain ⟨v1, vs1, d1, ds1, p1, q1, rfl, rfl, rfl, h1, r1⟩ := trodAll_cons r0
  obtain ⟨v2, vs2, d2, ds2, p2, q2, rfl, rfl, rfl, h2, r2⟩ := trodAll_cons r1
  obtain ⟨v3, vs3, d3, ds3, p3, q3, rfl, rfl, rfl, h3, r3⟩ := trodAll_cons r2
  obtain ⟨v4, vs4, d4, ds4, p4, q4, rfl, rfl, rfl, h4, r4⟩ := trodAll_cons r3
  obtain ⟨v5, vs5, d5, ds5, p5, q5, rfl, rfl, rfl, h5, r5⟩ := trodAll_cons r4
  obtain ⟨v6, vs6, d6, ds6, p6, q6, rfl, rfl, rfl, h6, r6⟩ := trodAll_cons r5
  obtain ⟨v7, vs7, d7, ds7, p7, q7, rfl, rfl, rfl, h7, r7⟩ := trodAll_cons r6
  obtain ⟨rfl, rfl, rfl⟩ := trodAll_nil r7
  obtain rfl : args = #[v0, v1, v2, v3, v4, v5, v6, v7] := by cases args; simp_all
  obtain ⟨rfl, rfl⟩ := trodVars_none hV
  have hg := table hL
  obtain ⟨n0, t0⟩ := h0
  obtain ⟨a0, w0, c0⟩ := (show Opens enc Tryz.prog hg 68 (ag2 (iel .i64) (iel .u32)) (fun a => ((Lit.int .i64 a.1).wf = true) ∧ ((Lit.int .u32 a.2).wf = true)) from Opens.struct2 Tryz.underlying68 rfl (by kernel_rfl) (by kernel_rfl) (Opens.int Tryz.underlying2) (Opens.int Tryz.underlying66)) _ _ _ t0
  have e0 : mkV ((ag2 (iel .i64) (iel .u32)) a0) v0.cells.toList = v0 := by obtain ⟨cs, hc, _⟩ := okWide_struct Tryz.underlying68 (hval 0 68 v0 rfl rfl); exact mkV_agg rfl hc
  obtain ⟨n1, t1⟩ := h1
  obtain ⟨a1, w1, c1⟩ := (show Opens enc Tryz.prog hg 24 (ag3 (iel .u8) (iel .u8) (mvec 2 (ag2 (iel .i64) (iel .u32)))) (fun a => ((Lit.int .u8 a.1).wf = true) ∧ ((Lit.int .u8 a.2.1).wf = true) ∧ ((a.2.2).length ≤ maxLen ∧ ∀ x ∈ a.2.2, ((Lit.int .i64 x.1).wf = true) ∧ ((Lit.int .u32 x.2).wf = true))) from Opens.struct3 Tryz.underlying24 rfl (by kernel_rfl) (by kernel_rfl) (by kernel_rfl) (Opens.int Tryz.underlying5) (Opens.int Tryz.underlying5) (Opens.slice (w := 2) Tryz.underlying22 (by kernel_rfl) (by decide) (fun _ => rfl) (Opens.struct2 Tryz.underlying68 rfl (by kernel_rfl) (by kernel_rfl) (Opens.int Tryz.underlying2) (Opens.int Tryz.underlying66)))) _ _ _ t1
  have e1 : mkV ((ag3 (iel .u8) (iel .u8) (mvec 2 (ag2 (iel .i64) (iel .u32)))) a1) v1.cells.toList = v1 := by obtain ⟨cs, hc, _⟩ := okWide_struct Tryz.underlying24 (hval 1 24 v1 rfl rfl); exact mkV_agg rfl hc
  obtain ⟨n2, t2⟩ := h2
  obtain ⟨a2, w2, c2⟩ := (show Opens enc Tryz.prog hg 24 (ag3 (iel .u8) (iel .u8) (mvec 2 (ag2 (iel .i64) (iel .u32)))) (fun a => ((Lit.int .u8 a.1).wf = true) ∧ ((Lit.int .u8 a.2.1).wf = true) ∧ ((a.2.2).length ≤ maxLen ∧ ∀ x ∈ a.2.2, ((Lit.int .i64 x.1).wf = true) ∧ ((Lit.int .u32 x.2).wf = true))) from Opens.struct3 Tryz.underlying24 rfl (by kernel_rfl) (by kernel_rfl) (by kernel_rfl) (Opens.int Tryz.underlying5) (Opens.int Tryz.underlying5) (Opens.slice (w := 2) Tryz.underlying22 (by kernel_rfl) (by decide) (fun _ => rfl) (Opens.struct2 Tryz.underlying68 rfl (by kernel_rfl) (by kernel_rfl) (Opens.int Tryz.underlying2) (Opens.int Tryz.underlying66)))) _ _ _ t2
  have e2 : mkV ((ag3 (iel .u8) (iel .u8) (mvec 2 (ag2 (iel .i64) (iel .u32)))) a2) v2.cells.toList = v2 := by obtain ⟨cs, hc, _⟩ := okWide_struct Tryz.underlying24 (hval 2 24 v2 rfl rfl); exact mkV_agg rfl hc
  obtain ⟨n3, t3⟩ := h3
  obtain ⟨a3, w3, c3⟩ := (show Opens enc Tryz.prog hg 24 (ag3 (iel .u8) (iel .u8) (mvec 2 (ag2 (iel .i64) (iel .u32)))) (fun a => ((Lit.int .u8 a.1).wf = true) ∧ ((Lit.int .u8 a.2.1).wf = true) ∧ ((a.2.2).length ≤ maxLen ∧ ∀ x ∈ a.2.2, ((Lit.int .i64 x.1).wf = true) ∧ ((Lit.int .u32 x.2).wf = true))) from Opens.struct3 Tryz.underlying24 rfl (by kernel_rfl) (by kernel_rfl) (by kernel_rfl) (Opens.int Tryz.underlying5) (Opens.int Tryz.underlying5) (Opens.slice (w := 2) Tryz.underlying22 (by kernel_rfl) (by decide) (fun _ => rfl) (Opens.struct2 Tryz.underlying68 rfl (by kernel_rfl) (by kernel_rfl) (Opens.int Tryz.underlying2) (Opens.int Tryz.underlying66)))) _ _ _ t3
  have e3 : mkV ((ag3 (iel .u8) (iel .u8) (mvec 2 (ag2 (iel .i64) (iel .u32)))) a3) v3.cells.toList = v3 := by obtain ⟨cs, hc, _⟩ := okWide_struct Tryz.underlying24 (hval 3 24 v3 rfl rfl); exact mkV_agg rfl hc
  obtain ⟨n4, t4⟩ := h4
  obtain ⟨a4, w4, c4⟩ := (show Opens enc Tryz.prog hg 22 (mvec 2 (ag2 (iel .i64) (iel .u32))) (fun a => (a).length ≤ maxLen ∧ ∀ x ∈ a, ((Lit.int .i64 x.1).wf = true) ∧ ((Lit.int .u32 x.2).wf = true)) from Opens.slice (w := 2) Tryz.underlying22 (by kernel_rfl) (by decide) (fun _ => rfl) (Opens.struct2 Tryz.underlying68 rfl (by kernel_rfl) (by kernel_rfl) (Opens.int Tryz.underlying2) (Opens.int Tryz.underlying66))) _ _ _ t4
  have e4 : mkV ((mvec 2 (ag2 (iel .i64) (iel .u32))) a4) v4.cells.toList = v4 := by obtain ⟨_, _, _, rfl⟩ := okWide_slice Tryz.underlying22 (hval 4 22 v4 rfl rfl); exact mkV_one rfl (by simp [Value.cells])
  obtain ⟨n5, t5⟩ := h5
  obtain ⟨a5, w5, c5⟩ := (show Opens enc Tryz.prog hg 5 (iel .u8) (fun a => (Lit.int .u8 a).wf = true) from Opens.int Tryz.underlying5) _ _ _ t5
  have e5 : mkV ((iel .u8) a5) v5.cells.toList = v5 := by obtain ⟨_, rfl⟩ := okWide_int Tryz.underlying5 (hval 5 5 v5 rfl rfl); exact mkV_one rfl (by simp [Value.cells])
  obtain ⟨n6, t6⟩ := h6
  obtain ⟨a6, w6, c6⟩ := (show Opens enc Tryz.prog hg 5 (iel .u8) (fun a => (Lit.int .u8 a).wf = true) from Opens.int Tryz.underlying5) _ _ _ t6
  have e6 : mkV ((iel .u8) a6) v6.cells.toList = v6 := by obtain ⟨_, rfl⟩ := okWide_int Tryz.underlying5 (hval 6 5 v6 rfl rfl); exact mkV_one rfl (by simp [Value.cells])
  obtain ⟨n7, t7⟩ := h7
  obtain ⟨a7, w7, c7⟩ := (show Opens enc Tryz.prog hg 5 (iel .u8) (fun a => (Lit.int .u8 a).wf = true) from Opens.int Tryz.underlying5) _ _ _ t7
  have e7 : mkV ((iel .u8) a7) v7.cells.toList = v7 := by obtain ⟨_, rfl⟩ := okWide_int Tryz.underlying5 (hval 7 5 v7 rfl rfl); exact mkV_one rfl (by simp [Value.cells])
  have hz : HasZ (allRho hg) [(ag2 (iel .i64) (iel .u32)) a0, (ag3 (iel .u8) (iel .u8) (mvec 2 (ag2 (iel .i64) (iel .u32)))) a1, (ag3 (iel .u8) (iel .u8) (mvec 2 (ag2 (iel .i64) (iel .u32)))) a2, (ag3 (iel .u8) (iel .u8) (mvec 2 (ag2 (iel .i64) (iel .u32)))) a3, (mvec 2 (ag2 (iel .i64) (iel .u32))) a4, (iel .u8) a5, (iel .u8) a6, (iel .u8) a7] [v0.cells.toList, v1.cells.toList, v2.cells.toList, v3.cells.toList, v4.cells.toList, v5.cells.toList, v6.cells.toList, v7.cells.toList] := by simp only [HasZ]; exact ⟨_, _, rfl, c0, _, _, rfl, c1, _, _, rfl, c2, _, _, rfl, c3, _, _, rfl, c4, _, _, rfl, c5, _, _, rfl, c6, _, _, rfl, c7, rfl⟩
  have hr := law_runA ⟨Tryz.f6, Tryz.func6, rfl, by kernel_rfl⟩ (called a0 a1 a2 a3 a4 a5 a6 a7 w0 w1 w2 w3 w4 w5 w6 w7) hg hz
  simp only [List.zipWith_cons_cons, List.zipWith_nil_left, List.zipWith_nil_right, e0, e1, e2, e3, e4, e5, e6, e7] at hr
  refine hr.mono fun e W' ⟨he, hb⟩ => ?_
  subst he
  exact ⟨_, rfl, law_post laidOut params rfl rfl Tryz.underlying4 hW' ⟨rfl, rfl, rfl⟩ hb⟩

/-- A world for the witness: the settled one, the tables holding what their texts lay. -/
noncomputable def laidWorld (os : Os) : World :=
  { World.holding Tryz.prog os ⟨#[], #[], []⟩ with heap := ((World.holding Tryz.prog os ⟨#[], #[], []⟩).heap |>.modify 3 (fun | .cells _ t frozen => .cells #[.int .u8 0, .int .u8 1, .int .u8 28, .int .u8 2, .int .u8 29, .int .u8 14, .int .u8 24, .int .u8 3, .int .u8 30, .int .u8 22, .int .u8 20, .int .u8 15, .int .u8 25, .int .u8 17, .int .u8 4, .int .u8 8, .int .u8 31, .int .u8 27, .int .u8 13, .int .u8 23, .int .u8 21, .int .u8 19, .int .u8 16, .int .u8 7, .int .u8 26, .int .u8 12, .int .u8 18, .int .u8 6, .int .u8 11, .int .u8 5, .int .u8 10, .int .u8 9] t frozen | o => o) |>.modify 4 (fun | .cells _ t frozen => .cells #[.int .u8 0, .int .u8 1, .int .u8 56, .int .u8 2, .int .u8 57, .int .u8 49, .int .u8 28, .int .u8 3, .int .u8 61, .int .u8 58, .int .u8 42, .int .u8 50, .int .u8 38, .int .u8 29, .int .u8 17, .int .u8 4, .int .u8 62, .int .u8 47, .int .u8 59, .int .u8 36, .int .u8 45, .int .u8 43, .int .u8 51, .int .u8 22, .int .u8 53, .int .u8 39, .int .u8 33, .int .u8 30, .int .u8 24, .int .u8 18, .int .u8 12, .int .u8 5, .int .u8 63, .int .u8 55, .int .u8 48, .int .u8 27, .int .u8 60, .int .u8 41, .int .u8 37, .int .u8 16, .int .u8 46, .int .u8 35, .int .u8 44, .int .u8 21, .int .u8 52, .int .u8 32, .int .u8 23, .int .u8 11, .int .u8 54, .int .u8 26, .int .u8 40, .int .u8 15, .int .u8 34, .int .u8 20, .int .u8 31, .int .u8 10, .int .u8 25, .int .u8 14, .int .u8 19, .int .u8 9, .int .u8 13, .int .u8 8, .int .u8 7, .int .u8 6] t frozen | o => o) |>.modify 2 (fun | .cells _ t frozen => .cells #[.int .u64 1, .int .u64 10, .int .u64 100, .int .u64 1000, .int .u64 10000, .int .u64 100000, .int .u64 1000000, .int .u64 10000000, .int .u64 100000000, .int .u64 1000000000, .int .u64 10000000000, .int .u64 100000000000, .int .u64 1000000000000, .int .u64 10000000000000, .int .u64 100000000000000, .int .u64 1000000000000000, .int .u64 10000000000000000, .int .u64 100000000000000000, .int .u64 1000000000000000000, .int .u64 10000000000000000000] t frozen | o => o)) }
theorem laid_met (os : Os) : laidMet Tryz.prog Rows.matsRingRow.laid ((laidWorld os).forCall (fun _ _ => 0) ⟨#[], #[.agg #[.int .i64 0, .int .u32 0], .agg #[.int .u8 0, .int .u8 0, .slice none 0 0], .agg #[.int .u8 0, .int .u8 0, .slice none 0 0], .agg #[.int .u8 0, .int .u8 0, .slice none 0 0], .slice none 0 0, .int .u8 0, .int .u8 0, .int .u8 0], []⟩).memory :=
  laidMet_of_run' 8 (by kernel_rfl) (by kernel_rfl)
theorem reads (os : Os) {H : Type} (enc : TypeId × Value → H) : ∃ places, DataW.whole enc Tryz.prog ((laidWorld os).forCall (fun _ _ => 0) ⟨#[], #[.agg #[.int .i64 0, .int .u32 0], .agg #[.int .u8 0, .int .u8 0, .slice none 0 0], .agg #[.int .u8 0, .int .u8 0, .slice none 0 0], .agg #[.int .u8 0, .int .u8 0, .slice none 0 0], .slice none 0 0, .int .u8 0, .int .u8 0, .int .u8 0], []⟩).memory Tryz.f6.params.toList Rows.matsRingSpec.vars false #[.agg #[.int .i64 0, .int .u32 0], .agg #[.int .u8 0, .int .u8 0, .slice none 0 0], .agg #[.int .u8 0, .int .u8 0, .slice none 0 0], .agg #[.int .u8 0, .int .u8 0, .slice none 0 0], .slice none 0 0, .int .u8 0, .int .u8 0, .int .u8 0].toList 8 = some ([.agg [.lit (.int .i64 0), .lit (.int .u32 0)], .agg [.lit (.int .u8 0), .lit (.int .u8 0), .nil], .agg [.lit (.int .u8 0), .lit (.int .u8 0), .nil], .agg [.lit (.int .u8 0), .lit (.int .u8 0), .nil], .nil, .lit (.int .u8 0), .lit (.int .u8 0), .lit (.int .u8 0)], [], places) :=
  ⟨[], by kernel_rfl⟩

theorem lifted (os : Os) (started : os.Started) (H : Type) (enc : TypeId × Value → H) (F : Stop.Interp) :
    ReturnsInHanded {} Tryz.checked os 6 .any ((OpenSpec.ofChange Rows.matsRingSpec).preRow enc Tryz.prog Tryz.f6 Rows.matsRingRow.domain false Rows.matsRingRow.laid) (((OpenSpec.ofChange Rows.matsRingSpec).at F).post enc Tryz.prog Tryz.f6 false true false false) := by
  obtain ⟨places, hx⟩ := reads os enc
  refine returnsInHanded_of_row (C := Tryz.checked) (s := OpenSpec.ofChange Rows.matsRingSpec) own started (by kernel_rfl) Tryz.func6
    (witness_row_at (enc := enc) (C := Tryz.checked) false (laidWorld os) #[.agg #[.int .i64 0, .int .u32 0], .agg #[.int .u8 0, .int .u8 0, .slice none 0 0], .agg #[.int .u8 0, .int .u8 0, .slice none 0 0], .agg #[.int .u8 0, .int .u8 0, .slice none 0 0], .slice none 0 0, .int .u8 0, .int .u8 0, .int .u8 0] rfl (by kernel_rfl) (by kernel_rfl) (by kernel_rfl)
      (OpenSpec.preRow_of_cond 8 hx (by kernel_rfl) (fun k hk => by cases hk) (by kernel_rfl) (laid_met os))) ?_
  intro W base args ds gs before hval hW _ _ _ hL _ _
  exact contract H enc W base args ds gs before hval hW hL

theorem said : Rows.MatsRingSaid :=
  OpenClaim.holds_of_cond 6 Tryz.f6 rfl rfl rfl rfl rfl rfl rfl ⟨rfl, rfl, rfl, rfl, rfl⟩ rfl rfl rfl rfl rfl (by kernel_rfl) Tryz.func6 (by kernel_rfl)
    (of_decide_eq_true (by kernel_rfl)) (by unfold Func.isWrapper; first | (rw [if_pos (by decide +kernel)]; kernel_rfl) | (rw [if_neg (by decide +kernel)]; exact ⟨rfl, rfl⟩))
    (fun os started H enc _ F => by rw [OpenClaim.pre_eq_preRow]; exact lifted os started H enc F)

/-- No parameter wants a stand-in; the program's own looks are off. -/
theorem plain (f : FuncId) (fn : Func) (hf : Tryz.pinned.checked.prog.funcNamed "gusset/gussetlaw13.MatsRing" = some f) (hfn : Tryz.pinned.checked.prog.funcs[f]? = some fn) :
    false = Tryz.pinned.checked.prog.looks [] ∧ ∀ (j : Nat) t, fn.params[j]? = some t → Tryz.pinned.checked.prog.wantsStandIn t = false := by
  obtain rfl : f = 6 := Option.some.inj ((show Tryz.prog.funcNamed "gusset/gussetlaw13.MatsRing" = some 6 by kernel_rfl).symm.trans hf) |>.symm
  obtain rfl : fn = Tryz.f6 := (Option.some.inj (Tryz.func6.symm.trans hfn)).symm
  refine ⟨by kernel_rfl, fun j t ht => ?_⟩
  have hall : (Tryz.f6.params.toList.all fun t => !Tryz.prog.wantsStandIn t) = true := by kernel_rfl
  have := List.all_eq_true.1 hall t (by simpa using Array.mem_of_getElem? ht)
  exact (show Tryz.prog.wantsStandIn t = false by simpa using this)

/-- The card. -/
theorem card : Rows.MatsRingCardSaid :=
  Claim7.holds_tied_plain_at .later [] _ _ _ _ said (fun _ h => by cases h) (by kernel_rfl) (fun _ h => by cases h) matsRing_row_tie rfl ⟨rfl, rfl⟩ (by kernel_rfl) rfl plain (by kernel_rfl)
#print axioms card
end Go.Proofs.YtcincnngdohfnaaGreatDoor.matsRing
