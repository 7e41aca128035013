/- Contracts: mods' arithmetic, small numbers. -/
import Derived.Test.YtghdcjhlhcoijaaDoorTab
namespace Go.Proofs.YtghdcjhlhcoijaaDoor
open Go.Sx
set_option maxRecDepth 100000

/-- The residue, 0 for the modulus 0. -/
def md (n p : Int) : Int := if p = 0 then 0 else n % p

theorem c_mod (n p : Int) (h1 : 0 ≤ n) (h3 : 0 ≤ p) (h4 : p < 4294967296) :
    CallOK Tryd.prog 36 [.val (.int .u64 n), .val (.int .u32 p)] [] (.val (.int .u32 (md n p))) [] [] := by
  refine callV tabOK mixedOK Tryd.func36 rfl (by kernel_rfl) rfl rfl (by kernel_rfl) rfl ?_
  intro W0 w0 ρ0 hE
  conv => whnf
  refine ⟨fun h => ?_, fun h => ?_⟩
  · conv => whnf
    have h : p = 0 := by simpa using h
    simp only [md, h, if_true]
    exact Recast.refl _
  · conv => whnf
    have h : p ≠ 0 := by simpa using h
    have e1 : IntKind.u64.wrap p = p := wrap_u64 h3 (by omega)
    refine ⟨by rw [e1]; exact h, ?_⟩
    conv => whnf
    rw [e1, Int.tmod_eq_emod_of_nonneg h1, wrap_u32 (Int.emod_nonneg _ h) (by have := Int.emod_lt_of_pos n (show 0 < p by omega); omega)]
    simp only [md, h, if_false]
    exact Recast.refl _

theorem md_bd {n p : Int} (h3 : 0 ≤ p) : 0 ≤ md n p ∧ (md n p < p ∨ md n p = 0) := by
  unfold md
  split
  · simp
  · rename_i hp
    exact ⟨Int.emod_nonneg _ hp, .inl (Int.emod_lt_of_pos n (by omega))⟩

theorem c_Add (a b p : Int) (ha : 0 ≤ a) (ha' : a < 4294967296) (hb : 0 ≤ b) (hb' : b < 4294967296) (h3 : 0 ≤ p) (h4 : p < 4294967296) :
    CallOK Tryd.prog 15 [.val (.int .u32 a), .val (.int .u32 b), .val (.int .u32 p)] [] (.val (.int .u32 (md (a + b) p))) [] [] := by
  refine callV tabOK mixedOK Tryd.func15 rfl (by kernel_rfl) rfl rfl (by kernel_rfl) rfl ?_
  intro W0 w0 ρ0 hE
  conv => whnf
  have e1 : IntKind.u64.wrap (IntKind.u64.wrap a + IntKind.u64.wrap b) = a + b := by rw [wrap_u64 ha (by omega), wrap_u64 hb (by omega), wrap_u64 (by omega) (by omega)]
  rw [e1]
  refine ⟨[], _, [], [], c_mod (a + b) p (by omega) h3 h4, nil_fk, nil_new, nil_upd, ?_⟩
  conv => whnf
  exact Recast.refl _

theorem c_Mul (a b p : Int) (ha : 0 ≤ a) (ha' : a < 4294967296) (hb : 0 ≤ b) (hb' : b < 4294967296) (h3 : 0 ≤ p) (h4 : p < 4294967296) :
    CallOK Tryd.prog 19 [.val (.int .u32 a), .val (.int .u32 b), .val (.int .u32 p)] [] (.val (.int .u32 (md (a * b) p))) [] [] := by
  refine callV tabOK mixedOK Tryd.func19 rfl (by kernel_rfl) rfl rfl (by kernel_rfl) rfl ?_
  intro W0 w0 ρ0 hE
  conv => whnf
  have h0 : 0 ≤ a * b := Int.mul_nonneg ha hb
  have h1 : a * b ≤ 4294967295 * 4294967295 := Int.mul_le_mul (by omega) (by omega) hb (by omega)
  have e1 : IntKind.u64.wrap (IntKind.u64.wrap a * IntKind.u64.wrap b) = a * b := by rw [wrap_u64 ha (by omega), wrap_u64 hb (by omega), wrap_u64 h0 (by omega)]
  rw [e1]
  refine ⟨[], _, [], [], c_mod (a * b) p h0 h3 h4, nil_fk, nil_new, nil_upd, ?_⟩
  conv => whnf
  exact Recast.refl _

theorem c_Sub (a b p : Int) (ha : 0 ≤ a) (ha' : a < 4294967296) (hb : 0 ≤ b) (hb' : b < 4294967296) (h3 : 0 ≤ p) (h4 : p < 4294967296) :
    CallOK Tryd.prog 17 [.val (.int .u32 a), .val (.int .u32 b), .val (.int .u32 p)] [] (.val (.int .u32 (md (md a p + p - md b p) p))) [] [] := by
  refine callV tabOK mixedOK Tryd.func17 rfl (by kernel_rfl) rfl rfl (by kernel_rfl) rfl ?_
  intro W0 w0 ρ0 hE
  conv => whnf
  have e1 : IntKind.u64.wrap a = a := wrap_u64 ha (by omega)
  have e2 : IntKind.u64.wrap b = b := wrap_u64 hb (by omega)
  rw [e1]
  refine ⟨[], _, [], [], c_mod a p ha h3 h4, nil_fk, nil_new, nil_upd, ?_⟩
  conv => whnf
  rw [e2]
  refine ⟨[], _, [], [], c_mod b p hb h3 h4, nil_fk, nil_new, nil_upd, ?_⟩
  conv => whnf
  obtain ⟨a1, a2⟩ := md_bd (n := a) h3
  obtain ⟨b1, b2⟩ := md_bd (n := b) h3
  have e3 : IntKind.u64.wrap (IntKind.u64.wrap (IntKind.u64.wrap (md a p) + IntKind.u64.wrap p) - IntKind.u64.wrap (md b p)) = md a p + p - md b p := by
    rw [wrap_u64 a1 (by omega), wrap_u64 h3 (by omega), wrap_u64 b1 (by omega), wrap_u64 (n := md a p + p) (by omega) (by omega), wrap_u64 (by omega) (by omega)]
  rw [e3]
  refine ⟨[], _, [], [], c_mod _ p (by omega) h3 h4, nil_fk, nil_new, nil_upd, ?_⟩
  conv => whnf
  exact Recast.refl _
end Go.Proofs.YtghdcjhlhcoijaaDoor
