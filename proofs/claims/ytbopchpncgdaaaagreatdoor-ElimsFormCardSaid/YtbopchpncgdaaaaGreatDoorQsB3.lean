/- The texts Qn, Nh. -/
import Derived.Test.YtbopchpncgdaaaaGreatDoorQsB2
namespace Go.Proofs.YtbopchpncgdaaaaGreatDoor
open Go.Sx
set_option linter.unusedSimpArgs false
set_option linter.unusedVariables false
set_option maxRecDepth 100000
set_option maxHeartbeats 40000000
theorem e_begunZ1 {c:Nat} (more:Nat) (a:List Rat) (g:FuncId) (p:Pred) (ha:OKM 0 c a):
  CallOK Tryz.prog 73 [mA (0:Nat) c a,iv more,.clo g [] [.atom p]] [] (.ptr 1001 0 0 0) [(1001,wzB c)] []:=by
 have k0:CallOK Tryz.prog 41 [iv 1] [] (.frac 1) [] []:=c_fInt 1 (by decide) (by decide)
 refine callID (Z:=[3]) tabOK mixedOK Tryz.func73 rfl (by kernel_rfl) (ShapeOKD.of rfl rfl rfl rfl rfl rfl rfl rfl rfl rfl rfl) rfl (NamesOK.id rfl) ?_
 intro W0 w0 ρ0 hE
 conv=>whnf
 (repeat((first|refine step_i (by kernel_rfl) ?_|refine g_c (by assumption) ?_|refine g_o (op_loadA rfl (ev_ok rfl) (tgt rfl) rfl (Nat.succ_ne_zero _) rfl) ?_|refine g_o (op_fieldA rfl (ev_ok rfl) (tgt rfl) rfl rfl (Nat.succ_ne_zero _) rfl) ?_);conv=>whnf))
 refine SW_loopN hE (fun k=>cond (Nat.beq k 15) 1001 k) [7,17,18] [15] (fun m' fr hp=>fr=[(7,.ptr 1001 0 0 0),(17,iv (0:Nat)),(18,iv (0:Nat))]∧hp=[(1001,wzB c)]) 0 ?_ ?_ ?_
 ·kernel_rfl
 ·exact⟨rfl,rfl⟩
 rintro m' _ _ ⟨rfl,rfl⟩
 conv=>whnf
 (repeat(first|(refine step_w2 rfl rfl ?_;conv=>whnf)))
 exact⟨Recast.refl _,get_cons rfl get_nil,get_nil⟩
end Go.Proofs.YtbopchpncgdaaaaGreatDoor
namespace Go.Proofs.YtbopchpncgdaaaaGreatDoor
open Go.Sx
set_option linter.unusedSimpArgs false
set_option linter.unusedVariables false
set_option maxRecDepth 100000
set_option maxHeartbeats 4000000
def kvS (M:Nat→List Rat) (sp:List Nat) (m k:Nat):Nat→List Rat
 |0=>(List.replicate m 0).set k 1
 |i+1=>(kvS M sp m k i).set (sp.getD i 0) (- (M i).getD k 0)
theorem kvS_len (M:Nat→List Rat) (sp:List Nat) (m k:Nat):∀i,(kvS M sp m k i).length=m
 |0=>by simp[kvS]
 |i+1=>by rw[kvS,List.length_set,kvS_len M sp m k i]
def kvL (M:Nat→List Rat) (sp:List Nat) (m:Nat) (k:Nat):List Rat:=kvS M sp m k sp.length
theorem mem_free {sp:List Nat} {k q:Nat}:q∈freeF sp k↔q<k∧q∉sp:=by simp[freeF]
end Go.Proofs.YtbopchpncgdaaaaGreatDoor
