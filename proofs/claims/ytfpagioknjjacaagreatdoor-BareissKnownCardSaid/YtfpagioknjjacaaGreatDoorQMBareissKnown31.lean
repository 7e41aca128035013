/- The texts Ot. -/
import Derived.Test.YtfpagioknjjacaaGreatDoorQMBareissKnown30
namespace Go.Proofs.YtfpagioknjjacaaGreatDoor
open Go.Sx
set_option linter.unusedSimpArgs false
set_option linter.unusedVariables false
set_option maxRecDepth 100000
set_option maxHeartbeats 40000000
theorem lI (a0 a1 a2 a3 a4:Int) (_w0:(Lit.int .i64 a0).wf=true) (_w1:(Lit.int .i64 a1).wf=true) (w2:(Lit.int .u8 a2).wf=true) (w3:(Lit.int .u8 a3).wf=true) (_w4:(Lit.int .i64 a4).wf=true):
  ab Tryz.prog 48 [iv a0,iv a1,fV .u8 a2,fV .u8 a3,iv a4] [] (.val (.bool true)) [] []:=by
 by_cases h:cc a0 a1 (a2 % 40).toNat=0
 ·have hs:kH a0 a1=0:=by
   refine Classical.byContradiction fun g=> ?_
   rw[cc,if_pos g]at h;exact g h
  rw[cc,if_neg aa]at h
  obtain⟨⟨r0,r1⟩,c0,c1⟩:=Cw hs
  have hn:((a2 % 40).toNat:Int)=a0*a1:=by
   refine Classical.byContradiction fun g=> ?_
   rw[if_pos g]at h;cases h
  obtain⟨R,rfl⟩:∃R:Nat,a0=R:=⟨a0.toNat,aa⟩
  obtain⟨C,rfl⟩:∃C:Nat,a1=C:=⟨a1.toNat,aa⟩
  exact Mg R C a2 a3 a4 (wf_u8 w2) (wf_u8 w3) aa aa (by rw[←Int.natCast_mul]at hn;omega)
 ·exact HU a0 a1 a2 a3 a4 (wf_u8 w2) (wf_u8 w3) h
end Go.Proofs.YtfpagioknjjacaaGreatDoor
