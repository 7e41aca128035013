/- The texts Kx. -/
import Derived.Test.YtfjhnollamkdcaaGreatDoorQLModesInterlace1
namespace Go.Proofs.YtfjhnollamkdcaaGreatDoor
open Go.Sx
set_option linter.unusedSimpArgs false
set_option linter.unusedVariables false
set_option maxRecDepth 100000
set_option maxHeartbeats 40000000
theorem part_el {k:Nat} {X:List Rat} {A B:List Int} {i j:Nat} (hi:i<A.length) (hj:j<B.length):el (mpart k X A B) B.length i j=el X k (A.getD i 0).toNat (B.getD j 0).toNat:=mk_el hi hj
theorem Sm_part {r c B:Nat} {X:List Rat} {A C:List Int} (hX:X.length=r*c) (sX:Sm B X) (hA:∀x∈A,0≤x∧x<(r:Int)) (hC:∀x∈C,0≤x∧x<(c:Int)):Sm B (mpart c X A C):=Sm_mk fun i j hi hj=>by
 have h1:=hA _ (getD_mem (d:=0) hi)
 have h2:=hC _ (getD_mem (d:=0) hj)
 exact el_sm sX hX (by omega) (by omega)
end Go.Proofs.YtfjhnollamkdcaaGreatDoor
