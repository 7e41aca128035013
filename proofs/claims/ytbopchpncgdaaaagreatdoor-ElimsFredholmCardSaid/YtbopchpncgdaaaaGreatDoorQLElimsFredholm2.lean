/- The texts Qs. -/
import Derived.Test.YtbopchpncgdaaaaGreatDoorQLElimsFredholm1
namespace Go.Proofs.YtbopchpncgdaaaaGreatDoor
open Go.Sx
set_option linter.unusedSimpArgs false
set_option linter.unusedVariables false
set_option maxRecDepth 100000
set_option maxHeartbeats 40000000
theorem xS_get {r c:Nat} {w:Mx} {sp:List Nat} {M:Nat→List Rat} (h:RE r c w sp) (hM:∀j,j<sp.length→(M j).getD c 0=w j c):
  ∀i,i≤sp.length→∀q,q<c→(xS M sp c c i).getD q 0=sumR i fun j=>delta q (sp.getD j 0)*w j c
 |0,_,q,hq=>by simp[xS,sumR,List.getD_eq_getElem?_getD,hq]
 |i+1,hi,q,hq=>by
  rw[xS,sumR]
  have ih:=xS_get h hM i (by omega) q hq
  by_cases e:sp.getD i 0=q
  ·have hz:sumR i (fun j=>delta q (sp.getD j 0)*w j c)=0:=sum_zeros fun j hj=>by
    rw[delta,if_neg fun g=>by have:=piv_inj h (i:=j) (j:=i) (by omega) (by omega) (by rw[←g,e]);omega];grind
   rw[hz,←e,List.getD_eq_getElem?_getD,List.getElem?_set_self (by rw[xS_len,e];exact hq),hM i (by omega),delta,if_pos rfl]
   simp only[Option.getD_some];grind
  ·rw[List.getD_eq_getElem?_getD,List.getElem?_set_ne e,←List.getD_eq_getElem?_getD,ih,show delta q (sp.getD i 0)=0 from if_neg (Ne.symm e)];grind
end Go.Proofs.YtbopchpncgdaaaaGreatDoor
