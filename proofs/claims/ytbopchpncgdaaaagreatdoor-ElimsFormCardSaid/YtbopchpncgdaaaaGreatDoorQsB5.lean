/- The texts Oe. -/
import Derived.Test.YtbopchpncgdaaaaGreatDoorQsB4
namespace Go.Proofs.YtbopchpncgdaaaaGreatDoor
open Go.Sx
set_option linter.unusedSimpArgs false
set_option linter.unusedVariables false
set_option maxRecDepth 100000
set_option maxHeartbeats 4000000
theorem StOK.turn {n s B:Nat} {A0:Mz} {a:List Int} {b:Int} {w j:Nat} (h:StOK n s B A0 a b w) (hj:s+j<n):
  ∃w',w'=(if 0<j then w+1 else w)∧(∃A:Mz,mkz (n - s) (n - s) (swapZ (elz a (n - s)) 0 j)=mkz (n - s) (n - s) (bmZ s A)∧b=detZ s A∧b≠0∧detZ n A0=sgZ w'*detZ n A)∧Zm (B*4^s) (mkz (n - s) (n - s) (swapZ (elz a (n - s)) 0 j)):=by
 obtain⟨A,ha,hb,hb0,e⟩:=h.ex
 have hl:a.length=(n - s)*(n - s):=by rw[ha,mkz_len]
 refine⟨_,rfl,⟨swapZ A s (s+j), ?_, ?_,hb0, ?_⟩, ?_⟩
 ·refine mkz_congr fun p q hp hq=> ?_
  rw[bmZ_swap]
  have e2:∀p,p<n - s→elz a (n - s) p q=bmZ s A p q:=fun p hp=>by rw[ha,mkz_el hp hq]
  unfold swapZ
  by_cases h1:p=0
  ·rw[if_pos h1,if_pos h1,e2 j (by omega)]
  ·rw[if_neg h1,if_neg h1]
   by_cases h2:p=j
   ·rw[if_pos h2,if_pos h2,e2 0 (by omega)]
   ·rw[if_neg h2,if_neg h2,e2 p hp]
 ·rw[detZ_swap_lead,hb]
 ·by_cases g:0<j
  ·rw[if_pos g,detZ_swap A (by omega) hj (by omega),sgZ,e,Int.neg_mul_neg]
  ·rw[if_neg g,show s+j=s by omega,swapZ_self,e]
 ·refine Zm_mk fun p q hp hq=> ?_
  unfold swapZ
  split
  ·exact elz_zm h.z hl (by omega) hq
  ·split
   ·exact elz_zm h.z hl (by omega) hq
   ·exact elz_zm h.z hl hp hq
end Go.Proofs.YtbopchpncgdaaaaGreatDoor
