/- The texts Ar. -/
import Derived.Test.YtfjhnollamkdcaaGreatDoorQLModesQuotient1
namespace Go.Proofs.YtfjhnollamkdcaaGreatDoor
open Go.Sx
set_option linter.unusedSimpArgs false
set_option linter.unusedVariables false
set_option maxRecDepth 100000
set_option maxHeartbeats 40000000
theorem three_mem {l b c:List (Int×Int)} (hl:l.length≤maxLen) (hb:b.length≤maxLen) (hc:c.length≤maxLen):∀x∈[l,b,c],x.length≤maxLen:=fun x hx=>by
 simp only[List.mem_cons,List.not_mem_nil,or_false]at hx
 rcases hx with rfl|rfl|rfl<;>assumption
theorem Pen.diff {n B C T:Nat} {a m:List Rat} {t:Rat} (h:Pen n B C a m) (ht:fs t≤T):(vsub a (vscale t m)).length=n*n∧Sm (B+(T+C)) (vsub a (vscale t m))∧(∀i k,i<n→k<n→el (vsub a (vscale t m)) n i k=pcl (el a n) (el m n) t i k)∧(countF n a m t).left+(pivL n n (vsub a (vscale t m))).length=n:=by
 have ls:(vscale t m).length=n*n:=zip_len h.om h.om
 have e:∀i k,i<n→k<n→el (vsub a (vscale t m)) n i k=pcl (el a n) (el m n) t i k:=fun i k hi hk=>by
  show(vsub a (vscale t m)).getD (i*n+k) 0=_
  rw[get_sub h.oa ls (idx_lt hi hk),get_scale h.om (idx_lt hi hk)];rfl
 refine⟨zip_len h.oa ls,Sm_zip fs_sub h.za (Sm_scale ht h.zm) (by rw[h.oa,ls]),e, ?_⟩
 exact Iner.rank (fun i k hi hk=>by rw[e i k hi hk,e k i hk hi];exact pcl_sym h.sa h.sm t i k hi hk) ((h.iner t).congr fun i k hi hk=>(e i k hi hk).symm)
end Go.Proofs.YtfjhnollamkdcaaGreatDoor
