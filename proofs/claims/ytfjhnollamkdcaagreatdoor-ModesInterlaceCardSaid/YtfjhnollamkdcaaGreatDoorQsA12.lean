/- The texts MjA. -/
import Derived.Test.YtfjhnollamkdcaaGreatDoorQsA11
namespace Go.Proofs.YtfjhnollamkdcaaGreatDoor
open Go.Sx
set_option linter.unusedSimpArgs false
set_option linter.unusedVariables false
set_option maxRecDepth 100000
set_option maxHeartbeats 80000000
theorem bls_start (n:Nat):List.replicate n (SV.val (.bool false))=bls n fun _=>false:=List.ext_getElem (by simp[bls]) (by simp[bls])
theorem m_pivotS {r n i:Nat} {A:Nat} {X Y:Mx} {d:Nat→Bool} (hrn:r=n) (hr:r≤5) (hr1:1≤r) (hA:∀a q,a<n→q<n→fs (X a q)≤A) (hH:4*A+6≤4398046511104) (h:pivF n X d=some (i,Y)):
  CallOK Tryz.prog 138 [.ptr 1001 0 0 0,.slc 1003 1 0 n] (hpD r n X d) (.tup [iv i,.val (.bool true)]) [] (hpD r n Y d):=by
 have hs:=pivF_spec n X d
 rw[h]at hs
 cases hs with
 |diag h1 h2 h3 h4=>exact m_pivot1 X d hrn hr h1 h4 h2 h3
 |@mix i k h1 h2 h3 h4 h5 h6 h7=>exact m_pivot2 (i:=i) (k:=k) A X _ d i true hrn hr hr1 (by omega) hA hH h6 h7 (fun _=>⟨h2,h3,h4,h5,rfl,rfl,rfl⟩) (fun e=>by omega)
theorem m_pivotN {r n:Nat} {A:Nat} {X:Mx} {d:Nat→Bool} (hrn:r=n) (hr:r≤5) (hr1:1≤r) (hA:∀a q,a<n→q<n→fs (X a q)≤A) (hH:4*A+6≤4398046511104) (h:pivF n X d=none):
  CallOK Tryz.prog 138 [.ptr 1001 0 0 0,.slc 1003 1 0 n] (hpD r n X d) (.tup [iv 0,.val (.bool false)]) [] (hpD r n X d):=by
 have hs:=pivF_spec n X d
 rw[h]at hs
 cases hs with
 |none h1 h2=>exact m_pivot2 (i:=n) (k:=0) A X _ d 0 false hrn hr hr1 (Nat.le_refl _) hA hH h1 (fun j l hj hl _=>h2 j l hj hl) (fun e=>by omega) (fun _=>⟨rfl,rfl,rfl⟩)
theorem piv_siz {n i A:Nat} {X Y:Mx} {d:Nat→Bool} (hA:∀a q,a<n→q<n→fs (X a q)≤A) (h:pivF n X d=some (i,Y)):∀a q,a<n→q<n→fs (Y a q)≤4*A+6:=by
 have hs:=pivF_spec n X d
 rw[h]at hs
 cases hs with
 |diag h1 h2 h3 h4=>exact fun a q ha hq=>by have:=hA a q ha hq;omega
 |@mix i k h1 h2 h3 h4 h5 h6 h7=>
  have hne:i≠k:=fun e=>by
   rcases h6 i h1 with g|g
   ·rw[g]at h3;cases h3
   ·rw[←e]at h5;exact h5 g
  exact fun a q ha hq=>addM_siz (C:=2) hA (Nat.le_of_eq fs_one) h1 h2 hne a q ha hq
theorem stF_siz {n i k B:Nat} {Y:Mx} (hi:i<n) (hB:∀a q,a<n→q<n→fs (Y a q)≤B):∀a q,a<n→q<n→fs (stF Y i k a q)≤4*B:=by
 intro a q ha hq
 unfold stF
 have h1:=hB a q ha hq
 have h2:=hB a i ha hi
 have h3:=hB i q hi hq
 have h4:=hB i i hi hi
 split
 ·have g1:=fs_sub (Y a q) (Y a i*Y i q/Y i i)
  have g2:=fs_div (Y a i*Y i q) (Y i i)
  have g3:=fs_mul (Y a i) (Y i q)
  omega
 ·omega
theorem stk {Y:Mx} {i k:Nat}:stF Y i k k i=Y k i:=by unfold stF;rw[if_neg (by omega)]
abbrev cB (m p:Nat):Blk:=⟨125,true,.one [iv m,iv (0:Nat),iv p]⟩
abbrev qdB (q:Rat):Blk:=⟨49,true,.one [.frac q]⟩
theorem fk_hpD {r n:Nat} {X:Mx} {d:Nat→Bool} {hp:List (Nat×Blk)} (h0:find hp 1003=some (doB n d)) (h1:find hp 1001=some (sqB r n)) (h2:find hp 1002=some (rkB true (cellsE r n))) (h:∀j,j<r→find hp (1010+j)=some (rwB true (rowsM n X j))):FkOK hp (hpD r n X d):=by
 intro k b hm
 rcases List.mem_cons.1 hm with e|hm
 ·cases e;exact h0
 ·exact fk_hpS h1 h2 h k b hm
theorem upd_hpD {r n:Nat} {X Y:Mx} {d:Nat→Bool}:UpdOK (hpD r n X d) (hpD r n Y d):=by
 intro k b hm
 rcases List.mem_cons.1 hm with e|hm
 ·cases e;exact⟨_,List.mem_cons_self ..,rfl,rfl,rfl⟩
 ·obtain⟨b0,h1,h2⟩:=upd_hpS (X:=X) k b hm
  exact⟨b0,List.mem_cons_of_mem _ h1,h2⟩
theorem sign_neg {q:Rat} (h:q<0):q.num.sign= -1:=by
 have:¬0≤q.num:=fun g=>by have:=Rat.num_nonneg.1 g;grind
 exact Int.sign_eq_neg_one_of_neg (by omega)
theorem sign_pos {q:Rat} (h:0<q):q.num.sign=1:=by
 have h1:0≤q.num:=Rat.num_nonneg.2 (by grind)
 have h2:q.num≠0:=fun g=>by have:=Rat.num_eq_zero.1 g;grind
 exact Int.sign_eq_one_of_pos (by omega)
end Go.Proofs.YtfjhnollamkdcaaGreatDoor
