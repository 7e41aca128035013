/- The texts Fz5a. -/
import Derived.Test.YthaeohlijigplaaGreatQLTopFound21
namespace Go.Proofs.YthaeohlijigplaaGreat
open Go.Sx
set_option linter.unusedSimpArgs false
set_option linter.unusedVariables false
set_option maxRecDepth 100000
set_option maxHeartbeats 32000000
theorem g_IndexI (p:Int→Bool) (g:FuncId) (cs:List SV) (l:List Int) (hl:l.length<1099511627776) (h:∀i,i<l.length→CallOK Tryz.prog g ([]++([(iel .i64) (l.getD i 0)]++[ptrA cs])) [] (.val (.bool (p (l.getD i 0)))) [] []):
  CallOK Tryz.prog 115 [mvec 1 (iel .i64) l,.clo g [] [ptrA cs]] [] (iv (idxF p l 0)) [] []:=by
 refine callV (Z:=[]) tabOK mixedOK Tryz.func115 rfl (by kernel_rfl) rfl rfl (by kernel_rfl) rfl ?_
 intro W0 w0 ρ0 hE
 conv=>whnf
 (repeat(first|(refine g_o (op_lenM rfl rfl rfl (ev_ok rfl) (tgt rfl) rfl) ?_;conv=>whnf)))
 refine SW_loopN hE (fun k=>k) [0,1,4,6,7,8] [] (fun m fr hp=>∃i,m=l.length - i∧i≤l.length∧idxF p l 0=idxF p (l.drop i) i∧fr=[(0,mvec 1 (iel .i64) l),(1,.clo g [] [ptrA cs]),(4,iv 0),(6,mvec 1 (iel .i64) l),(7,iv (l.length:Nat)),(8,iv (i:Nat))]∧hp=[]) l.length ?_ ?_ ?_
 ·kernel_rfl
 ·exact⟨0,rfl,Nat.zero_le _,rfl,rfl,rfl⟩
 rintro m _ _ ⟨i,rfl,hi,hx,rfl,rfl⟩
 conv=>whnf
 by_cases hlt:i<l.length
 ·have t1:decide (((i:Nat):Int)<((l.length:Nat):Int))=true:=decide_eq_true (by omega)
  have t2:=winc (i:=i) (by omega)
  have k1:=h i hlt
  have hd:=idxF_drop p 0 hlt
  rw[hx,hd]
  cases hp:p (l.getD i 0)with
  |true=>
   rw[hp]at k1
   (repeat((first|refine step_w1 rfl rfl ?_|refine g_c (by assumption) ?_|refine g_o (op_loadA rfl (ev_ok rfl) (tgt rfl) rfl (Nat.succ_ne_zero _) rfl) ?_|refine g_o (op_indexN (α:=Int) (d:=0) rfl (ev_ok rfl) (ev_ok rfl) (tgt rfl) rfl (tgt rfl) rfl (by omega)) ?_|rw[t1]);conv=>whnf));(first|exact Recast.refl _|exact Frz.recast (Recast.refl _) rfl|(refine Frz.one rfl rfl ?_;skip)|(refine Frz.tup ?_;skip))
  |false=>
   rw[hp]at k1
   (repeat((first|refine step_w1 rfl rfl ?_|refine step_w2 rfl rfl ?_|refine g_c (by assumption) ?_|refine g_o (op_loadA rfl (ev_ok rfl) (tgt rfl) rfl (Nat.succ_ne_zero _) rfl) ?_|refine g_o (op_indexN (α:=Int) (d:=0) rfl (ev_ok rfl) (ev_ok rfl) (tgt rfl) rfl (tgt rfl) rfl (by omega)) ?_|rw[t1]|rw[t2]);conv=>whnf))
   exact⟨l.length - (i+1),fun k=>k,[0,1,4,6,7,8],[],by omega,by kernel_rfl,i+1,rfl,hlt,by simp,rfl,rfl⟩
 ·have t1:decide (((i:Nat):Int)<((l.length:Nat):Int))=false:=decide_eq_false (by omega)
  rw[hx,List.drop_of_length_le (by omega)]
  (repeat(first|(refine step_w2 rfl rfl ?_;conv=>whnf)|(rw[t1];conv=>whnf)));(first|exact Recast.refl _|exact Frz.recast (Recast.refl _) rfl|(refine Frz.one rfl rfl ?_;skip)|(refine Frz.tup ?_;skip))
theorem g_IndexIc (p:Int→Bool) (g:FuncId) (cs:List SV) (l:List Int) (hl:l.length<1099511627776) (h:∀i,i<l.length→CallOK Tryz.prog g ([]++([(iel .i64) (l.getD i 0)]++[ptrA cs])) [] (.val (.bool (p (l.getD i 0)))) [] []):
  CallOK Tryz.prog 81 [mvec 1 (iel .i64) l,.clo g [] [ptrA cs]] [] (.val (.bool (l.any p))) [] []:=by
 have k1:=g_IndexI p g cs l hl h
 rw[←idxF_any p l 0]
 refine callV (Z:=[]) tabOK mixedOK Tryz.func81 rfl (by kernel_rfl) rfl rfl (by kernel_rfl) rfl ?_
 intro W0 w0 ρ0 hE
 conv=>whnf
 (repeat(first|(refine g_c (by assumption) ?_;conv=>whnf)));(first|exact Recast.refl _|exact Frz.recast (Recast.refl _) rfl|(refine Frz.one rfl rfl ?_;skip)|(refine Frz.tup ?_;skip))
theorem SWx_freezeBI {E:Env} (jj pp k:Nat) {c:Code} {K:Post'} {tj:TypeId} {wj:Bool} {cs:List SV} {fr:List (Nat×SV)} {hp:List (Nat×Blk)} {ty:TypeId} {n:Nat} {xs:List Int} (hW:∀b,¬E.W0 b) (hjf:find hp jj=some ⟨tj,wj,.one cs⟩) (hjk:jj≠k) (hpc:cs[pp]? =some (.slc k 1 0 n)) (hk:find hp k=some ⟨ty,true,.ints .i64 xs⟩)
  (hn:n=xs.length) (hs:SWx E c K fr ((jj,⟨tj,wj,.one (cs.set pp (ivec .i64 xs))⟩)::setB hp k ⟨ty,true,.dead⟩)):SWx E c K fr hp:=
 ⟨fun a W hR=>hs.run a W (by
  have:=freezeC_RR jj pp k (xs:=xs.map (iel .i64)) hW hjf hjk hpc hk rfl rfl (keylessL_map (fun _=>rfl) xs) (by simp;omega) hR
  rwa [cutL_all (by simp;omega)]at this)⟩
theorem b_mark1 (m:Me) (q:Int) (h:0≤q∧q<(m.ts.length:Nat)):CallOK Tryz.prog 82 ([]++([iv q]++[ptrA [mvec 10 ptA m.ps,mvec 3 triA m.ts,mvec 3 triA m.ss]])) [] (.val (.bool false)) [] []:=by
 have t1:decide (q<0)=false:=decide_eq_false (by omega)
 have t2:decide (q≥(m.ts.length:Nat))=false:=decide_eq_false (by omega)
 refine callV (Z:=[]) tabOK mixedOK Tryz.func82 rfl (by kernel_rfl) rfl rfl (by kernel_rfl) rfl ?_
 intro W0 w0 ρ0 hE
 conv=>whnf
 (repeat((first|refine step_w1 rfl rfl ?_|refine g_o (op_pickF rfl (ev_ok rfl) (ev_ok rfl)) ?_|refine g_o (op_lenM rfl rfl rfl (ev_ok rfl) (tgt rfl) rfl) ?_|refine g_o (op_loadA rfl (ev_ok rfl) (tgt rfl) rfl (Nat.succ_ne_zero _) rfl) ?_|refine g_o (op_fieldA rfl (ev_ok rfl) (tgt rfl) rfl rfl (Nat.succ_ne_zero _) rfl) ?_|rw[t1]|rw[t2]);conv=>whnf));(first|exact Recast.refl _|exact Frz.recast (Recast.refl _) rfl|(refine Frz.one rfl rfl ?_;skip)|(refine Frz.tup ?_;skip))
end Go.Proofs.YthaeohlijigplaaGreat
