/- The texts Fy. -/
import Derived.Test.YthaeohlijigplaaGreatQLTopFound14
import Derived.Test.YthaeohlijigplaaGreatQLTopFound7
import Derived.Test.YthaeohlijigplaaGreatQLTopFound5
namespace Go.Proofs.YthaeohlijigplaaGreat
open Go.Sx
set_option linter.unusedSimpArgs false
set_option linter.unusedVariables false
set_option maxRecDepth 100000
set_option maxHeartbeats 8000000
theorem r_of (a b:Int):CallOK Tryz.prog 79 [iv a,iv b] [] (.agg [iv (ke a b).1,iv (ke a b).2]) [] []:=by
 refine callV (Z:=[]) tabOK mixedOK Tryz.func79 rfl (by kernel_rfl) rfl rfl (by kernel_rfl) rfl ?_
 intro W0 w0 ρ0 hE
 conv=>whnf
 skip;(first|exact Recast.refl _|exact Frz.recast (Recast.refl _) rfl|(refine Frz.one rfl rfl ?_;skip)|(refine Frz.tup ?_;skip))
theorem b_of (a b:Int):CallOK Tryz.prog 86 [iv a,iv b] [] (.agg [iv (ke a b).1,iv (ke a b).2]) [] []:=by
 refine callV (Z:=[]) tabOK mixedOK Tryz.func86 rfl (by kernel_rfl) rfl rfl (by kernel_rfl) rfl ?_
 intro W0 w0 ρ0 hE
 conv=>whnf
 skip;(first|exact Recast.refl _|exact Frz.recast (Recast.refl _) rfl|(refine Frz.one rfl rfl ?_;skip)|(refine Frz.tup ?_;skip))
def pv (n:Nat) (p:Int):Bool:=decide (0≤p)&&decide (p<(n:Nat))
theorem r_point (m:Me) (p:Int):CallOK Tryz.prog 113 [meA m,iv p] [] (.val (.bool (pv m.ps.length p))) [] []:=by
 by_cases h:0≤p
 ·have t1:decide (p≥0)=true:=decide_eq_true h
  have e:pv m.ps.length p=decide (p<(m.ps.length:Nat)):=by simp[pv,h]
  rw[e]
  refine callV (Z:=[2]) tabOK mixedOK Tryz.func113 rfl (by kernel_rfl) rfl rfl (by kernel_rfl) rfl ?_
  intro W0 w0 ρ0 hE
  conv=>whnf
  (repeat((first|refine step_w1 rfl rfl ?_|refine g_o (op_pickT rfl (ev_ok rfl) (ev_ok rfl)) ?_|refine g_o (op_lenM rfl rfl rfl (ev_ok rfl) (tgt rfl) rfl) ?_|refine g_o (op_loadA rfl (ev_ok rfl) (tgt rfl) rfl (Nat.succ_ne_zero _) rfl) ?_|refine g_o (op_fieldA rfl (ev_ok rfl) (tgt rfl) rfl rfl (Nat.succ_ne_zero _) rfl) ?_|rw[t1]);conv=>whnf));(first|exact Recast.refl _|exact Frz.recast (Recast.refl _) rfl|(refine Frz.one rfl rfl ?_;skip)|(refine Frz.tup ?_;skip))
 ·have t1:decide (p≥0)=false:=decide_eq_false h
  have e:pv m.ps.length p=false:=by simp[pv,h]
  rw[e]
  refine callV (Z:=[2]) tabOK mixedOK Tryz.func113 rfl (by kernel_rfl) rfl rfl (by kernel_rfl) rfl ?_
  intro W0 w0 ρ0 hE
  conv=>whnf
  (repeat(first|(refine step_w2 rfl rfl ?_;conv=>whnf)|(refine g_o (op_pickF rfl (ev_ok rfl) (ev_ok rfl)) ?_;conv=>whnf)|(rw[t1];conv=>whnf)));(first|exact Recast.refl _|exact Frz.recast (Recast.refl _) rfl|(refine Frz.one rfl rfl ?_;skip)|(refine Frz.tup ?_;skip))
theorem g_ClipP3 (K n:Nat) (r:List Pt):CallOK Tryz.prog 66 [.slc K 10 0 n] [(K,⟨54,true,.seq 10 (r.map ptA)⟩)] (.slc K 10 0 n) [] []:=by
 refine CallOK.anyWr ?_
 refine callK (Z:=[]) tabOK mixedOK Tryz.func66 rfl (by kernel_rfl) (args:=[.slc 0 10 0 n]) (fk:=[(0,⟨54,false,.seq 10 (r.map ptA)⟩)]) (c:=.slc 0 10 0 n) (new:=[]) (upd:=[]) (ShapeOK.of rfl rfl rfl rfl rfl rfl rfl rfl rfl rfl rfl) rfl (fun _=>K) (NamesOK.ro rfl) ?_
 intro W0 w0 ρ0 hE
 conv=>whnf
 (repeat(first|(refine g_o (op_clip rfl (ev_ok rfl) (ev_ok rfl) (ev_ok rfl) (tgt rfl) rfl (tgt rfl) rfl) ?_;conv=>whnf)))
 exact⟨Recast.refl _,(fun _ _ h=>by cases h),(fun _ _ h=>by cases h)⟩
end Go.Proofs.YthaeohlijigplaaGreat
