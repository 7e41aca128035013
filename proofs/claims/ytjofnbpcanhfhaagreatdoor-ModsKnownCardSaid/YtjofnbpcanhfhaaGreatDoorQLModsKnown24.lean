/- The texts Ue. -/
import Derived.Test.YtjofnbpcanhfhaaGreatDoorQLModsKnown23
namespace Go.Proofs.YtjofnbpcanhfhaaGreatDoor
open Go.Sx
set_option linter.unusedSimpArgs false
set_option linter.unusedVariables false
set_option maxRecDepth 100000
set_option maxHeartbeats 8000000
theorem c_ModsOf (x:(Bool×List Int)×List Int) (p:Nat) (hx1:W32 x.1.2) (hx2:W32 x.2) (hp:p<4294967296):
  CallOK Tryz.prog 10 [gV x,iel .u32 p] [] (.val (.bool true)) [] []:=by
 have kw:=c_works
 refine callV (Z:=[]) tabOK mixedOK Tryz.func10 rfl (by kernel_rfl) rfl rfl (by kernel_rfl) rfl ?_
 intro W0 w0 ρ0 hE
 conv=>whnf
 by_cases h1:x.1.2.length>8
 ·have t1:Hid (decide ((x.1.2.length:Int)>8)=true):=show decide ((x.1.2.length:Int)>8)=true from decide_eq_true (by omega)
  (repeat((first|refine step_w1 rfl rfl ?_|refine step_w2 rfl rfl ?_|refine g_c (by assumption) ?_|refine g_o (op_pickT rfl (ev_ok rfl) (ev_ok rfl)) ?_|refine g_o (op_lenM rfl rfl rfl (ev_ok rfl) (tgt rfl) rfl) ?_|rw[t1.out]);conv=>whnf));(first|exact Recast.refl _|exact Frz.recast (Recast.refl _) rfl|(refine Frz.one rfl rfl ?_;skip)|(refine Frz.tup ?_;skip))
 have t1:Hid (decide ((x.1.2.length:Int)>8)=false):=show decide ((x.1.2.length:Int)>8)=false from decide_eq_false (by omega)
 by_cases h2:x.2.length>8
 ·have t2:Hid (decide ((x.2.length:Int)>8)=true):=show decide ((x.2.length:Int)>8)=true from decide_eq_true (by omega)
  (repeat((first|refine step_w1 rfl rfl ?_|refine g_c (by assumption) ?_|refine g_o (op_pickF rfl (ev_ok rfl) (ev_ok rfl)) ?_|refine g_o (op_lenM rfl rfl rfl (ev_ok rfl) (tgt rfl) rfl) ?_|rw[t1.out]|rw[t2.out]);conv=>whnf));(first|exact Recast.refl _|exact Frz.recast (Recast.refl _) rfl|(refine Frz.one rfl rfl ?_;skip)|(refine Frz.tup ?_;skip))
 have t2:Hid (decide ((x.2.length:Int)>8)=false):=show decide ((x.2.length:Int)>8)=false from decide_eq_false (by omega)
 have ok:=natBig
 have wx1:Words 1073741824 x.1.2:=⟨hx1,by omega,by omega⟩
 have wx2:Words 1073741824 x.2:=⟨hx2,by omega,by omega⟩
 have sm:sz (zI x.1).natAbs≤256:=Nat.le_trans (sz_zI hx1) (by omega)
 have sxv:=sz_val hx2 x.2.length
 have sd1:sz ((valI x.2 x.2.length).toNat+1)≤258:=Nat.le_trans (sz_add (k:=257) (by omega) (by rw[sz_one];omega)) (by omega)
 have fa:fsz (gQ x)≤258:=fsz_mkRat (Nat.succ_ne_zero _) (by omega) sd1
 have tz:(td (zI x.1).natAbs).length≤256:=tl_sz sm
 have k1:=c_ZOf ok x.1 wx1
 have k2:=c_GreatOf ok x wx1 wx2
 have k3:=r2_ZRef x.1 (by omega) hx1
 have k4:=r3_GreatRef x (by omega) hx1 (by omega) hx2
 generalize zI x.1=m at*
 generalize gQ x=a at*
 have k5:=c_OfFrac ok a p (by omega) hp
 have k6:=r6_OfFrac a p (by unfold fs;omega) hp
 have k7:=c_OfInt ok m p (by omega) (by omega) (by omega)
 have k8:=r6_OfInt m p (by omega) (by omega) (by omega)
 generalize ofFracF a p=iv at*
 obtain⟨v,o⟩:=iv
 generalize md m p=s at*
 have t3:(s==s)=true:=beq_self_eq_true _
 have t4:(v==v)=true:=beq_self_eq_true _
 have t5:(o==o)=true:=beq_self_eq_true _
 (repeat((first|refine step_w1 rfl rfl ?_|refine step_w2 rfl rfl ?_|refine step_i (by kernel_rfl) ?_|refine g_c (by assumption) ?_|refine g_o (op_pickT rfl (ev_ok rfl) (ev_ok rfl)) ?_|refine g_o (op_pickF rfl (ev_ok rfl) (ev_ok rfl)) ?_|rw[beq_self_eq_true]|refine g_o (op_lenM rfl rfl rfl (ev_ok rfl) (tgt rfl) rfl) ?_|rw[t1.out]|rw[t2.out]);conv=>whnf));(first|exact Recast.refl _|exact Frz.recast (Recast.refl _) rfl|(refine Frz.one rfl rfl ?_;skip)|(refine Frz.tup ?_;skip))
theorem law_ModsOf (x:(Bool×List Int)×List Int) (p:Int) (w0:(True∧(x.1.2.length≤maxLen∧∀z∈x.1.2,(Lit.int .u32 z).wf=true))∧(x.2.length≤maxLen∧∀z∈x.2,(Lit.int .u32 z).wf=true))
  (w1:(Lit.int .u32 p).wf=true):
  CallOK Tryz.prog 10 [gV x,iel .u32 p] [] (.val (.bool true)) [] []:=by
 obtain⟨h1,h2⟩:=wf_u32 w1
 obtain⟨q,rfl⟩:=Int.eq_ofNat_of_zero_le h1
 exact c_ModsOf x q (wf_w32 w0.1.2.2) (wf_w32 w0.2.2) (by omega)
end Go.Proofs.YtjofnbpcanhfhaaGreatDoor
