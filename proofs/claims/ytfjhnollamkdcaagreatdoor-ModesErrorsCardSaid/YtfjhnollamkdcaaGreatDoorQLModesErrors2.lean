/- The texts Aw, Ax, Ay. -/
import Derived.Test.YtfjhnollamkdcaaGreatDoorQLModesErrors1
namespace Go.Proofs.YtfjhnollamkdcaaGreatDoor
open Go.Sx
set_option linter.unusedSimpArgs false
set_option linter.unusedVariables false
set_option maxRecDepth 100000
set_option maxHeartbeats 8000000
theorem qV_bd {q:Int×Int} (h:qOK q): -(9223372036854775808:Rat)≤qV q∧qV q≤9223372036854775808:=by
 obtain⟨⟨h1,h2⟩,h3,h4⟩:=h
 unfold qV
 generalize hd:(if q.2<1 then 1 else q.2:Int)=d
 have hd1:(1:Int)≤d:=by subst hd;split<;>omega
 have c1:((1:Int):Rat)≤(d:Rat):=Rat.intCast_le_intCast.2 hd1
 have c2:((-9223372036854775808:Int):Rat)≤(q.1:Rat):=Rat.intCast_le_intCast.2 h1
 have c3:(q.1:Rat)≤((9223372036854775808:Int):Rat):=Rat.intCast_le_intCast.2 (by omega)
 have c4:(0:Rat)<(d:Rat):=by have:((1:Int):Rat)=1:=rfl;grind
 have c5:(d:Rat)*(d:Rat)⁻¹=1:=Rat.mul_inv_cancel _ (by grind)
 have c6:0<(d:Rat)⁻¹:=Rat.inv_pos.2 c4
 have c7:(d:Rat)⁻¹≤1:=by
  have:=Rat.mul_nonneg (show(0:Rat)≤(d:Rat) - 1 by have:((1:Int):Rat)=1:=rfl;grind) (show(0:Rat)≤(d:Rat)⁻¹ by grind)
  grind
 have e1:((-9223372036854775808:Int):Rat)= -9223372036854775808:=rfl
 have e2:((9223372036854775808:Int):Rat)=9223372036854775808:=rfl
 rw[Rat.div_def]
 have a1:=Rat.mul_nonneg (show(0:Rat)≤9223372036854775808 - (q.1:Rat) by grind) (show(0:Rat)≤(d:Rat)⁻¹ by grind)
 have a2:=Rat.mul_nonneg (show(0:Rat)≤9223372036854775808+(q.1:Rat) by grind) (show(0:Rat)≤(d:Rat)⁻¹ by grind)
 constructor<;>grind
end Go.Proofs.YtfjhnollamkdcaaGreatDoor
namespace Go.Proofs.YtfjhnollamkdcaaGreatDoor
open Go.Sx
set_option linter.unusedSimpArgs false
set_option linter.unusedVariables false
set_option maxRecDepth 100000
set_option maxHeartbeats 40000000
theorem reach_gen {n B C:Nat} {a m:List Rat} (P:Pen n B C a m) (hbd:∀p, -(9223372036854775808:Rat)≤a.getD p 0∧a.getD p 0≤9223372036854775808) (h1:∀x,sumR n (fun i=>x i*x i)≤qf n (el m n) x):∃e,e≤66∧noFar n a m (2^e)∧∀k,k<e→¬noFar n a m (2^k):=by
 refine least (P:=fun e=>noFar n a m (2^e)) ?_
 have hn5:(n:Rat)*9223372036854775808≤2^66:=by
  have:((n:Nat):Rat)≤((5:Nat):Rat):=Rat.natCast_le_natCast.2 P.n5
  have e2:(2:Rat)^66=73786976294838206464:=by decide+kernel
  have e3:((5:Nat):Rat)=5:=rfl
  grind
 exact far (fun i k _ _=>hbd (i*n+k)) h1 hn5 (by have:=two_pos 66;grind) (P.iner (-(2^66))) (P.iner (2^66))
section
variable {n A:Nat} {a m:List Rat} (h:PenOK n A a m)
include h
theorem m_BracketA {k p:Int} (hc:k<0∨(n:Int)≤k∨p<0):CallOK Tryz.prog 29 [mA n n a,mA n n m,iv k,iv p] [] (.tup [.frac 0,.frac 0,iv 1]) [] []:=by
 have k1:=m_CheckOK h
 clear h
 by_cases h1:k<0
 ·have t1:decide (k<0)=true:=decide_eq_true h1
  refine callV (Z:=[4,5,6]) tabOK mixedOK Tryz.func29 rfl (by kernel_rfl) rfl rfl (by kernel_rfl) rfl ?_
  intro W0 w0 ρ0 hE
  conv=>whnf
  (repeat((first|refine step_w1 rfl rfl ?_|refine step_w2 rfl rfl ?_|refine step_i (by kernel_rfl) ?_|refine g_c (by assumption) ?_|refine g_o (op_pickT rfl (ev_ok rfl) (ev_ok rfl)) ?_|rw[bne_self_eq_false]|refine g_o (op_loadA rfl (ev_ok rfl) (tgt rfl) rfl (Nat.succ_ne_zero _) rfl) ?_|rw[t1]);conv=>whnf));(first|exact Recast.refl _|exact Frz.recast (Recast.refl _) rfl|(refine Frz.one rfl rfl ?_;skip)|(refine Frz.tup ?_;skip))
 ·have t1:decide (k<0)=false:=decide_eq_false h1
  by_cases h2:(n:Int)≤k
  ·have t2:decide (k≥(n:Int))=true:=decide_eq_true (by omega)
   refine callV (Z:=[4,5,6]) tabOK mixedOK Tryz.func29 rfl (by kernel_rfl) rfl rfl (by kernel_rfl) rfl ?_
   intro W0 w0 ρ0 hE
   conv=>whnf
   (repeat((first|refine step_w1 rfl rfl ?_|refine step_w2 rfl rfl ?_|refine step_i (by kernel_rfl) ?_|refine g_c (by assumption) ?_|refine g_o (op_pickT rfl (ev_ok rfl) (ev_ok rfl)) ?_|refine g_o (op_pickF rfl (ev_ok rfl) (ev_ok rfl)) ?_|rw[bne_self_eq_false]|refine g_o (op_loadA rfl (ev_ok rfl) (tgt rfl) rfl (Nat.succ_ne_zero _) rfl) ?_|refine g_o (op_fieldA rfl (ev_ok rfl) (tgt rfl) rfl rfl (Nat.succ_ne_zero _) rfl) ?_|rw[t1]|rw[t2]);conv=>whnf));(first|exact Recast.refl _|exact Frz.recast (Recast.refl _) rfl|(refine Frz.one rfl rfl ?_;skip)|(refine Frz.tup ?_;skip))
  ·have t2:decide (k≥(n:Int))=false:=decide_eq_false (by omega)
   have t3:decide (p<0)=true:=decide_eq_true (by omega)
   refine callV (Z:=[4,5,6]) tabOK mixedOK Tryz.func29 rfl (by kernel_rfl) rfl rfl (by kernel_rfl) rfl ?_
   intro W0 w0 ρ0 hE
   conv=>whnf
   (repeat((first|refine step_w1 rfl rfl ?_|refine step_w2 rfl rfl ?_|refine step_i (by kernel_rfl) ?_|refine g_c (by assumption) ?_|refine g_o (op_pickF rfl (ev_ok rfl) (ev_ok rfl)) ?_|rw[bne_self_eq_false]|refine tst_tt t3 ?_|refine g_o (op_loadA rfl (ev_ok rfl) (tgt rfl) rfl (Nat.succ_ne_zero _) rfl) ?_|refine g_o (op_fieldA rfl (ev_ok rfl) (tgt rfl) rfl rfl (Nat.succ_ne_zero _) rfl) ?_|rw[t1]|rw[t2]);conv=>whnf));(first|exact Recast.refl _|exact Frz.recast (Recast.refl _) rfl|(refine Frz.one rfl rfl ?_;skip)|(refine Frz.tup ?_;skip))
theorem m_BracketL {k p:Int} (h1:¬k<0) (h2:¬(n:Int)≤k) (h3:100<p):CallOK Tryz.prog 29 [mA n n a,mA n n m,iv k,iv p] [] (.tup [.frac 0,.frac 0,iv 3]) [] []:=by
 have k1:=m_CheckOK h
 clear h
 have t1:decide (k<0)=false:=decide_eq_false h1
 have t2:decide (k≥(n:Int))=false:=decide_eq_false (by omega)
 have t3:decide (p<0)=false:=decide_eq_false (by omega)
 have t4:decide (p>100)=true:=decide_eq_true (by omega)
 refine callV (Z:=[4,5,6]) tabOK mixedOK Tryz.func29 rfl (by kernel_rfl) rfl rfl (by kernel_rfl) rfl ?_
 intro W0 w0 ρ0 hE
 conv=>whnf
 (repeat((first|refine step_w1 rfl rfl ?_|refine step_w2 rfl rfl ?_|refine step_i (by kernel_rfl) ?_|refine g_c (by assumption) ?_|refine g_o (op_pickF rfl (ev_ok rfl) (ev_ok rfl)) ?_|rw[bne_self_eq_false]|refine tst_ff t3 ?_|refine tst_tt t4 ?_|refine g_o (op_loadA rfl (ev_ok rfl) (tgt rfl) rfl (Nat.succ_ne_zero _) rfl) ?_|refine g_o (op_fieldA rfl (ev_ok rfl) (tgt rfl) rfl rfl (Nat.succ_ne_zero _) rfl) ?_|rw[t1]|rw[t2]);conv=>whnf));(first|exact Recast.refl _|exact Frz.recast (Recast.refl _) rfl|(refine Frz.one rfl rfl ?_;skip)|(refine Frz.tup ?_;skip))
theorem m_QuotF {v:List Rat} (hv:v.length≤2048) (hl:v.length≠n):CallOK Tryz.prog 28 [mA n n a,mA n n m,fvec v] [] (.tup [.frac 0,iv 1]) [] []:=by
 have k1:=m_CheckOK h
 obtain⟨e,k2,he⟩:=m_FormS (v:=v) (w:=v) h.sa.ok (by omega) hv hl
 rw[he hv]at k2
 clear h
 refine callV (Z:=[3,4]) tabOK mixedOK Tryz.func28 rfl (by kernel_rfl) rfl rfl (by kernel_rfl) rfl ?_
 intro W0 w0 ρ0 hE
 conv=>whnf
 (repeat((first|refine step_w1 rfl rfl ?_|refine step_w2 rfl rfl ?_|refine g_c (by assumption) ?_|rw[bne_self_eq_false]|refine g_o (op_loadA rfl (ev_ok rfl) (tgt rfl) rfl (Nat.succ_ne_zero _) rfl) ?_);conv=>whnf));(first|exact Recast.refl _|exact Frz.recast (Recast.refl _) rfl|(refine Frz.one rfl rfl ?_;skip)|(refine Frz.tup ?_;skip))
end
end Go.Proofs.YtfjhnollamkdcaaGreatDoor
namespace Go.Proofs.YtfjhnollamkdcaaGreatDoor
open Go.Sx
set_option linter.unusedSimpArgs false
set_option linter.unusedVariables false
set_option maxRecDepth 100000
set_option maxHeartbeats 40000000
theorem form_qf {n:Nat} {a v:List Rat} (hv:v.length=n):mform n n a v v=qf n (el a n) fun i=>v.getD i 0:=form_sum hv
section
variable {n B C D:Nat} {a m v:List Rat} (h:Pen n B C a m) (h2:2≤C) (hC:C≤80000) (hv:v.length=n) (sv:Sm D v) (hB:B≤80000) (hD:D≤10000000)
include h h2 hC hv sv hB hD
theorem Pen.forms:CallOK Tryz.prog 82 [mA n n a,fvec v,fvec v] [] (.tup [.frac (mform n n a v v),iv 0]) [] []∧CallOK Tryz.prog 82 [mA n n m,fvec v,fvec v] [] (.tup [.frac (mform n n m v v),iv 0]) [] []:=
 ⟨m_Form 5 h.ka hv hv h.za sv sv h.n5 h.n5 (by omega) (by omega),m_Form 5 h.km hv hv h.zm sv sv h.n5 h.n5 (by omega) (by omega)⟩
theorem Pen.quotZ (hz:∀i,i<n→v.getD i 0=0):CallOK Tryz.prog 28 [mA n n a,mA n n m,fvec v] [] (.tup [.frac 0,iv 5]) [] []:=by
 obtain⟨k1,k2⟩:=h.forms h2 hC hv sv hB hD
 rw[show mform n n m v v=0 from by rw[form_qf hv];exact qf_zero hz]at k2
 exact m_QuotZ (h.ok h2 hC) k1 k2
end
end Go.Proofs.YtfjhnollamkdcaaGreatDoor
