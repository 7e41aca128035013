/- The texts Am, An. -/
import Derived.Test.YtfjhnollamkdcaaGreatDoorQsA21
namespace Go.Proofs.YtfjhnollamkdcaaGreatDoor
open Go.Sx
set_option linter.unusedSimpArgs false
set_option linter.unusedVariables false
set_option maxRecDepth 100000
set_option maxHeartbeats 40000000
theorem c_of22 (n d:Int) (h1: -9223372036854775808≤n∧n<9223372036854775808) (h2: -9223372036854775808≤d∧d<9223372036854775808) (hd:d≠0):CallOK Tryz.prog 53 [iv n,iv d] [] (.frac ((n:Rat)/(d:Rat))) [] []:=by
 have k1:=c_fOf natHuge n d (by have:=fs_int h1.1 h1.2;have:=fs_int h2.1 h2.2;unfold fs at*;omega) h1.1 h1.2 h2.1 h2.2 hd
 refine callV (Z:=[]) tabOK mixedOK Tryz.func53 rfl (by kernel_rfl) rfl rfl (by kernel_rfl) rfl ?_
 intro W0 w0 ρ0 hE
 conv=>whnf
 (repeat(first|(refine g_c (by assumption) ?_;conv=>whnf)));(first|exact Recast.refl _|exact Frz.recast (Recast.refl _) rfl|(refine Frz.one rfl rfl ?_;skip)|(refine Frz.tup ?_;skip))
theorem c_counts {n:Nat} {a m:List Rat} (t:Int) (b at' ab:Nat) (ht: -9223372036854775808≤t∧t<9223372036854775808) (k:CallOK Tryz.prog 18 [mA n n a,mA n n m,.frac (t:Rat)] [] (.tup [iv (b:Nat),iv (at':Nat),iv (ab:Nat),iv 0]) [] []):
  CallOK Tryz.prog 51 [mA n n a,mA n n m,iv t,iv (b:Nat),iv (at':Nat),iv (ab:Nat)] [] (.val (.bool true)) [] []:=by
 have k1:=c_fInt t ht.1 ht.2
 generalize (t:Rat)=q at*
 refine callV (Z:=[6,7]) tabOK mixedOK Tryz.func51 rfl (by kernel_rfl) rfl rfl (by kernel_rfl) rfl ?_
 intro W0 w0 ρ0 hE
 conv=>whnf
 (repeat((first|refine step_w1 rfl rfl ?_|refine step_i (by kernel_rfl) ?_|refine g_c (by assumption) ?_|refine g_o (op_pickT rfl (ev_ok rfl) (ev_ok rfl)) ?_|rw[beq_self_eq_true]|refine g_o (op_loadA rfl (ev_ok rfl) (tgt rfl) rfl (Nat.succ_ne_zero _) rfl) ?_);conv=>whnf));(first|exact Recast.refl _|exact Frz.recast (Recast.refl _) rfl|(refine Frz.one rfl rfl ?_;skip)|(refine Frz.tup ?_;skip))
theorem c_between {n:Nat} {a m:List Rat} {k places:Nat} {low high:Rat} (k1:CallOK Tryz.prog 29 [mA n n a,mA n n m,iv (k:Nat),iv (places:Nat)] [] (.tup [.frac low,.frac high,iv 0]) [] []):
  CallOK Tryz.prog 52 [mA n n a,mA n n m,iv (k:Nat),iv (places:Nat),.frac low,.frac high] [] (.val (.bool true)) [] []:=by
 have q1:decide (low=low)=true:=decide_eq_true rfl
 have q2:decide (high=high)=true:=decide_eq_true rfl
 refine callV (Z:=[6,7,10,11]) tabOK mixedOK Tryz.func52 rfl (by kernel_rfl) rfl rfl (by kernel_rfl) rfl ?_
 intro W0 w0 ρ0 hE
 conv=>whnf
 (repeat((first|refine g_c (by assumption) ?_|refine g_o (op_pickT rfl (ev_ok rfl) (ev_ok rfl)) ?_|rw[beq_self_eq_true]|refine tst_tt q1 ?_|refine tst_tt q2 ?_|refine g_o (op_loadA rfl (ev_ok rfl) (tgt rfl) rfl (Nat.succ_ne_zero _) rfl) ?_|refine⟨_,op_eqAgg tabOK goodOK rfl (ev_ok rfl) (ev_ok rfl) rfl rfl rfl rfl (q_same _ _) q_guard, ?_⟩|rw[q1]|rw[q2]);conv=>whnf));(first|exact Recast.refl _|exact Frz.recast (Recast.refl _) rfl|(refine Frz.one rfl rfl ?_;skip)|(refine Frz.tup ?_;skip))
end Go.Proofs.YtfjhnollamkdcaaGreatDoor
namespace Go.Proofs.YtfjhnollamkdcaaGreatDoor
open Go.Sx
set_option linter.unusedSimpArgs false
set_option linter.unusedVariables false
set_option maxRecDepth 100000
set_option maxHeartbeats 40000000
theorem m_CheckN {n:Nat} {a m:List Rat} (ha:OKM n n a) (hm:OKM n n m) (hn:n≤64) (h:mturn n n a≠a):CallOK Tryz.prog 25 [mA n n a,mA n n m] [] (iv 1) [] []:=by
 have k1:=m_Check0 ha
 have k2:=m_Check0 hm
 have k3:=m_Symmetric ha
 rw[show sameF n n n n a (mturn n n a)=false from by unfold sameF;simp[Ne.symm h]]at k3
 have t1:decide (((n:Nat):Int)>64)=false:=decide_eq_false (by omega)
 refine callV (Z:=[2,3]) tabOK mixedOK Tryz.func25 rfl (by kernel_rfl) rfl rfl (by kernel_rfl) rfl ?_
 intro W0 w0 ρ0 hE
 conv=>whnf
 (repeat((first|refine step_w1 rfl rfl ?_|refine step_w2 rfl rfl ?_|refine g_c (by assumption) ?_|refine g_o (op_pickT rfl (ev_ok rfl) (ev_ok rfl)) ?_|refine g_o (op_pickF rfl (ev_ok rfl) (ev_ok rfl)) ?_|rw[bne_self_eq_false]|refine tst_ff t1 ?_|refine g_o (op_loadA rfl (ev_ok rfl) (tgt rfl) rfl (Nat.succ_ne_zero _) rfl) ?_|refine g_o (op_fieldA rfl (ev_ok rfl) (tgt rfl) rfl rfl (Nat.succ_ne_zero _) rfl) ?_);conv=>whnf));(first|exact Recast.refl _|exact Frz.recast (Recast.refl _) rfl|(refine Frz.one rfl rfl ?_;skip)|(refine Frz.tup ?_;skip))
theorem m_CheckP2 {A:Nat} {a m:List Rat} (sa:SymL 2 a) (sm:SymL 2 m) (hsy:SymX 2 (begX 2 m m 0)) (h2:2≤A) (hM:A≤80000) (hsz:Sm A m) (hp:(countF 2 m m 0).p≠2):CallOK Tryz.prog 25 [mA (2:Nat) (2:Nat) a,mA (2:Nat) (2:Nat) m] [] (iv 1) [] []:=by
 have k1:=m_Check0 sa.ok
 have k2:=m_Check0 sm.ok
 have k3:=m_Symm1 sa
 have k4:=m_Symm1 sm
 have hB:∀i q,i<2→q<2→fs (begX 2 m m 0 i q)≤A:=fun i q hi hq=>by
  show fs (m.getD (i*2+q) 0 - 0*m.getD (i*2+q) 0)≤A
  rw[show m.getD (i*2+q) 0 - 0*m.getD (i*2+q) 0=m.getD (i*2+q) 0 by grind]
  exact el_sm hsz sm.ok.n hi hq
 obtain⟨F,hF⟩:∃F,countF 2 m m 0=F:=⟨_,rfl⟩
 rw[hF]at hp
 have kb:=m_begin (r:=2) m m 0 rfl (by decide) (by decide) sm.ok sm.ok (fun i q hi hq=>by
  have h1:=el_sm hsz sm.ok.n hi hq
  have h3:=fs_zero
  unfold el at h1
  omega)
 have ki:=m_inertia (r:=2) A (begX 2 m m 0) F rfl (by decide) (by decide) hsy hB h2 hM hF
 have t1:(((F.p:Nat):Int) != ((2:Nat):Int))=true:=bne_iff_ne.2 (by omega)
 refine callV (Z:=[2,3]) tabOK mixedOK Tryz.func25 rfl (by kernel_rfl) rfl rfl (by kernel_rfl) rfl ?_
 intro W0 w0 ρ0 hE
 conv=>whnf
 (repeat(first|(refine step_w1 rfl rfl ?_;conv=>whnf)|(refine step_w2 rfl rfl ?_;conv=>whnf)|(refine step_i (by kernel_rfl) ?_;conv=>whnf)|(refine g_c (by assumption) ?_;conv=>whnf)|(refine g_o (op_pickF rfl (ev_ok rfl) (ev_ok rfl)) ?_;conv=>whnf)|(rw[bne_self_eq_false];conv=>whnf)|(refine tst_tt t1 ?_;conv=>whnf)|(refine g_o (op_loadA rfl (ev_ok rfl) (tgt rfl) rfl (Nat.succ_ne_zero _) rfl) ?_;conv=>whnf)|(refine g_o (op_fieldA rfl (ev_ok rfl) (tgt rfl) rfl rfl (Nat.succ_ne_zero _) rfl) ?_;conv=>whnf)|(refine⟨[],_,hpS _ 2 _,[],kb,nil_fk,(fun _ _ _=>rfl),nil_upd, ?_⟩;conv=>whnf)|(refine⟨hpS _ 2 _,_,[],hpS _ 2 _,ki,fk_hpS rfl rfl (fun j hj=>by(rcases(show j=0∨j=1 by omega)with h|h)<;>(subst h;rfl)),nil_new,upd_hpS, ?_⟩;conv=>whnf)|(refine⟨_,[],[],op_indexAgg rfl (ev_ok rfl) (l:=[.int .i64 _,.int .i64 _,.int .i64 _]) rfl (ev_ok rfl) (TabOK.get (t:=125) tabOK rfl) rfl (TabOK.get (t:=3) tabOK rfl) rfl rfl (by decide) (by decide) (v:=.int .i64 _) rfl rfl,nil_fk,nil_new, ?_⟩;conv=>whnf)));(first|exact Recast.refl _|exact Frz.recast (Recast.refl _) rfl|(refine Frz.one rfl rfl ?_;skip)|(refine Frz.tup ?_;skip))
end Go.Proofs.YtfjhnollamkdcaaGreatDoor
