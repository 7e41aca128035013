/- The texts W12. -/
import Derived.Test.YthaeohlijigplaaGreatQLTopFound26
namespace Go.Proofs.YthaeohlijigplaaGreat
open Go.Sx Go.Sort
set_option maxRecDepth 100000
set_option maxHeartbeats 64000000
def eqX (a b:Rat):Bool:=(((((low a.num.natAbs==low b.num.natAbs)&&(((big a.num.natAbs).toList==(big b.num.natAbs).toList)&&true))&&true)&&((decide (a.num<0)==decide (b.num<0))&&true))&&
  (((low (a.den - 1)==low (b.den - 1))&&(((big (a.den - 1)).toList==(big (b.den - 1)).toList)&&true))&&true))
theorem eqX_eq (a b:Rat):eqX a b=decide (a=b):=by
 unfold eqX
 simp only[Bool.and_true]
 rw[nat_eq_iff,nat_eq_iff]
 rw[Bool.eq_iff_iff]
 simp only[Bool.and_eq_true,decide_eq_true_eq,beq_iff_eq,decide_eq_decide]
 have h1:=a.den_pos
 have h2:=b.den_pos
 constructor
 ·rintro⟨⟨h3,h4⟩,h5⟩
  exact Rat.ext (by omega) (by omega)
 ·rintro rfl
  exact⟨⟨rfl,Iff.rfl⟩,rfl⟩
theorem pt_guard:Tryz.prog.eqGuardType Tryz.prog.depth 54=false:=by kernel_rfl
theorem pt_same (a b:Pt):eqTy tab good 20 54 (fracCells a.1++(fracCells a.2++[])) (fracCells b.1++(fracCells b.2++[]))=some (decide (a=b)):=by
 have e:eqTy tab good 20 54 (fracCells a.1++(fracCells a.2++[])) (fracCells b.1++(fracCells b.2++[]))=some (eqX a.1 b.1&&(eqX a.2 b.2&&true)):=rfl
 rw[e,eqX_eq,eqX_eq,Bool.and_true]
 congr 1
 rw[Bool.eq_iff_iff]
 simp[Prod.ext_iff]
theorem eq_Pt (p q:Pt) (w:World):(Op.equalIn 10000 54 (.agg (fracCells p.1++(fracCells p.2++[])).toArray) (.agg (fracCells q.1++(fracCells q.2++[])).toArray)).run Tryz.prog w= .ok (decide (p=q)) w:=by
 obtain⟨ti,h1,_,_,h4⟩:=eqTy_run tabOK goodOK 20 54 _ _ _ (pt_same p q) 10000 w (by decide)
 cases h1
 exact h4
theorem g_Compact (l:List Pt) (hl:l.length<1000000) (hn:∀k,k+1<l.length→l.getD (k+1) (0,0)≠l.getD k (0,0)):CallOK Tryz.prog 104 [mvec 10 ptA l] [] (mvec 10 ptA l) [] []:=by
 by_cases h2:l.length<2
 ·have s1:decide ((l.length:Int)<2)=true:=decide_eq_true (by omega)
  refine callV (Z:=[]) tabOK mixedOK Tryz.func104 rfl (by kernel_rfl) rfl rfl (by kernel_rfl) rfl ?_
  intro W0 w0 ρ0 hE
  conv=>whnf
  (repeat(first|(refine tst_tt s1 ?_;conv=>whnf)|(refine g_o (op_lenM rfl rfl rfl (ev_ok rfl) (tgt rfl) rfl) ?_;conv=>whnf)));(first|exact Recast.refl _|exact Frz.recast (Recast.refl _) rfl|(refine Frz.one rfl rfl ?_;skip)|(refine Frz.tup ?_;skip))
 have s1:decide ((l.length:Int)<2)=false:=decide_eq_false (by omega)
 refine callV (Z:=[100006]) tabOK mixedOK Tryz.func104 rfl (by kernel_rfl) rfl rfl (by kernel_rfl) rfl ?_
 intro W0 w0 ρ0 hE
 conv=>whnf
 (repeat(first|(refine tst_ff s1 ?_;conv=>whnf)|(refine g_o (op_lenM rfl rfl rfl (ev_ok rfl) (tgt rfl) rfl) ?_;conv=>whnf)|(rw[s1];conv=>whnf)))
 refine SW_loopN hE (fun k=>k) [0,3] [] (fun M fr hp=>∃k,M=l.length - (k+1)∧k+1≤l.length∧fr=[(0,mvec 10 ptA l),(3,iv (k+1:Nat))]∧hp=[]) (l.length - 1) ?_ ?_ ?_
 ·kernel_rfl
 ·exact⟨0,rfl,by omega,rfl,rfl⟩
 rintro M _ _ ⟨k,rfl,hk,rfl,rfl⟩
 by_cases hlt:k+1<l.length
 ·have s2:=dlt hlt
  have wk:=winc (i:=k+1) (by omega)
  have wm:IntKind.i64.wrap (((k+1:Nat):Int) - 1)=(k:Int):=by rw[wrap_i64 (by omega) (by omega)];omega
  have hne:=hn k hlt
  have e1:l.getD (k+1) (0,0)=gp l (k+1:Nat):=rfl
  have e2:l.getD k (0,0)=gp l (k:Nat):=rfl
  rw[e1,e2]at hne
  generalize gp l (k+1:Nat)=p at*
  generalize gp l (k:Nat)=q at*
  have t1:decide (p=q)=false:=decide_eq_false hne
  conv=>whnf
  (repeat(first|(refine tst_tt s2 ?_;conv=>whnf)|(refine g_o (op_lenM rfl rfl rfl (ev_ok rfl) (tgt rfl) rfl) ?_;conv=>whnf)|(rw[s2];conv=>whnf)))
  refine SWx_thn (fr1:= ?fr6) (hp1:= ?hp6) (fun K hK=>SWx_go hE ?ra6) ?rb6
  case ra6=>
   conv=>whnf
   (repeat((first|refine step_i (by kernel_rfl) ?_|refine g_o (op_loadA rfl (ev_ok rfl) (tgt rfl) rfl (Nat.succ_ne_zero _) rfl) ?_|refine g_o (op_indexM (α:=Pt) (d:=(0,0)) rfl (ev_ok rfl) (ev_ok rfl) (tgt rfl) rfl (tgt rfl) rfl (by omega)) ?_|refine⟨_,op_eqlE rfl (ev_ok rfl) (ev_ok rfl) rfl rfl (eq_Pt p q) pt_guard, ?_⟩|rw[e1]|rw[e2]|rw[wm]|rw[Int.toNat_natCast]);conv=>whnf))
   exact hK
  conv=>whnf
  (repeat(first|(refine tst_ff t1 ?_;conv=>whnf)|(rw[t1];conv=>whnf)|(rw[wk];conv=>whnf)))
  exact⟨l.length - (k+1+1),fun k=>k,[0,3],[],by omega,by kernel_rfl,k+1,rfl,by omega,rfl,rfl⟩
 ·have s2:=dge hlt
  have hk1:k+1=l.length:=by omega
  conv=>whnf
  (repeat(first|(refine tst_ff s2 ?_;conv=>whnf)|(refine g_o (op_lenM rfl rfl rfl (ev_ok rfl) (tgt rfl) rfl) ?_;conv=>whnf)));(first|exact Recast.refl _|exact Frz.recast (Recast.refl _) rfl|(refine Frz.one rfl rfl ?_;skip)|(refine Frz.tup ?_;skip))
end Go.Proofs.YthaeohlijigplaaGreat
