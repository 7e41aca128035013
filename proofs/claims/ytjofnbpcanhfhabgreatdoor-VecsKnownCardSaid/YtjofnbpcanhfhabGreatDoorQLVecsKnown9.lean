/- The texts Hn. -/
import Derived.Test.YtjofnbpcanhfhabGreatDoorQLVecsKnown8
namespace Go.Proofs.YtjofnbpcanhfhabGreatDoor
open Go.Sx
set_option linter.unusedSimpArgs false
set_option linter.unusedVariables false
set_option maxRecDepth 100000
set_option maxHeartbeats 8000000
theorem c_Errors (c:Int×Int) (la lb:List (Int×Int)) (n i:Int) (hc:qOK c) (hoa:∀q∈la,qOK q) (hob:∀q∈lb,qOK q):
  CallOK Tryz.prog 9 [qA c,mvec 2 qA la,mvec 2 qA lb,.val (.int .i64 n),.val (.int .i64 i)] [] (.val (.bool true)) [] []:=by
 have kw:=l_works
 refine callV (Z:=[5,150]) tabOK mixedOK Tryz.func9 rfl (by kernel_rfl) rfl rfl (by kernel_rfl) rfl ?_
 intro W0 w0 ρ0 hE
 conv=>whnf
 by_cases h1:la.length>20
 ·have t1:Hid (decide ((la.length:Int)>20)=true):=show decide ((la.length:Int)>20)=true from decide_eq_true (by omega)
  (repeat((first|refine step_w1 rfl rfl ?_|refine step_w2 rfl rfl ?_|refine g_c (by assumption) ?_|refine g_o (op_pickT rfl (ev_ok rfl) (ev_ok rfl)) ?_|refine g_o (op_lenM rfl rfl rfl (ev_ok rfl) (tgt rfl) rfl) ?_|rw[t1.out]);conv=>whnf));(first|exact Recast.refl _|exact Frz.recast (Recast.refl _) rfl|(refine Frz.one rfl rfl ?_;skip)|(refine Frz.tup ?_;skip))
 have t1:Hid (decide ((la.length:Int)>20)=false):=show decide ((la.length:Int)>20)=false from decide_eq_false (by omega)
 by_cases h2:lb.length>20
 ·have t2:Hid (decide ((lb.length:Int)>20)=true):=show decide ((lb.length:Int)>20)=true from decide_eq_true (by omega)
  (repeat((first|refine step_w1 rfl rfl ?_|refine g_c (by assumption) ?_|refine g_o (op_pickF rfl (ev_ok rfl) (ev_ok rfl)) ?_|refine g_o (op_lenM rfl rfl rfl (ev_ok rfl) (tgt rfl) rfl) ?_|rw[t1.out]|rw[t2.out]);conv=>whnf));(first|exact Recast.refl _|exact Frz.recast (Recast.refl _) rfl|(refine Frz.one rfl rfl ?_;skip)|(refine Frz.tup ?_;skip))
 have t2:Hid (decide ((lb.length:Int)>20)=false):=show decide ((lb.length:Int)>20)=false from decide_eq_false (by omega)
 have kx:=c_V la (by omega) hoa
 have ky:=c_V lb (by omega) hob
 have hx:(la.map qV).length≤20:=by rw[List.length_map];omega
 have hy:(lb.map qV).length≤20:=by rw[List.length_map];omega
 have sx:=Sm_V hoa
 have sy:=Sm_V hob
 have kp:=c_QOf c hc
 have fp:=fs_qV hc
 clear hoa hob hc h1 h2
 generalize qV c=p at*
 generalize la.map qV=x at*
 generalize lb.map qV=y at*
 have A:((x.length:Int) != (y.length:Int))=false∧CallOK Tryz.prog 13 [.frac p,fvec x,fvec y] [] (.val (.int .i64 0)) [] []∧True∨
   ((x.length:Int) != (y.length:Int))=true∧CallOK Tryz.prog 13 [.frac p,fvec x,fvec y] [] (.val (.int .i64 1)) [] []∧CallOK Tryz.prog 48 [.frac p,fvec x,fvec y] [] (.val (.bool true)) [] []:=by
  by_cases h:x.length=y.length
  ·exact .inl ⟨by rw[h];exact bne_self_eq_false _,l_refused p x y x.length rfl h.symm (by omega) fp sx sy,trivial⟩
  ·exact .inr ⟨bne_iff_ne.2 (by omega),l_refusedE p x y (by omega) (by omega) h,l_nothing p x y (by omega) (by omega) h⟩
 clear sx sy fp hy
 have ko:=c_fInt 1 (by decide) (by decide)
 by_cases hi:i<0
 ·have c1:decide (i≥0)=false:=decide_eq_false (by omega)
  have b3:decide (i<0)=true:=decide_eq_true hi
  have kP:=v_PartE x i (by omega) (.inl hi)
  by_cases hB:n<0
  ·have b1:decide (n<0)=true:=decide_eq_true hB
   have e1:fitsF n=1:=by unfold fitsF;rw[if_pos hB]
   have kZ:=v_ZeroE n (by rw[e1];decide)
   have kU:=v_UnitE n i (by rw[e1];decide)
   rw[e1]at kZ kU
   rcases A with⟨tA,kA,kN⟩|⟨tA,kA,kN⟩<;>((repeat((first|refine step_w1 rfl rfl ?_|refine step_w2 rfl rfl ?_|refine step_i (by kernel_rfl) ?_|refine g_c (by assumption) ?_|refine g_o (op_pickT rfl (ev_ok rfl) (ev_ok rfl)) ?_|refine g_o (op_pickF rfl (ev_ok rfl) (ev_ok rfl)) ?_|rw[bne_self_eq_false]|refine g_o (op_lenM rfl rfl rfl (ev_ok rfl) (tgt rfl) rfl) ?_|refine g_o (op_loadA rfl (ev_ok rfl) (tgt rfl) rfl (Nat.succ_ne_zero _) rfl) ?_|rw[t1.out]|rw[t2.out]|rw[tA]|rw[b1]|rw[c1]);conv=>whnf));(first|exact Recast.refl _|exact Frz.recast (Recast.refl _) rfl|(refine Frz.one rfl rfl ?_;skip)|(refine Frz.tup ?_;skip)))
  by_cases hB2:2048<n
  ·have b1:decide (n<0)=false:=decide_eq_false (by omega)
   have b2:decide (n>2048)=true:=decide_eq_true (by omega)
   have e1:fitsF n=3:=by unfold fitsF;rw[if_neg (by omega),if_pos (by omega)]
   have kZ:=v_ZeroE n (by rw[e1];decide)
   have kU:=v_UnitE n i (by rw[e1];decide)
   rw[e1]at kZ kU
   rcases A with⟨tA,kA,kN⟩|⟨tA,kA,kN⟩<;>((repeat((first|refine step_w1 rfl rfl ?_|refine step_w2 rfl rfl ?_|refine step_i (by kernel_rfl) ?_|refine g_c (by assumption) ?_|refine g_o (op_pickT rfl (ev_ok rfl) (ev_ok rfl)) ?_|refine g_o (op_pickF rfl (ev_ok rfl) (ev_ok rfl)) ?_|rw[bne_self_eq_false]|refine g_o (op_lenM rfl rfl rfl (ev_ok rfl) (tgt rfl) rfl) ?_|refine g_o (op_loadA rfl (ev_ok rfl) (tgt rfl) rfl (Nat.succ_ne_zero _) rfl) ?_|rw[t1.out]|rw[t2.out]|rw[tA]|rw[b1]|rw[b2]|rw[c1]);conv=>whnf));(first|exact Recast.refl _|exact Frz.recast (Recast.refl _) rfl|(refine Frz.one rfl rfl ?_;skip)|(refine Frz.tup ?_;skip)))
  obtain⟨N,rfl⟩:=Int.eq_ofNat_of_zero_le (show 0≤n by omega)
  have kU:=v_UnitI N i (by omega) (.inl hi)
  have b1:decide ((N:Int)<0)=false:=decide_eq_false (by omega)
  have b2:decide ((N:Int)>2048)=false:=decide_eq_false (by omega)
  have kZ:=v_Zero N (by omega)
  have kM:=v_MaxZ N (by omega)
  have b5:(((List.replicate N (0:Rat)).length:Int) != (N:Int))=false:=by rw[List.length_replicate];exact bne_self_eq_false _
  have b6:(!decide ((0:Rat)=0))=false:=by decide+kernel
  generalize List.replicate N (0:Rat)=v at*
  rcases A with⟨tA,kA,kN⟩|⟨tA,kA,kN⟩<;>((repeat((first|refine step_w1 rfl rfl ?_|refine step_w2 rfl rfl ?_|refine step_i (by kernel_rfl) ?_|refine g_c (by assumption) ?_|refine g_o (op_pickT rfl (ev_ok rfl) (ev_ok rfl)) ?_|refine g_o (op_pickF rfl (ev_ok rfl) (ev_ok rfl)) ?_|rw[beq_self_eq_true]|rw[bne_self_eq_false]|refine g_o (op_lenM rfl rfl rfl (ev_ok rfl) (tgt rfl) rfl) ?_|refine g_o (op_loadA rfl (ev_ok rfl) (tgt rfl) rfl (Nat.succ_ne_zero _) rfl) ?_|refine⟨_,op_neAgg tabOK goodOK rfl (ev_ok rfl) (ev_ok rfl) rfl rfl rfl rfl (q_same _ _) q_guard, ?_⟩|rw[t1.out]|rw[t2.out]|rw[tA]|rw[b1]|rw[b2]|rw[b3]|rw[b5]|rw[b6]|rw[c1]);conv=>whnf));(first|exact Recast.refl _|exact Frz.recast (Recast.refl _) rfl|(refine Frz.one rfl rfl ?_;skip)|(refine Frz.tup ?_;skip)))
 have c1:decide (i≥0)=true:=decide_eq_true (by omega)
 have b3:decide (i<0)=false:=decide_eq_false hi
 have C:(decide (i<(x.length:Int))=false∧CallOK Tryz.prog 15 [fvec x,ivec .i64 [i]] [] (.tup [fvec [],.val (.int .i64 1)]) [] []∧True∧True∧True)∨
   ∃z:List Rat,(decide (i<(x.length:Int))=true∧CallOK Tryz.prog 15 [fvec x,ivec .i64 [i]] [] (.tup [fvec z,.val (.int .i64 0)]) [] []∧z.length=1∧(!decide (z.getD 0 0=x.getD i.toNat 0))=false∧(((z.length:Nat):Int) != 1)=false∧0≤i∧i<(x.length:Int)∧(!decide (z.getD (Int.toNat 0) 0=x.getD i.toNat 0))=false):=by
  by_cases h:i<(x.length:Int)
  ·refine .inr ⟨vpart x [i],decide_eq_true h,v_Part x [i] (by omega) (show 1≤2048 by decide) (fun k hk=>by
    have:k=0:=by simp at hk;omega
    subst this;exact⟨by show 0≤i;omega,h⟩),rfl, ?_,rfl,by omega,h, ?_⟩
   ·have:(vpart x [i]).getD 0 0=x.getD i.toNat 0:=rfl
    rw[this,decide_eq_true rfl];rfl
   ·have:(vpart x [i]).getD (Int.toNat 0) 0=x.getD i.toNat 0:=rfl
    rw[this,decide_eq_true rfl];rfl
  ·exact .inl ⟨decide_eq_false h,v_PartE x i (by omega) (.inr (by omega)),trivial,trivial,trivial⟩
 by_cases hB:n<0
 ·have b1:decide (n<0)=true:=decide_eq_true hB
  have e1:fitsF n=1:=by unfold fitsF;rw[if_pos hB]
  have kZ:=v_ZeroE n (by rw[e1];decide)
  have kU:=v_UnitE n i (by rw[e1];decide)
  rw[e1]at kZ kU
  rcases A with⟨tA,kA,kN⟩|⟨tA,kA,kN⟩<;>rcases C with⟨c2,kP,c3,c4,c5⟩|⟨z,c2,kP,c3,c4,c5,c6,c7,c8⟩<;>((repeat((first|refine step_w1 rfl rfl ?_|refine step_w2 rfl rfl ?_|refine step_i (by kernel_rfl) ?_|refine g_c (by assumption) ?_|refine g_o (op_pickT rfl (ev_ok rfl) (ev_ok rfl)) ?_|refine g_o (op_pickF rfl (ev_ok rfl) (ev_ok rfl)) ?_|rw[beq_self_eq_true]|rw[bne_self_eq_false]|refine g_o (op_lenM rfl rfl rfl (ev_ok rfl) (tgt rfl) rfl) ?_|refine g_o (op_loadA rfl (ev_ok rfl) (tgt rfl) rfl (Nat.succ_ne_zero _) rfl) ?_|refine g_o (op_indexM (α:=Rat) (d:=0) rfl (ev_ok rfl) (ev_ok rfl) (tgt rfl) rfl (tgt rfl) rfl (by omega)) ?_|refine⟨_,op_neAgg tabOK goodOK rfl (ev_ok rfl) (ev_ok rfl) rfl rfl rfl rfl (q_same _ _) q_guard, ?_⟩|rw[t1.out]|rw[t2.out]|rw[tA]|rw[b1]|rw[c1]|rw[c2]|rw[c5]|rw[c8]);conv=>whnf));(first|exact Recast.refl _|exact Frz.recast (Recast.refl _) rfl|(refine Frz.one rfl rfl ?_;skip)|(refine Frz.tup ?_;skip)))
 by_cases hB2:2048<n
 ·have b1:decide (n<0)=false:=decide_eq_false (by omega)
  have b2:decide (n>2048)=true:=decide_eq_true (by omega)
  have e1:fitsF n=3:=by unfold fitsF;rw[if_neg (by omega),if_pos (by omega)]
  have kZ:=v_ZeroE n (by rw[e1];decide)
  have kU:=v_UnitE n i (by rw[e1];decide)
  rw[e1]at kZ kU
  rcases A with⟨tA,kA,kN⟩|⟨tA,kA,kN⟩<;>rcases C with⟨c2,kP,c3,c4,c5⟩|⟨z,c2,kP,c3,c4,c5,c6,c7,c8⟩<;>((repeat((first|refine step_w1 rfl rfl ?_|refine step_w2 rfl rfl ?_|refine step_i (by kernel_rfl) ?_|refine g_c (by assumption) ?_|refine g_o (op_pickT rfl (ev_ok rfl) (ev_ok rfl)) ?_|refine g_o (op_pickF rfl (ev_ok rfl) (ev_ok rfl)) ?_|rw[beq_self_eq_true]|rw[bne_self_eq_false]|refine g_o (op_lenM rfl rfl rfl (ev_ok rfl) (tgt rfl) rfl) ?_|refine g_o (op_loadA rfl (ev_ok rfl) (tgt rfl) rfl (Nat.succ_ne_zero _) rfl) ?_|refine g_o (op_indexM (α:=Rat) (d:=0) rfl (ev_ok rfl) (ev_ok rfl) (tgt rfl) rfl (tgt rfl) rfl (by omega)) ?_|refine⟨_,op_neAgg tabOK goodOK rfl (ev_ok rfl) (ev_ok rfl) rfl rfl rfl rfl (q_same _ _) q_guard, ?_⟩|rw[t1.out]|rw[t2.out]|rw[tA]|rw[b1]|rw[b2]|rw[c1]|rw[c2]|rw[c5]|rw[c8]);conv=>whnf));(first|exact Recast.refl _|exact Frz.recast (Recast.refl _) rfl|(refine Frz.one rfl rfl ?_;skip)|(refine Frz.tup ?_;skip)))
 by_cases hB3:i≥n
 ·obtain⟨N,rfl⟩:=Int.eq_ofNat_of_zero_le (show 0≤n by omega)
  have b4:decide (i≥(N:Int))=true:=decide_eq_true hB3
  have kU:=v_UnitI N i (by omega) (.inr hB3)
  have b1:decide ((N:Int)<0)=false:=decide_eq_false (by omega)
  have b2:decide ((N:Int)>2048)=false:=decide_eq_false (by omega)
  have kZ:=v_Zero N (by omega)
  have kM:=v_MaxZ N (by omega)
  have b5:(((List.replicate N (0:Rat)).length:Int) != (N:Int))=false:=by rw[List.length_replicate];exact bne_self_eq_false _
  have b6:(!decide ((0:Rat)=0))=false:=by decide+kernel
  generalize List.replicate N (0:Rat)=v at*
  rcases A with⟨tA,kA,kN⟩|⟨tA,kA,kN⟩<;>rcases C with⟨c2,kP,c3,c4,c5⟩|⟨z,c2,kP,c3,c4,c5,c6,c7,c8⟩<;>((repeat((first|refine step_w1 rfl rfl ?_|refine step_w2 rfl rfl ?_|refine step_i (by kernel_rfl) ?_|refine g_c (by assumption) ?_|refine g_o (op_pickT rfl (ev_ok rfl) (ev_ok rfl)) ?_|refine g_o (op_pickF rfl (ev_ok rfl) (ev_ok rfl)) ?_|rw[beq_self_eq_true]|rw[bne_self_eq_false]|refine g_o (op_lenM rfl rfl rfl (ev_ok rfl) (tgt rfl) rfl) ?_|refine g_o (op_loadA rfl (ev_ok rfl) (tgt rfl) rfl (Nat.succ_ne_zero _) rfl) ?_|refine g_o (op_indexM (α:=Rat) (d:=0) rfl (ev_ok rfl) (ev_ok rfl) (tgt rfl) rfl (tgt rfl) rfl (by omega)) ?_|refine⟨_,op_neAgg tabOK goodOK rfl (ev_ok rfl) (ev_ok rfl) rfl rfl rfl rfl (q_same _ _) q_guard, ?_⟩|rw[t1.out]|rw[t2.out]|rw[tA]|rw[b1]|rw[b2]|rw[b3]|rw[b4]|rw[b5]|rw[b6]|rw[c1]|rw[c2]|rw[c5]|rw[c8]);conv=>whnf));(first|exact Recast.refl _|exact Frz.recast (Recast.refl _) rfl|(refine Frz.one rfl rfl ?_;skip)|(refine Frz.tup ?_;skip)))
 obtain⟨N,rfl⟩:=Int.eq_ofNat_of_zero_le (show 0≤n by omega)
 obtain⟨I,rfl⟩:=Int.eq_ofNat_of_zero_le (show 0≤i by omega)
 rw[Int.toNat_natCast]at C
 have ci0:(I:Int).toNat=I:=Int.toNat_natCast I
 have b1:decide ((N:Int)<0)=false:=decide_eq_false (by omega)
 have b2:decide ((N:Int)>2048)=false:=decide_eq_false (by omega)
 have b4:decide ((I:Int)≥(N:Int))=false:=decide_eq_false (by omega)
 have kZ:=v_Zero N (by omega)
 have kM:=v_MaxZ N (by omega)
 have kU:CallOK Tryz.prog 47 [.val (.int .i64 (N:Nat)),.val (.int .i64 (I:Nat))] [] (.tup [fvec (uv N I),.val (.int .i64 0)]) [] []:=v_Unit N I (by omega) (by omega)
 have hu:(uv N I).length=N:=uv_len N I
 have b7:(!decide ((uv N I).getD I 0=((1:Int):Rat)))=false:=by rw[uv_get (by omega),if_pos rfl];decide+kernel
 have b8:(((uv N I).length:Int) != (N:Int))=false:=by rw[hu];exact bne_self_eq_false _
 have b5:(((List.replicate N (0:Rat)).length:Int) != (N:Int))=false:=by rw[List.length_replicate];exact bne_self_eq_false _
 have b6:(!decide ((0:Rat)=0))=false:=by decide+kernel
 generalize uv N I=u at*
 generalize List.replicate N (0:Rat)=v at*
 rcases A with⟨tA,kA,kN⟩|⟨tA,kA,kN⟩<;>rcases C with⟨c2,kP,c3,c4,c5⟩|⟨z,c2,kP,c3,c4,c5,c6,c7,c8⟩<;>((repeat((first|refine step_w1 rfl rfl ?_|refine step_w2 rfl rfl ?_|refine step_i (by kernel_rfl) ?_|refine g_c (by assumption) ?_|refine g_o (op_pickT rfl (ev_ok rfl) (ev_ok rfl)) ?_|refine g_o (op_pickF rfl (ev_ok rfl) (ev_ok rfl)) ?_|rw[beq_self_eq_true]|rw[bne_self_eq_false]|refine g_o (op_lenM rfl rfl rfl (ev_ok rfl) (tgt rfl) rfl) ?_|refine g_o (op_indexN (α:=Rat) (d:=0) rfl (ev_ok rfl) (ev_ok rfl) (tgt rfl) rfl (tgt rfl) rfl (by omega)) ?_|refine g_o (op_loadA rfl (ev_ok rfl) (tgt rfl) rfl (Nat.succ_ne_zero _) rfl) ?_|refine g_o (op_indexM (α:=Rat) (d:=0) rfl (ev_ok rfl) (ev_ok rfl) (tgt rfl) rfl (tgt rfl) rfl (by omega)) ?_|refine⟨_,op_neAgg tabOK goodOK rfl (ev_ok rfl) (ev_ok rfl) rfl rfl rfl rfl (q_same _ _) q_guard, ?_⟩|rw[t1.out]|rw[t2.out]|rw[tA]|rw[b1]|rw[b2]|rw[b3]|rw[b4]|rw[b5]|rw[b6]|rw[b7]|rw[b8]|rw[c1]|rw[c2]|rw[c5]|rw[c8]);conv=>whnf));(first|exact Recast.refl _|exact Frz.recast (Recast.refl _) rfl|(refine Frz.one rfl rfl ?_;skip)|(refine Frz.tup ?_;skip)))
theorem law_VecsErrors (a0:Int×Int) (a1 a2:List (Int×Int)) (a3 a4:Int) (w0:((Lit.int .i64 a0.1).wf=true)∧((Lit.int .u32 a0.2).wf=true)) (w1:QWf a1) (w2:QWf a2):
  CallOK Tryz.prog 9 [qA a0,mvec 2 qA a1,mvec 2 qA a2,iel .i64 a3,iel .i64 a4] [] (.val (.bool true)) [] []:=
 c_Errors a0 a1 a2 a3 a4 (qOK_one w0) (qOK_of w1) (qOK_of w2)
end Go.Proofs.YtjofnbpcanhfhabGreatDoor
