/- The texts Qw. -/
import Derived.Test.YtbopchpncgdaaaaGreatDoorQsB9
namespace Go.Proofs.YtbopchpncgdaaaaGreatDoor
open Go.Sx
set_option linter.unusedSimpArgs false
set_option linter.unusedVariables false
set_option maxRecDepth 100000
set_option maxHeartbeats 40000000
theorem c_few14 (ms:List MM) (h:ms.length<1000) (hl:∀m∈ms,m.2.2.length≤maxLen):CallOK Tryz.prog 23 [mvec 3 mQ ms] [] (.val (.bool (ms.all fun m=>decide (m.2.2.length≤40)))) [] []:=by
 refine callV (Z:=[]) tabOK mixedOK Tryz.func23 rfl (by kernel_rfl) rfl rfl (by kernel_rfl) rfl ?_
 intro W0 w0 ρ0 hE
 conv=>whnf
 skip
 refine SW_loopN hE (fun k=>k) [0,3] [] (fun m fr hp=>∃i:Nat,m=ms.length - i∧i≤ms.length∧(∀j,j<i→decide ((ms.getD j nilQ).2.2.length≤40)=true)∧fr=[(0,mvec 3 mQ ms),(3,iv (i:Nat))]∧hp=[]) ms.length ?_ ?_ ?_
 ·kernel_rfl
 ·exact⟨0,rfl,Nat.zero_le _,(fun j hj=>by omega),rfl,rfl⟩
 rintro m _ _ ⟨i,rfl,hi,hs,rfl,rfl⟩
 conv=>whnf
 by_cases hlt:i<ms.length
 ·have t1:=dlt hlt
  have t2:=winc (i:=i) (by omega)
  by_cases hL:(ms.getD i nilQ).2.2.length≤40
  ·have t3:decide (((ms.getD i nilQ).2.2.length:Int)>40)=false:=decide_eq_false (by omega)
   (repeat((first|refine tst_tt t1 ?_|refine tst_ff t3 ?_|refine g_o (op_lenM rfl rfl rfl (ev_ok rfl) (tgt rfl) rfl) ?_|refine g_o (op_loadA rfl (ev_ok rfl) (tgt rfl) rfl (Nat.succ_ne_zero _) rfl) ?_|refine g_o (op_fieldA rfl (ev_ok rfl) (tgt rfl) rfl rfl (Nat.succ_ne_zero _) rfl) ?_|refine g_o (op_indexN (α:=MM) (d:=nilQ) rfl (ev_ok rfl) (ev_ok rfl) (tgt rfl) rfl (tgt rfl) rfl (by omega)) ?_|rw[t1]|rw[t3]|rw[t2]);conv=>whnf))
   refine⟨ms.length - (i+1),fun k=>k,[0,3],[],by omega,by kernel_rfl,i+1,rfl,hlt, ?_,rfl,rfl⟩
   intro j hj
   by_cases hji:j=i
   ·rw[hji];exact decide_eq_true hL
   ·exact hs j (by omega)
  ·have t3:decide (((ms.getD i nilQ).2.2.length:Int)>40)=true:=decide_eq_true (by omega)
   have e:(ms.all fun m=>decide (m.2.2.length≤40))=false:=all_no (d:=nilQ) hlt (decide_eq_false hL)
   rw[e]
   (repeat((first|refine tst_tt t1 ?_|refine tst_tt t3 ?_|refine g_o (op_lenM rfl rfl rfl (ev_ok rfl) (tgt rfl) rfl) ?_|refine g_o (op_loadA rfl (ev_ok rfl) (tgt rfl) rfl (Nat.succ_ne_zero _) rfl) ?_|refine g_o (op_fieldA rfl (ev_ok rfl) (tgt rfl) rfl rfl (Nat.succ_ne_zero _) rfl) ?_|refine g_o (op_indexN (α:=MM) (d:=nilQ) rfl (ev_ok rfl) (ev_ok rfl) (tgt rfl) rfl (tgt rfl) rfl (by omega)) ?_);conv=>whnf));(first|exact Recast.refl _|exact Frz.recast (Recast.refl _) rfl|(refine Frz.one rfl rfl ?_;skip)|(refine Frz.tup ?_;skip))
 ·have t1:=dge hlt
  obtain rfl:i=ms.length:=by omega
  have e:(ms.all fun m=>decide (m.2.2.length≤40))=true:=all_at nilQ hs
  rw[e]
  (repeat(first|(refine tst_ff t1 ?_;conv=>whnf)|(refine g_o (op_lenM rfl rfl rfl (ev_ok rfl) (tgt rfl) rfl) ?_;conv=>whnf)));(first|exact Recast.refl _|exact Frz.recast (Recast.refl _) rfl|(refine Frz.one rfl rfl ?_;skip)|(refine Frz.tup ?_;skip))
theorem c_vec14 (l:List (Int×Int)) (hl:l.length≤maxLen) (h:∀q∈l,qOK q) {n:Nat} (hn:n≤2048):CallOK Tryz.prog 59 [mvec 2 qA l,iv n] [] (fvec (someL l n)) [] []:=by
 have hz:=someL_len l n
 refine callF (Z:=[]) tabOK mixedOK Tryz.func59 rfl (by kernel_rfl) (by first|rfl|(simp[keylessL,keyless,keylessL_map, *];done)) (by first|rfl|(simp[keylessL,keyless,keylessL_map, *];done)) (by kernel_rfl) rfl ?_
 intro w0 ρ0 hE
 conv=>whnf
 (repeat(first|(refine step_oA (by first|omega|decide|(simp only[tl0,dlen,List.length_replicate,List.length_set,List.length_map,List.length_zipWith,List.length_take,List.length_append,List.length_cons,List.length_nil];omega)) ?_;conv=>whnf)|(rw[Int.toNat_natCast];conv=>whnf)))
 refine SW_loopN hE (fun k=>k) [0,1,5,6] [8] (fun m fr hp=>∃i:Nat,m=n - i∧i≤n∧fr=[(0,mvec 2 qA l),(1,iv n),(5,.slc 8 5 0 n),(6,iv (i:Nat))]∧hp=[(8,fblk ((someL l n).take i++List.replicate (n - i) 0))]) n ?_ ?_ ?_
 ·kernel_rfl
 ·exact⟨0,rfl,Nat.zero_le _,rfl,rfl⟩
 rintro m _ _ ⟨i,rfl,hi,rfl,rfl⟩
 have hlen:=fill_len (d:=(0:Rat)) hi hz
 conv=>whnf
 by_cases hlt:i<n
 ·have t1:=dlt hlt
  have t2:=winc (i:=i) (by omega)
  by_cases hil:i<l.length
  ·have t3:=dlt hil
   have o1:=c_QOf (l.getD i (0,0)) (qOK_at h i)
   rw[show qV (l.getD i (0,0))=(someL l n).getD i 0 from(someL_get hlt).symm]at o1
   (repeat((first|refine step_oL (by first|omega|decide|(simp only[tl0,dlen,List.length_replicate,List.length_set,List.length_map,List.length_zipWith,List.length_take,List.length_append,List.length_cons,List.length_nil];omega)) ?_|refine step_oA (by first|omega|decide|(simp only[tl0,dlen,List.length_replicate,List.length_set,List.length_map,List.length_zipWith,List.length_take,List.length_append,List.length_cons,List.length_nil];omega)) ?_|refine g_c (by assumption) ?_|refine g_o (op_pickT rfl (ev_ok rfl) (ev_ok rfl)) ?_|refine tst_tt t1 ?_|refine tst_tt t3 ?_|refine g_o (op_lenM rfl rfl rfl (ev_ok rfl) (tgt rfl) rfl) ?_|refine g_o (op_loadA rfl (ev_ok rfl) (tgt rfl) rfl (Nat.succ_ne_zero _) rfl) ?_|refine g_o (op_indexN (α:=Int×Int) (d:=(0,0)) rfl (ev_ok rfl) (ev_ok rfl) (tgt rfl) rfl (tgt rfl) rfl (by omega)) ?_|rw[t1]|rw[t3]|rw[t2]|rw[Int.toNat_natCast]|rw[Nat.zero_add]);conv=>whnf))
   refine⟨n - (i+1),fun k=>k,[0,1,5,6],[8],by omega,by kernel_rfl,i+1,rfl,hlt,rfl, ?_⟩
   rw[fblk,←fill_set (e:=0) hlt hz]
   rfl
  ·have t3:=dge hil
   rw[←someL_zero (by omega)]at*
   (repeat((first|refine g_o (op_pickT rfl (ev_ok rfl) (ev_ok rfl)) ?_|refine tst_tt t1 ?_|refine tst_ff t3 ?_|refine g_o (op_lenM rfl rfl rfl (ev_ok rfl) (tgt rfl) rfl) ?_|rw[t1]);conv=>whnf))
   (first|exact Recast.refl _|exact Frz.recast (Recast.refl _) rfl|(refine Frz.one rfl rfl ?_;(repeat(first|(refine FrzC.fracs rfl ?_;(first|rfl|omega|(simp<;>fail)|(simp<;>omega))))))|(refine Frz.tup ?_;skip))
 ·have t1:=dge hlt
  obtain rfl:i=n:=by omega
  rw[fill_all hz]at*
  (repeat((first|refine step_w2 rfl rfl ?_|refine g_o (op_pickF rfl (ev_ok rfl) (ev_ok rfl)) ?_|refine tst_ff t1 ?_|rw[t1]);conv=>whnf))
  (first|exact Recast.refl _|exact Frz.recast (Recast.refl _) rfl|(refine Frz.one rfl rfl ?_;(repeat(first|(refine FrzC.fracs rfl ?_;(first|rfl|omega|(simp<;>fail)|(simp<;>omega))))))|(refine Frz.tup ?_;skip))
theorem c_same14 (l m:List Int) (hl:l.length<1099511627776) (hm:m.length<1099511627776):CallOK Tryz.prog 30 [ivec .i64 l,ivec .i64 m] [] (.val (.bool (decide (l=m)))) [] []:=by
 by_cases hlen:l.length=m.length
 ·have t1:((l.length:Int) != (m.length:Int))=false:=by rw[hlen];exact bne_self_eq_false _
  refine callV (Z:=[]) tabOK mixedOK Tryz.func30 rfl (by kernel_rfl) rfl rfl (by kernel_rfl) rfl ?_
  intro W0 w0 ρ0 hE
  conv=>whnf
  (repeat(first|(refine tst_ff t1 ?_;conv=>whnf)|(refine g_o (op_lenM rfl rfl rfl (ev_ok rfl) (tgt rfl) rfl) ?_;conv=>whnf)|(rw[t1];conv=>whnf)))
  refine SW_loopN hE (fun k=>k) [0,1,5] [] (fun M fr hp=>∃i:Nat,M=l.length - i∧i≤l.length∧(∀j,j<i→l.getD j 0=m.getD j 0)∧fr=[(0,ivec .i64 l),(1,ivec .i64 m),(5,iv (i:Nat))]∧hp=[]) l.length ?_ ?_ ?_
  ·kernel_rfl
  ·exact⟨0,rfl,Nat.zero_le _,(fun j hj=>absurd hj (Nat.not_lt_zero j)),rfl,rfl⟩
  rintro M _ _ ⟨i,rfl,hi,hs,rfl,rfl⟩
  conv=>whnf
  by_cases hlt:i<l.length
  ·have t2:=dlt hlt
   have t3:=winc (i:=i) (by omega)
   have hlm:i<m.length:=by omega
   by_cases he:l.getD i 0=m.getD i 0
   ·have t4:(l.getD i 0 != m.getD i 0)=false:=by rw[he];exact bne_self_eq_false _
    (repeat((first|refine step_i (by kernel_rfl) ?_|refine tst_tt t2 ?_|refine tst_ff t4 ?_|refine g_o (op_lenM rfl rfl rfl (ev_ok rfl) (tgt rfl) rfl) ?_|refine g_o (op_loadA rfl (ev_ok rfl) (tgt rfl) rfl (Nat.succ_ne_zero _) rfl) ?_|refine g_o (op_indexN (α:=Int) (d:=0) rfl (ev_ok rfl) (ev_ok rfl) (tgt rfl) rfl (tgt rfl) rfl (by omega)) ?_|rw[t2]|rw[t3]|rw[t4]);conv=>whnf))
    refine⟨l.length - (i+1),fun k=>k,[0,1,5],[],by omega,by kernel_rfl,i+1,rfl,hlt, ?_,rfl,rfl⟩
    intro j hj
    by_cases hji:j=i
    ·rw[hji];exact he
    ·exact hs j (by omega)
   ·have t4:(l.getD i 0 != m.getD i 0)=true:=bne_iff_ne.2 he
    rw[decide_eq_false fun e:l=m=>he (by rw[e])]
    (repeat((first|refine step_i (by kernel_rfl) ?_|refine tst_tt t2 ?_|refine tst_tt t4 ?_|refine g_o (op_lenM rfl rfl rfl (ev_ok rfl) (tgt rfl) rfl) ?_|refine g_o (op_loadA rfl (ev_ok rfl) (tgt rfl) rfl (Nat.succ_ne_zero _) rfl) ?_|refine g_o (op_indexN (α:=Int) (d:=0) rfl (ev_ok rfl) (ev_ok rfl) (tgt rfl) rfl (tgt rfl) rfl (by omega)) ?_);conv=>whnf));(first|exact Recast.refl _|exact Frz.recast (Recast.refl _) rfl|(refine Frz.one rfl rfl ?_;skip)|(refine Frz.tup ?_;skip))
  ·have t2:=dge hlt
   obtain rfl:i=l.length:=by omega
   have e:l=m:=List.ext_getElem hlen fun j h1 h2=>by
    have:=hs j h1
    rwa [List.getD_eq_getElem?_getD,List.getD_eq_getElem?_getD,List.getElem?_eq_getElem h1,List.getElem?_eq_getElem h2]at this
   rw[decide_eq_true e]
   (repeat(first|(refine tst_ff t2 ?_;conv=>whnf)|(refine g_o (op_lenM rfl rfl rfl (ev_ok rfl) (tgt rfl) rfl) ?_;conv=>whnf)));(first|exact Recast.refl _|exact Frz.recast (Recast.refl _) rfl|(refine Frz.one rfl rfl ?_;skip)|(refine Frz.tup ?_;skip))
 ·have t1:((l.length:Int) != (m.length:Int))=true:=bne_iff_ne.2 (by omega)
  rw[decide_eq_false fun e:l=m=>hlen (by rw[e])]
  refine callV (Z:=[]) tabOK mixedOK Tryz.func30 rfl (by kernel_rfl) rfl rfl (by kernel_rfl) rfl ?_
  intro W0 w0 ρ0 hE
  conv=>whnf
  (repeat(first|(refine tst_tt t1 ?_;conv=>whnf)|(refine g_o (op_lenM rfl rfl rfl (ev_ok rfl) (tgt rfl) rfl) ?_;conv=>whnf)));(first|exact Recast.refl _|exact Frz.recast (Recast.refl _) rfl|(refine Frz.one rfl rfl ?_;skip)|(refine Frz.tup ?_;skip))
abbrev X6:List Rat:=ofInts [1,2,3,2,4,7]
abbrev F4:List Rat:=ofInts [1,2,2,4]
abbrev P4:List Rat:=ofInts [1,2,3,4]
abbrev B2:List Rat:=ofInts [1,3]
theorem l_works14:CallOK Tryz.prog 14 [] [] (.val (.bool true)) [] []:=by
 have h6:OKM 2 3 X6:=⟨by decide,by decide,rfl⟩
 have s6:Sm 20 X6:=by unfold Sm;decide+kernel
 have hf:OKM 2 2 F4:=⟨by decide,by decide,rfl⟩
 have sf:Sm 20 F4:=by unfold Sm;decide+kernel
 have h4:OKM 2 2 P4:=⟨by decide,by decide,rfl⟩
 have s4:Sm 20 P4:=by unfold Sm;decide+kernel
 have sb:Sm 20 B2:=by unfold Sm;decide+kernel
 have o1:=m_Of 2 3 [1,2,3,2,4,7] (by decide) (by decide) rfl (by decide)
 have o2:=e_ReduceS (A:=20) h6 (by decide) (by decide) s6 (by decide) (by decide)
 have o3:=e_KernelS (A:=20) h6 (by decide) (by decide) s6 (by decide) (by decide)
 rw[show RL 2 3 X6=[1,2,0,0,0,1]from by decide+kernel,show(pivL 2 3 X6).map ofN=[0,2]from by decide+kernel]at o2
 rw[show KL 2 3 X6=[[-2,1,0]]from by decide+kernel]at o3
 have v1:=v_Of [1,3] (by decide) (by decide)
 have o4:=e_SolveOK (A:=20) (b:=B2) h6 rfl (by decide) (by decide) s6 sb (by decide) (by decide) (s:=redS 2 3 (augB 3 X6 B2)) rfl (fun i h1 h2=>by
  have:(redS 2 3 (augB 3 X6 B2)).piv.length=2:=by decide+kernel
  omega)
 rw[show xS (rowsM (3+1) (redS 2 3 (augB 3 X6 B2)).w) (redS 2 3 (augB 3 X6 B2)).piv 3 3 (redS 2 3 (augB 3 X6 B2)).piv.length=[-2,0,1]from by decide+kernel,
  show(freeF (redS 2 3 (augB 3 X6 B2)).piv 3).map (kvL (rowsM (3+1) (redS 2 3 (augB 3 X6 B2)).w) (redS 2 3 (augB 3 X6 B2)).piv 3)=[[-2,1,0]]from by decide+kernel]at o4
 have o5:=m_Of 2 2 [1,2,2,4] (by decide) (by decide) rfl (by decide)
 have p1:(redS 2 2 (augB 2 F4 B2)).piv.length=1:=by decide+kernel
 have o6:=e_SolveNo (A:=20) (b:=B2) hf rfl (by decide) (by decide) sf sb (by decide) (by decide) (s:=redS 2 2 (augB 2 F4 B2)) rfl (j:=1) (by omega) (by decide) (by decide+kernel) (fun i h1 h2=>by omega)
 have p2:(redS 2 2 (augC 2 F4 B2)).piv.length=1:=by decide+kernel
 have o7:=e_AgainstOK (A:=20) (b:=B2) hf rfl (by decide) (by decide) sf sb (by decide) (by decide) (s:=redS 2 2 (augC 2 F4 B2)) rfl (j:=1) (by omega) (by decide) (by decide+kernel) (fun i h1 h2=>by omega)
 have lY:((List.range 2).map fun k=>(redS 2 2 (augC 2 F4 B2)).w 1 (2+1+k)/(redS 2 2 (augC 2 F4 B2)).w 1 2).length=2:=by simp
 generalize ((List.range 2).map fun k=>(redS 2 2 (augC 2 F4 B2)).w 1 (2+1+k)/(redS 2 2 (augC 2 F4 B2)).w 1 2)=Y at*
 have o8:=m_Of 2 2 [1,2,3,4] (by decide) (by decide) rfl (by decide)
 have o9:=e_DetW (A:=20) h4 (by decide) s4 (by decide) (by decide)
 rw[show det 2 (el P4 2)= -2 from by decide+kernel]at o9
 have p3:(redS 2 2 (augI 2 P4)).piv.length=2:=by decide+kernel
 have o10:=e_InverseOK (A:=20) h4 (by decide) s4 (by decide) (by decide) (s:=redS 2 2 (augI 2 P4)) rfl p3
 rw[show invL 2 (redS 2 2 (augI 2 P4))=[-2,1,3/2, -1/2]from by decide+kernel]at o10
 have o11:=e_Minor (A:=20) (n:=1) h4 (by decide) (by decide) (by decide) s4 (by decide) (by decide)
 rw[show det 1 (el P4 2)=1 from by decide+kernel]at o11
 have t1:=m_Text (r:=2) (c:=3) (B:=20) (a:=[1,2,0,0,0,1]) ⟨by decide,by decide,rfl⟩ (by unfold Sm;decide+kernel) (by decide)
 have t2:=t_VecG [-2,1,0] 20 (by decide) (by decide+kernel) (by decide)
 have t3:=t_VecG [-2,0,1] 20 (by decide) (by decide+kernel) (by decide)
 have t4:=m_Text (r:=2) (c:=2) (B:=20) (a:=[-2,1,3/2, -1/2]) ⟨by decide,by decide,rfl⟩ (by unfold Sm;decide+kernel) (by decide)
 have o12:=c_same14 [0,2] [0,2] (by decide) (by decide)
 rw[decide_eq_true rfl]at o12
 have f1:CallOK Tryz.prog 41 [iv (-2)] [] (.frac (-2)) [] []:=c_fInt (-2) (by decide) (by decide)
 have f2:CallOK Tryz.prog 41 [iv 1] [] (.frac 1) [] []:=c_fInt 1 (by decide) (by decide)
 have q1:(!(tM 2 3 [1,2,0,0,0,1]).toList==(ByteArray.mk #[91,49,32,50,32,48,93,32,91,48,32,48,32,49,93]).toList)=false:=by decide+kernel
 have q2:(!(tV [-2,1,0]).toList==(ByteArray.mk #[91,45,50,32,49,32,48,93]).toList)=false:=by decide+kernel
 have q3:(!(tV [-2,0,1]).toList==(ByteArray.mk #[91,45,50,32,48,32,49,93]).toList)=false:=by decide+kernel
 have q4:((tM 2 2 [-2,1,3/2, -1/2]).toList==(ByteArray.mk #[91,45,50,32,49,93,32,91,51,47,50,32,45,49,47,50,93]).toList)=true:=by decide+kernel
 have q5:decide ((-2:Rat)= -2)=true:=decide_eq_true rfl
 have q6:decide ((1:Rat)=1)=true:=decide_eq_true rfl
 have lY2:((Y.length:Int)==2)=true:=by rw[lY];rfl
 clear p1 p2 p3
 refine callV (Z:=[25,42,56,93,99,106,112]) tabOK mixedOK Tryz.func14 rfl (by kernel_rfl) rfl rfl (by kernel_rfl) rfl ?_
 intro W0 w0 ρ0 hE
 conv=>whnf
 (repeat((first|refine step_w1 rfl rfl ?_|refine step_w2 rfl rfl ?_|refine step_i (by kernel_rfl) ?_|refine g_c (by assumption) ?_|refine g_o (op_pickT rfl (ev_ok rfl) (ev_ok rfl)) ?_|refine g_o (op_pickF rfl (ev_ok rfl) (ev_ok rfl)) ?_|rw[beq_self_eq_true]|rw[bne_self_eq_false]|refine tst_tt q4 ?_|refine tst_tt lY2 ?_|refine g_o (op_lenM rfl rfl rfl (ev_ok rfl) (tgt rfl) rfl) ?_|refine g_o (op_loadA rfl (ev_ok rfl) (tgt rfl) rfl (Nat.succ_ne_zero _) rfl) ?_|refine g_o (op_indexA rfl (ev_ok rfl) (ev_ok rfl) (tgt rfl) rfl (tgt rfl) rfl (by omega) (by first|decide|(simp;done)|omega) rfl) ?_|refine⟨_,op_eqAgg tabOK goodOK rfl (ev_ok rfl) (ev_ok rfl) rfl rfl rfl rfl (q_same _ _) q_guard, ?_⟩|rw[q1]|rw[q2]|rw[q3]|rw[q4]|rw[q6]|rw[lY2]);conv=>whnf));(first|exact Recast.refl _|exact Frz.recast (Recast.refl _) rfl|(refine Frz.one rfl rfl ?_;skip)|(refine Frz.tup ?_;skip))
end Go.Proofs.YtbopchpncgdaaaaGreatDoor
