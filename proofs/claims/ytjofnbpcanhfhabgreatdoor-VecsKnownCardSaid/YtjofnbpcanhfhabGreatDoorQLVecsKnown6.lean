/- The texts He. -/
import Derived.Test.YtjofnbpcanhfhabGreatDoorQLVecsKnown5
namespace Go.Proofs.YtjofnbpcanhfhabGreatDoor
open Go.Sx
set_option linter.unusedSimpArgs false
set_option linter.unusedVariables false
set_option maxRecDepth 100000
set_option maxHeartbeats 8000000
def minors (x y:List Rat) (i k:Nat):Bool:=decide (x.getD i 0*y.getD k 0=x.getD k 0*y.getD i 0)
def rows (x y:List Rat) (n:Nat):Bool:=allN n (fun i=>allN i (minors x y i))
def zeros (x:List Rat) (n:Nat):Bool:=allN n (fun i=>(x.getD i 0).num.sign==0)
theorem sign_zero (q:Rat):q.num.sign=0↔q=0:=by
 rw[Int.sign_eq_zero_iff_zero]
 exact Rat.num_eq_zero
theorem cauchy {x y:List Rat} {n:Nat} (hx:x.length=n) (hy:y.length=n):vdot x x*vdot y y - vdot x y*vdot x y=lag (fun i=>x.getD i 0) (fun i=>y.getD i 0) n:=by
 rw[vdot_sum hx hx,vdot_sum hy hy,vdot_sum hx hy]
 exact lagrange (fun i=>x.getD i 0) (fun i=>y.getD i 0) n
theorem cauchy_le {x y:List Rat} {n:Nat} (hx:x.length=n) (hy:y.length=n):decide ((vdot x y*vdot x y - vdot x x*vdot y y).num.sign>0)=false:=by
 have h1:=cauchy hx hy
 have h2:=lag_nonneg (fun i=>x.getD i 0) (fun i=>y.getD i 0) n
 have h3:vdot x y*vdot x y - vdot x x*vdot y y≤0:=by grind
 have h4:(vdot x y*vdot x y - vdot x x*vdot y y).num≤0:=by
  have:=Rat.num_nonneg (q:= -(vdot x y*vdot x y - vdot x x*vdot y y))
  rw[Rat.neg_num]at this
  have:=this.2 (by grind)
  omega
 refine decide_eq_false fun h=> ?_
 have:=Int.sign_eq_one_iff_pos (a:=(vdot x y*vdot x y - vdot x x*vdot y y).num)
 rcases Int.lt_trichotomy (vdot x y*vdot x y - vdot x x*vdot y y).num 0 with g|g|g
 ·rw[Int.sign_eq_neg_one_of_neg g]at h;omega
 ·rw[g,Int.sign_zero]at h;omega
 ·omega
theorem cauchy_eq {x y:List Rat} {n:Nat} (hx:x.length=n) (hy:y.length=n):decide (vdot x y*vdot x y=vdot x x*vdot y y)=rows x y n:=by
 have h1:=cauchy hx hy
 have h2:=lag_zero (fun i=>x.getD i 0) (fun i=>y.getD i 0) n
 rw[Bool.eq_iff_iff,decide_eq_true_iff,rows,allN_iff]
 constructor
 ·intro h i hi
  rw[allN_iff]
  intro k hk
  exact decide_eq_true (h2.1 (by grind) i hi k hk)
 ·intro h
  have:=h2.2 (fun i hi k hk=>of_decide_eq_true (allN_iff.1 (h i hi) k hk))
  grind
theorem rows_scale {x y:List Rat} {c:Rat} {n:Nat} (h:∀i,i<n→y.getD i 0=c*x.getD i 0):rows x y n=true:=by
 rw[rows,allN_iff]
 intro i hi
 rw[allN_iff]
 intro k hk
 rw[minors,h i hi,h k (by omega)]
 exact decide_eq_true (by grind)
theorem self_pos {x:List Rat} {n:Nat} (hx:x.length=n):decide ((vdot x x).num.sign≥0)=true:=by
 have h:0≤vdot x x:=by rw[vdot_sum hx hx];exact sum_nonneg (f:=fun i=>x.getD i 0*x.getD i 0) (fun i=>sq_nonneg _) n
 have h2:=Rat.num_nonneg.2 h
 refine decide_eq_true ?_
 rcases Int.lt_trichotomy (vdot x x).num 0 with g|g|g
 ·omega
 ·rw[g];decide
 ·rw[Int.sign_eq_one_of_pos g];decide
theorem self_zero {x:List Rat} {n:Nat} (hx:x.length=n):((vdot x x).num.sign==0)=zeros x n:=by
 have e:=vdot_sum hx hx
 rw[Bool.eq_iff_iff,beq_iff_eq,sign_zero,zeros,allN_iff,e]
 constructor
 ·intro h i hi
  rw[beq_iff_eq,sign_zero]
  exact sq_zero (sum_zero (f:=fun i=>x.getD i 0*x.getD i 0) (fun i=>sq_nonneg _) n h i hi)
 ·intro h
  rw[sum_congr n (g:=fun _=>0) (fun k hk=>by
   have:=(sign_zero _).1 (beq_iff_eq.1 (h k hk))
   show x.getD k 0*x.getD k 0=0
   rw[this];grind),sum_const_zero]
theorem c_Cauchy_false (la lb:List (Int×Int)) (c:Int×Int) (hoa:∀q∈la,qOK q) (hob:∀q∈lb,qOK q) (hc:qOK c):
  CallOK Tryz.prog 6 [mvec 2 qA la,mvec 2 qA lb,qA c,.val (.bool false)] [] (.val (.bool true)) [] []:=by
 have kw:=l_works
 refine callV (Z:=[6]) tabOK mixedOK Tryz.func6 rfl (by kernel_rfl) rfl rfl (by kernel_rfl) rfl ?_
 intro W0 w0 ρ0 hE
 conv=>whnf
 by_cases h1:la.length>12
 ·have t1:Hid (decide ((la.length:Int)>12)=true):=show decide ((la.length:Int)>12)=true from decide_eq_true (by omega)
  (repeat((first|refine step_w1 rfl rfl ?_|refine step_w2 rfl rfl ?_|refine g_c (by assumption) ?_|refine g_o (op_pickT rfl (ev_ok rfl) (ev_ok rfl)) ?_|refine g_o (op_lenM rfl rfl rfl (ev_ok rfl) (tgt rfl) rfl) ?_|rw[t1.out]);conv=>whnf));(first|exact Recast.refl _|exact Frz.recast (Recast.refl _) rfl|(refine Frz.one rfl rfl ?_;skip)|(refine Frz.tup ?_;skip))
 have t1:Hid (decide ((la.length:Int)>12)=false):=show decide ((la.length:Int)>12)=false from decide_eq_false (by omega)
 by_cases h2:lb.length>12
 ·have t2:Hid (decide ((lb.length:Int)>12)=true):=show decide ((lb.length:Int)>12)=true from decide_eq_true (by omega)
  (repeat((first|refine step_w1 rfl rfl ?_|refine g_c (by assumption) ?_|refine g_o (op_pickF rfl (ev_ok rfl) (ev_ok rfl)) ?_|refine g_o (op_lenM rfl rfl rfl (ev_ok rfl) (tgt rfl) rfl) ?_|rw[t1.out]|rw[t2.out]);conv=>whnf));(first|exact Recast.refl _|exact Frz.recast (Recast.refl _) rfl|(refine Frz.one rfl rfl ?_;skip)|(refine Frz.tup ?_;skip))
 have t2:Hid (decide ((lb.length:Int)>12)=false):=show decide ((lb.length:Int)>12)=false from decide_eq_false (by omega)
 have kc:=l_cut la lb (by omega) (by omega)
 generalize hn:min la.length lb.length=n at kc
 have hn12:n≤12:=by omega
 have hxl:((la.take n).map qV).length=n:=by rw[List.length_map,List.length_take];omega
 have hyl:((lb.take n).map qV).length=n:=by rw[List.length_map,List.length_take];omega
 have k1:=c_V (la.take n) (by rw[List.length_take];omega) (fun q hq=>hoa q (List.mem_of_mem_take hq))
 have k2:=c_V (lb.take n) (by rw[List.length_take];omega) (fun q hq=>hob q (List.mem_of_mem_take hq))
 have sx:=Sm_V (l:=la.take n) (fun q hq=>hoa q (List.mem_of_mem_take hq))
 have sy0:=Sm_V (l:=lb.take n) (fun q hq=>hob q (List.mem_of_mem_take hq))
 generalize (la.take n).map qV=xs at*
 generalize (lb.take n).map qV=ys at*
 have sy:Sm 260 ys:=fun i hi=>Nat.le_trans (sy0 i hi) (by omega)
 have k5:=s_dot sx sx hxl hxl (by omega) (by omega)
 have k6:=s_dot sy sy hyl hyl (by omega) (by omega)
 have k7:=s_dot sx sy hxl hyl (by omega) (by omega)
 have b5:=fs_vdot sx sx hxl hxl
 have b6:=fs_vdot sy sy hyl hyl
 have b7:=fs_vdot sx sy hxl hyl
 have q1:=cauchy_le hxl hyl
 have q2:=cauchy_eq hxl hyl
 have q3:=self_pos hxl
 have q4:=self_zero hxl
 generalize vdot xs xs=xx at*
 generalize vdot ys ys=yy at*
 generalize vdot xs ys=xy at*
 have m1:=fs_mul xy xy
 have m2:=fs_mul xx yy
 have k8:=f_Mul xy xy (by omega)
 have k9:=f_Mul xx yy (by omega)
 have k10:=f_Cmp (xy*xy) (xx*yy) (by omega)
 have k11:=c_fSign xx
 have t3:Hid (((ys.length:Int) != (xs.length:Int))=false):=show((ys.length:Int) != (xs.length:Int))=false from by rw[hxl,hyl];exact bne_self_eq_false _
 (repeat((first|refine step_w1 rfl rfl ?_|refine step_w2 rfl rfl ?_|refine g_c (by assumption) ?_|refine g_o (op_pickF rfl (ev_ok rfl) (ev_ok rfl)) ?_|refine g_o (op_lenM rfl rfl rfl (ev_ok rfl) (tgt rfl) rfl) ?_|rw[t1.out]|rw[t2.out]|rw[t3.out]);conv=>whnf))
 refine SW_loopN hE (fun k=>k) [3,9,10,11,12,13,14,15] [11,12,13] (fun m fr hp=>∃i al,m=n - i∧i≤n∧al=rows xs ys i∧fr=[(3,.val (.bool false)),(9,fvec xs),(10,fvec ys),(11,.ptr 11 0 0 0),(12,.ptr 12 0 0 0),(13,.ptr 13 0 0 0),(14,.val (.bool al)),(15,.val (.int .i64 (i:Nat)))]∧
  hp=[(11,⟨44,true,.one [.frac xx]⟩),(12,⟨44,true,.one [.frac yy]⟩),(13,⟨44,true,.one [.frac xy]⟩)]) n ?_ ?_ ?_
 ·kernel_rfl
 ·exact⟨0,true,rfl,Nat.zero_le _,rfl,rfl,rfl⟩
 rintro m _ _ ⟨i,al,rfl,hi,hal,rfl,rfl⟩
 conv=>whnf
 by_cases hlt:i<n
 ·have t4:decide ((i:Int)<(xs.length:Int))=true:=decide_eq_true (by omega)
  (repeat(first|(refine step_w1 rfl rfl ?_;conv=>whnf)|(refine g_o (op_lenM rfl rfl rfl (ev_ok rfl) (tgt rfl) rfl) ?_;conv=>whnf)|(rw[t4];conv=>whnf)))
  refine SW_loopN hE (fun k=>k) [3,9,10,11,12,13,14,15,16] [11,12,13] (fun m fr hp=>∃k al,m=i - k∧k≤i∧al=(rows xs ys i&&allN k (minors xs ys i))∧fr=[(3,.val (.bool false)),(9,fvec xs),(10,fvec ys),(11,.ptr 11 0 0 0),(12,.ptr 12 0 0 0),(13,.ptr 13 0 0 0),(14,.val (.bool al)),(15,.val (.int .i64 (i:Nat))),(16,.val (.int .i64 (k:Nat)))]∧
   hp=[(11,⟨44,true,.one [.frac xx]⟩),(12,⟨44,true,.one [.frac yy]⟩),(13,⟨44,true,.one [.frac xy]⟩)]) i ?_ ?_ ?_
  ·kernel_rfl
  ·exact⟨0,al,rfl,Nat.zero_le _,by rw[hal,allN,Bool.and_true],rfl,rfl⟩
  rintro m _ _ ⟨k,ak,rfl,hk,hak,rfl,rfl⟩
  conv=>whnf
  by_cases hkt:k<i
  ·have t5:decide ((k:Int)<(i:Int))=true:=decide_eq_true (by omega)
   have t6:=winc (i:=k) (by omega)
   have z1:=sx i (by omega)
   have z2:=sx k (by omega)
   have z3:=sy i (by omega)
   have z4:=sy k (by omega)
   have k12:=f_Mul (xs.getD i 0) (ys.getD k 0) (by omega)
   have k13:=f_Mul (xs.getD k 0) (ys.getD i 0) (by omega)
   have hstep:∀b,b=(ak&&minors xs ys i k)→b=(rows xs ys i&&allN (k+1) (minors xs ys i)):=by
    intro b hb
    rw[hb,hak,allN,Bool.and_assoc]
   clear hak
   cases ak with
   |true=>
    (repeat((first|refine step_w1 rfl rfl ?_|refine step_i (by kernel_rfl) ?_|refine g_c (by assumption) ?_|refine g_o (op_pickT rfl (ev_ok rfl) (ev_ok rfl)) ?_|refine g_o (op_indexN (α:=Rat) (d:=0) rfl (ev_ok rfl) (ev_ok rfl) (tgt rfl) rfl (tgt rfl) rfl (by omega)) ?_|refine g_o (op_loadA rfl (ev_ok rfl) (tgt rfl) rfl (Nat.succ_ne_zero _) rfl) ?_|refine⟨_,op_eqAgg tabOK goodOK rfl (ev_ok rfl) (ev_ok rfl) rfl rfl rfl rfl (q_same _ _) q_guard, ?_⟩|rw[t5]|rw[t6]);conv=>whnf))
    exact⟨i - (k+1),fun k=>k,[3,9,10,11,12,13,14,15,16],[11,12,13],by omega,by kernel_rfl,k+1,_,rfl,hkt,hstep _ rfl,rfl,rfl⟩
   |false=>
    (repeat((first|refine step_w1 rfl rfl ?_|refine step_w2 rfl rfl ?_|refine step_i (by kernel_rfl) ?_|refine g_o (op_pickF rfl (ev_ok rfl) (ev_ok rfl)) ?_|rw[t5]|rw[t6]);conv=>whnf))
    exact⟨i - (k+1),fun k=>k,[3,9,10,11,12,13,14,15,16],[11,12,13],by omega,by kernel_rfl,k+1,_,rfl,hkt,hstep _ rfl,rfl,rfl⟩
  ·have hK:k=i:=by omega
   subst hK
   have t5:decide ((k:Int)<(k:Int))=false:=decide_eq_false (by omega)
   have t6:=winc (i:=k) (by omega)
   (repeat(first|(refine step_w2 rfl rfl ?_;conv=>whnf)|(rw[t5];conv=>whnf)|(rw[t6];conv=>whnf)))
   exact⟨n - (k+1),fun k=>k,[3,9,10,11,12,13,14,15],[11,12,13],by omega,by kernel_rfl,k+1,ak,rfl,hlt,hak,rfl,rfl⟩
 have hI:i=n:=by omega
 subst hI
 have t4:decide ((i:Int)<(xs.length:Int))=false:=decide_eq_false (by omega)
 rw[←q2]at hal
 have t7:decide ((xy*xy - xx*yy).num.sign>0)=false:=q1
 have t8:(decide (xy*xy=xx*yy) != al)=false:=by rw[hal];exact bne_self_eq_false _
 (repeat((first|refine step_w1 rfl rfl ?_|refine step_w2 rfl rfl ?_|refine step_i (by kernel_rfl) ?_|refine g_c (by assumption) ?_|refine g_o (op_pickF rfl (ev_ok rfl) (ev_ok rfl)) ?_|refine g_o (op_lenM rfl rfl rfl (ev_ok rfl) (tgt rfl) rfl) ?_|refine⟨_,op_eqAgg tabOK goodOK rfl (ev_ok rfl) (ev_ok rfl) rfl rfl rfl rfl (q_same _ _) q_guard, ?_⟩|rw[t4]|rw[t7]|rw[t8]);conv=>whnf))
 refine SW_loopN hE (fun k=>k) [9,11,19,20] [11] (fun m fr hp=>∃k al,m=i - k∧k≤i∧al=zeros xs k∧fr=[(9,fvec xs),(11,.ptr 11 0 0 0),(19,.val (.bool al)),(20,.val (.int .i64 (k:Nat)))]∧
  hp=[(11,⟨44,true,.one [.frac xx]⟩)]) i ?_ ?_ ?_
 ·kernel_rfl
 ·exact⟨0,true,rfl,Nat.zero_le _,rfl,rfl,rfl⟩
 rintro m _ _ ⟨k,ak,rfl,hk,hak,rfl,rfl⟩
 conv=>whnf
 by_cases hkt:k<i
 ·have t5:decide ((k:Int)<(xs.length:Int))=true:=decide_eq_true (by omega)
  have t6:=winc (i:=k) (by omega)
  have k12:=c_fSign (xs.getD k 0)
  have hstep:∀b,b=(ak&&((xs.getD k 0).num.sign==0))→b=zeros xs (k+1):=by
   intro b hb
   rw[hb,hak];rfl
  clear hak
  cases ak with
  |true=>
   (repeat((first|refine step_w1 rfl rfl ?_|refine g_c (by assumption) ?_|refine g_o (op_pickT rfl (ev_ok rfl) (ev_ok rfl)) ?_|refine g_o (op_lenM rfl rfl rfl (ev_ok rfl) (tgt rfl) rfl) ?_|refine g_o (op_indexN (α:=Rat) (d:=0) rfl (ev_ok rfl) (ev_ok rfl) (tgt rfl) rfl (tgt rfl) rfl (by omega)) ?_|refine g_o (op_loadA rfl (ev_ok rfl) (tgt rfl) rfl (Nat.succ_ne_zero _) rfl) ?_|rw[t5]|rw[t6]);conv=>whnf))
   exact⟨i - (k+1),fun k=>k,[9,11,19,20],[11],by omega,by kernel_rfl,k+1,_,rfl,hkt,hstep _ rfl,rfl,rfl⟩
  |false=>
   (repeat((first|refine step_w1 rfl rfl ?_|refine step_w2 rfl rfl ?_|refine g_o (op_pickF rfl (ev_ok rfl) (ev_ok rfl)) ?_|refine g_o (op_lenM rfl rfl rfl (ev_ok rfl) (tgt rfl) rfl) ?_|rw[t5]|rw[t6]);conv=>whnf))
   exact⟨i - (k+1),fun k=>k,[9,11,19,20],[11],by omega,by kernel_rfl,k+1,_,rfl,hkt,hstep _ rfl,rfl,rfl⟩
 have hK:k=i:=by omega
 subst hK
 have t5:decide ((k:Int)<(xs.length:Int))=false:=decide_eq_false (by omega)
 rw[←q4]at hak
 have t9:((xx.num.sign==0)==ak)=true:=by rw[hak];exact beq_self_eq_true _
 (repeat((first|refine step_w1 rfl rfl ?_|refine step_w2 rfl rfl ?_|refine g_c (by assumption) ?_|refine g_o (op_pickT rfl (ev_ok rfl) (ev_ok rfl)) ?_|refine g_o (op_lenM rfl rfl rfl (ev_ok rfl) (tgt rfl) rfl) ?_|rw[t5]|rw[q3]|rw[t9]);conv=>whnf));(first|exact Recast.refl _|exact Frz.recast (Recast.refl _) rfl|(refine Frz.one rfl rfl ?_;skip)|(refine Frz.tup ?_;skip))
theorem c_Cauchy_true (la lb:List (Int×Int)) (c:Int×Int) (hoa:∀q∈la,qOK q) (hob:∀q∈lb,qOK q) (hc:qOK c):
  CallOK Tryz.prog 6 [mvec 2 qA la,mvec 2 qA lb,qA c,.val (.bool true)] [] (.val (.bool true)) [] []:=by
 have kw:=l_works
 refine callV (Z:=[6]) tabOK mixedOK Tryz.func6 rfl (by kernel_rfl) rfl rfl (by kernel_rfl) rfl ?_
 intro W0 w0 ρ0 hE
 conv=>whnf
 by_cases h1:la.length>12
 ·have t1:Hid (decide ((la.length:Int)>12)=true):=show decide ((la.length:Int)>12)=true from decide_eq_true (by omega)
  (repeat((first|refine step_w1 rfl rfl ?_|refine step_w2 rfl rfl ?_|refine g_c (by assumption) ?_|refine g_o (op_pickT rfl (ev_ok rfl) (ev_ok rfl)) ?_|refine g_o (op_lenM rfl rfl rfl (ev_ok rfl) (tgt rfl) rfl) ?_|rw[t1.out]);conv=>whnf));(first|exact Recast.refl _|exact Frz.recast (Recast.refl _) rfl|(refine Frz.one rfl rfl ?_;skip)|(refine Frz.tup ?_;skip))
 have t1:Hid (decide ((la.length:Int)>12)=false):=show decide ((la.length:Int)>12)=false from decide_eq_false (by omega)
 by_cases h2:lb.length>12
 ·have t2:Hid (decide ((lb.length:Int)>12)=true):=show decide ((lb.length:Int)>12)=true from decide_eq_true (by omega)
  (repeat((first|refine step_w1 rfl rfl ?_|refine g_c (by assumption) ?_|refine g_o (op_pickF rfl (ev_ok rfl) (ev_ok rfl)) ?_|refine g_o (op_lenM rfl rfl rfl (ev_ok rfl) (tgt rfl) rfl) ?_|rw[t1.out]|rw[t2.out]);conv=>whnf));(first|exact Recast.refl _|exact Frz.recast (Recast.refl _) rfl|(refine Frz.one rfl rfl ?_;skip)|(refine Frz.tup ?_;skip))
 have t2:Hid (decide ((lb.length:Int)>12)=false):=show decide ((lb.length:Int)>12)=false from decide_eq_false (by omega)
 have kc:=l_cut la lb (by omega) (by omega)
 generalize hn:min la.length lb.length=n at kc
 have hn12:n≤12:=by omega
 have hxl:((la.take n).map qV).length=n:=by rw[List.length_map,List.length_take];omega
 have hyl:((lb.take n).map qV).length=n:=by rw[List.length_map,List.length_take];omega
 have k1:=c_V (la.take n) (by rw[List.length_take];omega) (fun q hq=>hoa q (List.mem_of_mem_take hq))
 have k2:=c_V (lb.take n) (by rw[List.length_take];omega) (fun q hq=>hob q (List.mem_of_mem_take hq))
 have sx:=Sm_V (l:=la.take n) (fun q hq=>hoa q (List.mem_of_mem_take hq))
 have sy0:=Sm_V (l:=lb.take n) (fun q hq=>hob q (List.mem_of_mem_take hq))
 generalize (la.take n).map qV=xs at*
 have k3:=c_QOf c hc
 have k4:=s_times (Nat.le_trans (fs_qV hc) (Nat.le_refl 130)) sx hxl (by omega) (by omega)
 have sy:Sm 260 (vscale (qV c) xs):=Sm_scale (fs_qV hc) sx
 have hyl:(vscale (qV c) xs).length=n:=zip_len hxl hxl
 have hys:∀i,i<n→(vscale (qV c) xs).getD i 0=qV c*xs.getD i 0:=fun i hi=>zip_get (d1:=0) (d2:=0) (by omega) (by omega)
 have hrow:=rows_scale hys
 generalize vscale (qV c) xs=ys at*
 have k5:=s_dot sx sx hxl hxl (by omega) (by omega)
 have k6:=s_dot sy sy hyl hyl (by omega) (by omega)
 have k7:=s_dot sx sy hxl hyl (by omega) (by omega)
 have b5:=fs_vdot sx sx hxl hxl
 have b6:=fs_vdot sy sy hyl hyl
 have b7:=fs_vdot sx sy hxl hyl
 have q1:=cauchy_le hxl hyl
 have q2:=cauchy_eq hxl hyl
 have q3:=self_pos hxl
 have q4:=self_zero hxl
 generalize vdot xs xs=xx at*
 generalize vdot ys ys=yy at*
 generalize vdot xs ys=xy at*
 have m1:=fs_mul xy xy
 have m2:=fs_mul xx yy
 have k8:=f_Mul xy xy (by omega)
 have k9:=f_Mul xx yy (by omega)
 have k10:=f_Cmp (xy*xy) (xx*yy) (by omega)
 have k11:=c_fSign xx
 have t3:Hid (((ys.length:Int) != (xs.length:Int))=false):=show((ys.length:Int) != (xs.length:Int))=false from by rw[hxl,hyl];exact bne_self_eq_false _
 (repeat((first|refine step_w1 rfl rfl ?_|refine step_w2 rfl rfl ?_|refine g_c (by assumption) ?_|refine g_o (op_pickF rfl (ev_ok rfl) (ev_ok rfl)) ?_|refine g_o (op_lenM rfl rfl rfl (ev_ok rfl) (tgt rfl) rfl) ?_|refine g_o (op_loadA rfl (ev_ok rfl) (tgt rfl) rfl (Nat.succ_ne_zero _) rfl) ?_|rw[t1.out]|rw[t2.out]|rw[t3.out]);conv=>whnf))
 refine SW_loopN hE (fun k=>k) [3,9,10,11,12,13,14,15] [11,12,13] (fun m fr hp=>∃i al,m=n - i∧i≤n∧al=rows xs ys i∧fr=[(3,.val (.bool true)),(9,fvec xs),(10,fvec ys),(11,.ptr 11 0 0 0),(12,.ptr 12 0 0 0),(13,.ptr 13 0 0 0),(14,.val (.bool al)),(15,.val (.int .i64 (i:Nat)))]∧
  hp=[(11,⟨44,true,.one [.frac xx]⟩),(12,⟨44,true,.one [.frac yy]⟩),(13,⟨44,true,.one [.frac xy]⟩)]) n ?_ ?_ ?_
 ·kernel_rfl
 ·exact⟨0,true,rfl,Nat.zero_le _,rfl,rfl,rfl⟩
 rintro m _ _ ⟨i,al,rfl,hi,hal,rfl,rfl⟩
 conv=>whnf
 by_cases hlt:i<n
 ·have t4:decide ((i:Int)<(xs.length:Int))=true:=decide_eq_true (by omega)
  (repeat(first|(refine step_w1 rfl rfl ?_;conv=>whnf)|(refine g_o (op_lenM rfl rfl rfl (ev_ok rfl) (tgt rfl) rfl) ?_;conv=>whnf)|(rw[t4];conv=>whnf)))
  refine SW_loopN hE (fun k=>k) [3,9,10,11,12,13,14,15,16] [11,12,13] (fun m fr hp=>∃k al,m=i - k∧k≤i∧al=(rows xs ys i&&allN k (minors xs ys i))∧fr=[(3,.val (.bool true)),(9,fvec xs),(10,fvec ys),(11,.ptr 11 0 0 0),(12,.ptr 12 0 0 0),(13,.ptr 13 0 0 0),(14,.val (.bool al)),(15,.val (.int .i64 (i:Nat))),(16,.val (.int .i64 (k:Nat)))]∧
   hp=[(11,⟨44,true,.one [.frac xx]⟩),(12,⟨44,true,.one [.frac yy]⟩),(13,⟨44,true,.one [.frac xy]⟩)]) i ?_ ?_ ?_
  ·kernel_rfl
  ·exact⟨0,al,rfl,Nat.zero_le _,by rw[hal,allN,Bool.and_true],rfl,rfl⟩
  rintro m _ _ ⟨k,ak,rfl,hk,hak,rfl,rfl⟩
  conv=>whnf
  by_cases hkt:k<i
  ·have t5:decide ((k:Int)<(i:Int))=true:=decide_eq_true (by omega)
   have t6:=winc (i:=k) (by omega)
   have z1:=sx i (by omega)
   have z2:=sx k (by omega)
   have z3:=sy i (by omega)
   have z4:=sy k (by omega)
   have k12:=f_Mul (xs.getD i 0) (ys.getD k 0) (by omega)
   have k13:=f_Mul (xs.getD k 0) (ys.getD i 0) (by omega)
   have hstep:∀b,b=(ak&&minors xs ys i k)→b=(rows xs ys i&&allN (k+1) (minors xs ys i)):=by
    intro b hb
    rw[hb,hak,allN,Bool.and_assoc]
   clear hak
   cases ak with
   |true=>
    (repeat((first|refine step_w1 rfl rfl ?_|refine step_i (by kernel_rfl) ?_|refine g_c (by assumption) ?_|refine g_o (op_pickT rfl (ev_ok rfl) (ev_ok rfl)) ?_|refine g_o (op_indexN (α:=Rat) (d:=0) rfl (ev_ok rfl) (ev_ok rfl) (tgt rfl) rfl (tgt rfl) rfl (by omega)) ?_|refine g_o (op_loadA rfl (ev_ok rfl) (tgt rfl) rfl (Nat.succ_ne_zero _) rfl) ?_|refine⟨_,op_eqAgg tabOK goodOK rfl (ev_ok rfl) (ev_ok rfl) rfl rfl rfl rfl (q_same _ _) q_guard, ?_⟩|rw[t5]|rw[t6]);conv=>whnf))
    exact⟨i - (k+1),fun k=>k,[3,9,10,11,12,13,14,15,16],[11,12,13],by omega,by kernel_rfl,k+1,_,rfl,hkt,hstep _ rfl,rfl,rfl⟩
   |false=>
    (repeat((first|refine step_w1 rfl rfl ?_|refine step_w2 rfl rfl ?_|refine step_i (by kernel_rfl) ?_|refine g_o (op_pickF rfl (ev_ok rfl) (ev_ok rfl)) ?_|rw[t5]|rw[t6]);conv=>whnf))
    exact⟨i - (k+1),fun k=>k,[3,9,10,11,12,13,14,15,16],[11,12,13],by omega,by kernel_rfl,k+1,_,rfl,hkt,hstep _ rfl,rfl,rfl⟩
  ·have hK:k=i:=by omega
   subst hK
   have t5:decide ((k:Int)<(k:Int))=false:=decide_eq_false (by omega)
   have t6:=winc (i:=k) (by omega)
   (repeat(first|(refine step_w2 rfl rfl ?_;conv=>whnf)|(rw[t5];conv=>whnf)|(rw[t6];conv=>whnf)))
   exact⟨n - (k+1),fun k=>k,[3,9,10,11,12,13,14,15],[11,12,13],by omega,by kernel_rfl,k+1,ak,rfl,hlt,hak,rfl,rfl⟩
 have hI:i=n:=by omega
 subst hI
 have t4:decide ((i:Int)<(xs.length:Int))=false:=decide_eq_false (by omega)
 rw[←q2]at hal
 have t7:decide ((xy*xy - xx*yy).num.sign>0)=false:=q1
 have t8:(decide (xy*xy=xx*yy) != al)=false:=by rw[hal];exact bne_self_eq_false _
 rw[q2,hrow]at hal
 subst hal
 (repeat((first|refine step_w1 rfl rfl ?_|refine step_w2 rfl rfl ?_|refine step_i (by kernel_rfl) ?_|refine g_c (by assumption) ?_|refine g_o (op_pickT rfl (ev_ok rfl) (ev_ok rfl)) ?_|refine g_o (op_pickF rfl (ev_ok rfl) (ev_ok rfl)) ?_|refine g_o (op_lenM rfl rfl rfl (ev_ok rfl) (tgt rfl) rfl) ?_|refine⟨_,op_eqAgg tabOK goodOK rfl (ev_ok rfl) (ev_ok rfl) rfl rfl rfl rfl (q_same _ _) q_guard, ?_⟩|rw[t4]|rw[t7]|rw[t8]);conv=>whnf))
 refine SW_loopN hE (fun k=>k) [9,11,19,20] [11] (fun m fr hp=>∃k al,m=i - k∧k≤i∧al=zeros xs k∧fr=[(9,fvec xs),(11,.ptr 11 0 0 0),(19,.val (.bool al)),(20,.val (.int .i64 (k:Nat)))]∧
  hp=[(11,⟨44,true,.one [.frac xx]⟩)]) i ?_ ?_ ?_
 ·kernel_rfl
 ·exact⟨0,true,rfl,Nat.zero_le _,rfl,rfl,rfl⟩
 rintro m _ _ ⟨k,ak,rfl,hk,hak,rfl,rfl⟩
 conv=>whnf
 by_cases hkt:k<i
 ·have t5:decide ((k:Int)<(xs.length:Int))=true:=decide_eq_true (by omega)
  have t6:=winc (i:=k) (by omega)
  have k12:=c_fSign (xs.getD k 0)
  have hstep:∀b,b=(ak&&((xs.getD k 0).num.sign==0))→b=zeros xs (k+1):=by
   intro b hb
   rw[hb,hak];rfl
  clear hak
  cases ak with
  |true=>
   (repeat((first|refine step_w1 rfl rfl ?_|refine g_c (by assumption) ?_|refine g_o (op_pickT rfl (ev_ok rfl) (ev_ok rfl)) ?_|refine g_o (op_lenM rfl rfl rfl (ev_ok rfl) (tgt rfl) rfl) ?_|refine g_o (op_indexN (α:=Rat) (d:=0) rfl (ev_ok rfl) (ev_ok rfl) (tgt rfl) rfl (tgt rfl) rfl (by omega)) ?_|refine g_o (op_loadA rfl (ev_ok rfl) (tgt rfl) rfl (Nat.succ_ne_zero _) rfl) ?_|rw[t5]|rw[t6]);conv=>whnf))
   exact⟨i - (k+1),fun k=>k,[9,11,19,20],[11],by omega,by kernel_rfl,k+1,_,rfl,hkt,hstep _ rfl,rfl,rfl⟩
  |false=>
   (repeat((first|refine step_w1 rfl rfl ?_|refine step_w2 rfl rfl ?_|refine g_o (op_pickF rfl (ev_ok rfl) (ev_ok rfl)) ?_|refine g_o (op_lenM rfl rfl rfl (ev_ok rfl) (tgt rfl) rfl) ?_|rw[t5]|rw[t6]);conv=>whnf))
   exact⟨i - (k+1),fun k=>k,[9,11,19,20],[11],by omega,by kernel_rfl,k+1,_,rfl,hkt,hstep _ rfl,rfl,rfl⟩
 have hK:k=i:=by omega
 subst hK
 have t5:decide ((k:Int)<(xs.length:Int))=false:=decide_eq_false (by omega)
 rw[←q4]at hak
 have t9:((xx.num.sign==0)==ak)=true:=by rw[hak];exact beq_self_eq_true _
 (repeat((first|refine step_w1 rfl rfl ?_|refine step_w2 rfl rfl ?_|refine g_c (by assumption) ?_|refine g_o (op_pickT rfl (ev_ok rfl) (ev_ok rfl)) ?_|refine g_o (op_lenM rfl rfl rfl (ev_ok rfl) (tgt rfl) rfl) ?_|rw[t5]|rw[q3]|rw[t9]);conv=>whnf));(first|exact Recast.refl _|exact Frz.recast (Recast.refl _) rfl|(refine Frz.one rfl rfl ?_;skip)|(refine Frz.tup ?_;skip))
theorem law_VecsCauchy (a0 a1:List (Int×Int)) (a2:Int×Int) (a3:Bool) (w0:a0.length≤maxLen∧∀x∈a0,((Lit.int .i64 x.1).wf=true)∧((Lit.int .u32 x.2).wf=true)) (w1:a1.length≤maxLen∧∀x∈a1,((Lit.int .i64 x.1).wf=true)∧((Lit.int .u32 x.2).wf=true)) (w2:((Lit.int .i64 a2.1).wf=true)∧((Lit.int .u32 a2.2).wf=true)):
  CallOK Tryz.prog 6 [mvec 2 qA a0,mvec 2 qA a1,qA a2,bel a3] [] (.val (.bool true)) [] []:=by
 cases a3 with
 |true=>exact c_Cauchy_true a0 a1 a2 (qOK_of w0) (qOK_of w1) ⟨wf_i64 w2.1,wf_u32 w2.2⟩
 |false=>exact c_Cauchy_false a0 a1 a2 (qOK_of w0) (qOK_of w1) ⟨wf_i64 w2.1,wf_u32 w2.2⟩
end Go.Proofs.YtjofnbpcanhfhabGreatDoor
