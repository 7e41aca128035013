/- The texts Ic. -/
import Derived.Test.YtjofnbpcanhfhabGreatDoorQLVecsKnown10
namespace Go.Proofs.YtjofnbpcanhfhabGreatDoor
open Go.Sx
set_option linter.unusedSimpArgs false
set_option linter.unusedVariables false
set_option maxRecDepth 100000
set_option maxHeartbeats 8000000
theorem v_Sum0:CallOK Tryz.prog 49 [mvec 1 fvec []] [] (.tup [fvec [],.val (.int .i64 0)]) [] []:=by
 have ka:=v_alike [] (by decide) (fun v hv=>by cases hv)
 rw[show alikeF []=0 from rfl]at ka
 refine callF (Z:=[]) tabOK mixedOK Tryz.func49 rfl (by kernel_rfl) (by first|rfl|(simp[keylessL,keyless,keylessL_map, *];done)) (by first|rfl|(simp[keylessL,keyless,keylessL_map, *];done)) (by kernel_rfl) rfl ?_
 intro w0 ρ0 hE
 conv=>whnf
 (repeat((first|refine step_w1 rfl rfl ?_|refine g_c (by assumption) ?_|refine g_o (op_pickF rfl (ev_ok rfl) (ev_ok rfl)) ?_|rw[bne_self_eq_false]|refine g_o (op_lenM rfl rfl rfl (ev_ok rfl) (tgt rfl) rfl) ?_);conv=>whnf));(first|exact Recast.refl _|exact Frz.recast (Recast.refl _) rfl|(refine Frz.one rfl rfl ?_;skip)|(refine Frz.tup ?_;(repeat(first|exact FrzC.keyless rfl|exact FrzL.nil|refine FrzL.cons ?_ ?_|exact FrzC.nilS))))
theorem v_MixN0:CallOK Tryz.prog 14 [fvec [],mvec 1 fvec []] [] (.tup [fvec [],.val (.int .i64 0)]) [] []:=by
 have ka:=v_alike [] (by decide) (fun v hv=>by cases hv)
 rw[show alikeF []=0 from rfl]at ka
 refine callF (Z:=[]) tabOK mixedOK Tryz.func14 rfl (by kernel_rfl) (by first|rfl|(simp[keylessL,keyless,keylessL_map, *];done)) (by first|rfl|(simp[keylessL,keyless,keylessL_map, *];done)) (by kernel_rfl) rfl ?_
 intro w0 ρ0 hE
 conv=>whnf
 (repeat((first|refine step_w1 rfl rfl ?_|refine step_w2 rfl rfl ?_|refine g_c (by assumption) ?_|refine g_o (op_pickF rfl (ev_ok rfl) (ev_ok rfl)) ?_|rw[bne_self_eq_false]|refine g_o (op_lenM rfl rfl rfl (ev_ok rfl) (tgt rfl) rfl) ?_);conv=>whnf));(first|exact Recast.refl _|exact Frz.recast (Recast.refl _) rfl|(refine Frz.one rfl rfl ?_;skip)|(refine Frz.tup ?_;(repeat(first|exact FrzC.keyless rfl|exact FrzL.nil|refine FrzL.cons ?_ ?_|exact FrzC.nilS))))
abbrev vblk (l:List (List Rat)):Blk:=⟨35,true,.seq 1 (l.map fvec)⟩
abbrev qblk (l:List Rat):Blk:=⟨44,true,.fracs l⟩
abbrev iblk (l:List Int):Blk:=⟨3,true,.ints .i64 l⟩
abbrev lA:List (Int×Int)→SV:=mvec 2 qA
theorem c_Sums (c:List (Int×Int)) (l:List (List (Int×Int))) (pl:List Int) (hc:∀q∈c,qOK q) (ho:∀x∈l,∀q∈x,qOK q) (hL:∀x∈l,x.length≤maxLen) (hp:∀p∈pl, -9223372036854775808≤p∧p<9223372036854775808):
  CallOK Tryz.prog 11 [mvec 2 qA c,mvec 1 lA l,ivec .i64 pl] [] (.val (.bool true)) [] []:=by
 have kw:=l_works
 refine callF (Z:=[]) tabOK mixedOK Tryz.func11 rfl (by kernel_rfl) (by first|rfl|(simp[keylessL,keyless,keylessL_map, *];done)) (by first|rfl|(simp[keylessL,keyless,keylessL_map, *];done)) (by kernel_rfl) rfl ?_
 intro w0 ρ0 hE
 conv=>whnf
 by_cases h1:c.length>8
 ·have t1:Hid (decide ((c.length:Int)>8)=true):=show decide ((c.length:Int)>8)=true from decide_eq_true (by omega)
  (repeat((first|refine step_w1 rfl rfl ?_|refine step_w2 rfl rfl ?_|refine g_c (by assumption) ?_|refine g_o (op_pickT rfl (ev_ok rfl) (ev_ok rfl)) ?_|refine g_o (op_lenM rfl rfl rfl (ev_ok rfl) (tgt rfl) rfl) ?_|rw[t1.out]);conv=>whnf));(first|exact Recast.refl _|exact Frz.recast (Recast.refl _) rfl|(refine Frz.one rfl rfl ?_;skip)|(refine Frz.tup ?_;skip))
 have t1:Hid (decide ((c.length:Int)>8)=false):=show decide ((c.length:Int)>8)=false from decide_eq_false (by omega)
 by_cases h2:l.length>8
 ·have t2:Hid (decide ((l.length:Int)>8)=true):=show decide ((l.length:Int)>8)=true from decide_eq_true (by omega)
  (repeat((first|refine step_w1 rfl rfl ?_|refine step_w2 rfl rfl ?_|refine g_c (by assumption) ?_|refine g_o (op_pickT rfl (ev_ok rfl) (ev_ok rfl)) ?_|refine g_o (op_pickF rfl (ev_ok rfl) (ev_ok rfl)) ?_|refine g_o (op_lenM rfl rfl rfl (ev_ok rfl) (tgt rfl) rfl) ?_|rw[t1.out]|rw[t2.out]);conv=>whnf));(first|exact Recast.refl _|exact Frz.recast (Recast.refl _) rfl|(refine Frz.one rfl rfl ?_;skip)|(refine Frz.tup ?_;skip))
 have t2:Hid (decide ((l.length:Int)>8)=false):=show decide ((l.length:Int)>8)=false from decide_eq_false (by omega)
 by_cases h3:pl.length>20
 ·have t3:Hid (decide ((pl.length:Int)>20)=true):=show decide ((pl.length:Int)>20)=true from decide_eq_true (by omega)
  (repeat((first|refine step_w1 rfl rfl ?_|refine g_c (by assumption) ?_|refine g_o (op_pickF rfl (ev_ok rfl) (ev_ok rfl)) ?_|refine g_o (op_lenM rfl rfl rfl (ev_ok rfl) (tgt rfl) rfl) ?_|rw[t1.out]|rw[t2.out]|rw[t3.out]);conv=>whnf));(first|exact Recast.refl _|exact Frz.recast (Recast.refl _) rfl|(refine Frz.one rfl rfl ?_;skip)|(refine Frz.tup ?_;skip))
 have t3:Hid (decide ((pl.length:Int)>20)=false):=show decide ((pl.length:Int)>20)=false from decide_eq_false (by omega)
 (repeat((first|refine step_w1 rfl rfl ?_|refine step_w2 rfl rfl ?_|refine g_o (op_pickF rfl (ev_ok rfl) (ev_ok rfl)) ?_|refine g_o (op_lenM rfl rfl rfl (ev_ok rfl) (tgt rfl) rfl) ?_|rw[t1.out]|rw[t2.out]|rw[t3.out]);conv=>whnf))
 refine SW_loopN hE (fun k=>k) [0,1,2,7,8] [] (fun m fr hp=>∃i n:Nat,m=l.length - i∧i≤l.length∧n≤20∧(∀j,j<i→n≤(l.getD j []).length)∧fr=[(0,mvec 2 qA c),(1,mvec 1 lA l),(2,ivec .i64 pl),(7,.val (.int .i64 (n:Nat))),(8,.val (.int .i64 (i:Nat)))]∧hp=[]) l.length ?_ ?_ ?_
 ·kernel_rfl
 ·exact⟨0,20,rfl,Nat.zero_le _,Nat.le_refl _,(fun j hj=>by omega),rfl,rfl⟩
 rintro m _ _ ⟨i,n,rfl,hi,hn,hmin,rfl,rfl⟩
 conv=>whnf
 by_cases hlt:i<l.length
 ·have t4:=dlt hlt
  have t5:=winc (i:=i) (by omega)
  by_cases h4:(l.getD i []).length>20
  ·have t6:decide (((l.getD i []).length:Int)>20)=true:=decide_eq_true (by omega)
   (repeat((first|refine step_w1 rfl rfl ?_|refine g_c (by assumption) ?_|refine g_o (op_lenM rfl rfl rfl (ev_ok rfl) (tgt rfl) rfl) ?_|refine g_o (op_loadA rfl (ev_ok rfl) (tgt rfl) rfl (Nat.succ_ne_zero _) rfl) ?_|refine g_o (op_indexN (α:=List (Int×Int)) (d:=[]) rfl (ev_ok rfl) (ev_ok rfl) (tgt rfl) rfl (tgt rfl) rfl (by omega)) ?_|rw[t4]|rw[t6]);conv=>whnf));(first|exact Recast.refl _|exact Frz.recast (Recast.refl _) rfl|(refine Frz.one rfl rfl ?_;skip)|(refine Frz.tup ?_;skip))
  ·have t6:decide (((l.getD i []).length:Int)>20)=false:=decide_eq_false (by omega)
   have e1:(if ((l.getD i []).length:Int)<(n:Int)then((l.getD i []).length:Int)else(n:Int))=((min n (l.getD i []).length:Nat):Int):=by split<;>omega
   (repeat((first|refine step_w1 rfl rfl ?_|refine step_w2 rfl rfl ?_|refine g_o (op_lenM rfl rfl rfl (ev_ok rfl) (tgt rfl) rfl) ?_|refine g_o (op_loadA rfl (ev_ok rfl) (tgt rfl) rfl (Nat.succ_ne_zero _) rfl) ?_|refine g_o (op_indexN (α:=List (Int×Int)) (d:=[]) rfl (ev_ok rfl) (ev_ok rfl) (tgt rfl) rfl (tgt rfl) rfl (by omega)) ?_|rw[t4]|rw[t6]|rw[e1]|rw[t5]);conv=>whnf))
   refine⟨l.length - (i+1),fun k=>k,[0,1,2,7,8],[],by omega,by kernel_rfl,i+1,min n (l.getD i []).length,rfl,hlt,by omega, ?_,rfl,rfl⟩
   intro j hj
   by_cases hji:j=i
   ·rw[hji];omega
   ·have:=hmin j (by omega);omega
 have t4:=dge hlt
 have hI:i=l.length:=by omega
 subst hI
 have e2:IntKind.i64.wrap (20*(l.length:Int))=((20*l.length:Nat):Int):=by rw[wrap_i64 (by omega) (by omega)];omega
 have e3:(if ((20*l.length:Nat):Int)<(n:Int)then((20*l.length:Nat):Int)else(n:Int))=((min n (20*l.length):Nat):Int):=by split<;>omega
 have hN0:l.length=0→min n (20*l.length)=0:=by omega
 have hN1:∀x∈l,min n (20*l.length)≤x.length:=by
  intro x hx
  obtain⟨j,hj,rfl⟩:=mem_getD hx []
  have:=hmin j hj;omega
 have hN2:min n (20*l.length)≤20:=by omega
 generalize hN:min n (20*l.length)=N at*
 clear hN hmin
 (repeat((first|refine step_w2 rfl rfl ?_|refine step_i (by kernel_rfl) ?_|refine And.intro (by first|decide|omega|(simp only[tl0,dlen,List.length_replicate,List.length_set,List.length_map,List.length_zipWith,List.length_take,List.length_append,List.length_cons,List.length_nil];omega)) ?_|refine g_o (op_lenM rfl rfl rfl (ev_ok rfl) (tgt rfl) rfl) ?_|rw[t4]|rw[e2]|rw[e3]|rw[Int.toNat_natCast]);conv=>whnf))
 clear e3 hn
 have hlenN:=allV_all hN1
 have hsmN:=allV_sm ho hN1
 have hAl:(allV l N).length=l.length:=allV_len
 have sl0:(sumN (allV l N) N 0).length=N:=sumN_len hlenN 0 (by omega)
 have ml0:(mixN (wsN c l.length) (allV l N) N 0).length=N:=mixN_len hlenN 0 (by omega)
 refine SWx_adopt (t:=9) (k:=2001) (s:=1) (blk:=⟨35,true,.seq 1 []⟩) rfl rfl rfl ?_
 refine SWx_adopt (t:=10) (k:=2002) (s:=5) (blk:=⟨44,true,.fracs []⟩) rfl rfl rfl ?_
 refine SW_loopS hE (fun k=>k) [0,1,2,7,9,10,11,12,13] [2001,2002,67,69] (fun m fr hp=>∃i:Nat,m=l.length - i∧i≤l.length∧
  fr=[(0,mvec 2 qA c),(1,mvec 1 lA l),(2,ivec .i64 pl),(7,.val (.int .i64 (N:Nat))),(9,.slc 2001 1 0 i),(10,.slc 2002 5 0 i),(11,.slc 67 5 0 N),(12,.slc 69 5 0 N),(13,.val (.int .i64 (i:Nat)))]∧
  hp=[(2001,vblk ((allV l N).take i)),(2002,qblk (wsN c i)),(67,qblk (sumN (allV l N) N i)),(69,qblk (mixN (wsN c l.length) (allV l N) N i))]) l.length ?_ ?_ ?_
 ·kernel_rfl
 ·exact⟨0,rfl,Nat.zero_le _,rfl,rfl⟩
 rintro m _ _ ⟨i,rfl,hi,rfl,rfl⟩
 have hti:(((allV l N).take i).map fvec).length=i:=by simp;omega
 have hwi:=wsN_len c i
 have sli:(sumN (allV l N) N i).length=N:=sumN_len hlenN i (by omega)
 have mli:(mixN (wsN c l.length) (allV l N) N i).length=N:=mixN_len hlenN i (by omega)
 by_cases hlt:i<l.length
 ·have t5:=dlt hlt
  have t6:=winc (i:=i) (by omega)
  have hm:=getD_mem (d:=[]) hlt
  have hNi:=hN1 _ hm
  have o1:=c_Vt (ho _ hm) (n:=N) (by omega)
  have ov:((l.getD i []).take N).map qV=cutV N (l.getD i []):=rfl
  rw[ov]at o1
  have lx:(cutV N (l.getD i [])).length=N:=cutV_len (hN1 _ hm)
  have sx:∀k,k<N→fs ((cutV N (l.getD i [])).getD k 0)≤130:=fun k hk=>hsmN _ (List.mem_map_of_mem hm) k hk
  have hget:(allV l N).getD i []=cutV N (l.getD i []):=allV_get hlt
  have hw0:fs (wAt c i)≤130:=fs_wAt hc (by omega)
  have o2:=c_fInt (i:Int) (by omega) (by omega)
  have hsn:sumN (allV l N) N (i+1)=vadd (sumN (allV l N) N i) (cutV N (l.getD i [])):=by rw[sumN,hget]
  have hmx:mixN (wsN c l.length) (allV l N) N (i+1)=vaxpy (wAt c i) (cutV N (l.getD i [])) (mixN (wsN c l.length) (allV l N) N i):=by rw[mixN,hget,wsN_get hlt]
  have fsS:=fun k hk=>sumN_fs hlenN hsmN i (by omega) k hk
  have fsM:=fun k hk=>mixN_fs (c:=wsN c l.length) (by rw[wsN_len,hAl]) hlenN hsmN (ws_all hc (by omega)) i (by omega) k hk
  have sl1:(sumN (allV l N) N (i+1)).length=N:=sumN_len hlenN (i+1) (by omega)
  have ml1:(mixN (wsN c l.length) (allV l N) N (i+1)).length=N:=mixN_len hlenN (i+1) (by omega)
  have hall:((allV l N).take (i+1)).map fvec=List.take i (((allV l N).take i).map fvec)++[fvec (cutV N (l.getD i []))]:=by
   rw[take_snocL _ i [] (by omega),List.map_append,hget,List.take_of_length_le (l:=((allV l N).take i).map fvec) (by omega)];rfl
  have hws:wsN c (i+1)=List.take i (wsN c i)++[wAt c i]:=by rw[wsN_snoc,List.take_of_length_le (by omega)]
  have gS:∀k,k<N→(sumN (allV l N) N (i+1)).getD k 0=(sumN (allV l N) N i).getD k 0+(cutV N (l.getD i [])).getD k 0:=fun k hk=>by rw[hsn];exact get_add sli lx hk
  have gM:∀k,k<N→(mixN (wsN c l.length) (allV l N) N (i+1)).getD k 0=(mixN (wsN c l.length) (allV l N) N i).getD k 0+wAt c i*(cutV N (l.getD i [])).getD k 0:=fun k hk=>by rw[hmx,get_axpy' lx mli hk,Rat.add_comm]
  clear hsn hmx hget
  have hi130:i≤8:=by omega
  generalize hS0:sumN (allV l N) N i=S0 at*
  generalize hM0:mixN (wsN c l.length) (allV l N) N i=M0 at*
  generalize hS1:sumN (allV l N) N (i+1)=S1 at*
  generalize hM1:mixN (wsN c l.length) (allV l N) N (i+1)=M1 at*
  generalize hX:cutV N (l.getD i [])=X at*
  have hallB:vblk ((allV l N).take (i+1))=⟨35,true,.seq 1 (List.take i (((allV l N).take i).map fvec)++[fvec X])⟩:=by rw[vblk,hall]
  by_cases hci:i<c.length
  ·have t7:decide ((i:Int)<(c.length:Int))=true:=decide_eq_true (by omega)
   have o3:=c_QOf (c.getD i (0,0)) (hc _ (getD_mem hci))
   rw[show qV (c.getD i (0,0))=wAt c i from by rw[wAt,if_pos hci]]at o3
   refine SWx.of hE ?_
   conv=>whnf
   (repeat((first|refine step_w1 rfl rfl ?_|refine And.intro (by first|decide|omega|(simp only[tl0,dlen,List.length_replicate,List.length_set,List.length_map,List.length_zipWith,List.length_take,List.length_append,List.length_cons,List.length_nil];omega)) ?_|refine g_c (by assumption) ?_|refine g_o (op_lenM rfl rfl rfl (ev_ok rfl) (tgt rfl) rfl) ?_|refine g_o (op_loadA rfl (ev_ok rfl) (tgt rfl) rfl (Nat.succ_ne_zero _) rfl) ?_|refine g_o (op_indexN (α:=Int×Int) (d:=(0,0)) rfl (ev_ok rfl) (ev_ok rfl) (tgt rfl) rfl (tgt rfl) rfl (by omega)) ?_|refine g_o (op_sliceM rfl (ev_ok rfl) (bound_spec rfl) (bound_spec rfl) (.inl rfl) (tgt rfl) rfl (tgt rfl) rfl (by omega)) ?_|refine g_o (op_indexN (α:=List (Int×Int)) (d:=[]) rfl (ev_ok rfl) (ev_ok rfl) (tgt rfl) rfl (tgt rfl) rfl (by omega)) ?_|rw[t5]|rw[t7]|rw[Int.toNat_natCast]);conv=>whnf))
   refine SW_loopN hE (fun k=>k) [0,1,2,7,9,10,11,12,13,14,15,16] [97,101,67,69,15] (fun m fr hp=>∃k:Nat,m=N - k∧k≤N∧
    fr=[(0,mvec 2 qA c),(1,mvec 1 lA l),(2,ivec .i64 pl),(7,.val (.int .i64 (N:Nat))),(9,.slc 97 1 0 (i+1)),(10,.slc 101 5 0 (i+1)),(11,.slc 67 5 0 N),(12,.slc 69 5 0 N),(13,.val (.int .i64 (i:Nat))),(14,fvec X),(15,.ptr 15 0 0 0),(16,.val (.int .i64 (k:Nat)))]∧
    hp=[(97,vblk ((allV l N).take (i+1))),(101,qblk (wsN c (i+1))),(67,qblk (half2 S1 S0 k)),(69,qblk (half2 M1 M0 k)),(15,⟨44,true,.one [.frac (wAt c i)]⟩)]) N ?_ ?_ ?_
   ·kernel_rfl
   ·exact⟨0,rfl,Nat.zero_le _,rfl,by rw[hallB,hws];rfl⟩
   rintro m _ _ ⟨k,rfl,hk,rfl,rfl⟩
   conv=>whnf
   by_cases hkt:k<N
   ·have t8:=dlt hkt
    have t9:=winc (i:=k) (by omega)
    have h1:=fsS k hkt
    have h2:=sx k hkt
    have h3:=fsM k hkt
    have h4:=fs_mul (wAt c i) (X.getD k 0)
    have hl1:=half_len sl1 sli hk
    have hl2:=half_len ml1 mli hk
    have o4:=f_Add (S0.getD k 0) (X.getD k 0) (by omega)
    rw[←gS k hkt,←half_get sl1 sli hkt]at o4
    have o5:=f_Mul (wAt c i) (X.getD k 0) (by omega)
    have o6:=f_Add (M0.getD k 0) (wAt c i*X.getD k 0) (by omega)
    rw[←gM k hkt,←half_get ml1 mli hkt]at o6
    (repeat((first|refine step_w1 rfl rfl ?_|refine step_i (by kernel_rfl) ?_|refine And.intro (by first|decide|omega|(simp only[tl0,dlen,List.length_replicate,List.length_set,List.length_map,List.length_zipWith,List.length_take,List.length_append,List.length_cons,List.length_nil];omega)) ?_|refine g_c (by assumption) ?_|refine g_o (op_indexN (α:=Rat) (d:=0) rfl (ev_ok rfl) (ev_ok rfl) (tgt rfl) rfl (tgt rfl) rfl (by omega)) ?_|refine g_o (op_loadA rfl (ev_ok rfl) (tgt rfl) rfl (Nat.succ_ne_zero _) rfl) ?_|rw[t8]|rw[t9]|rw[Int.toNat_natCast]|rw[Nat.zero_add]);conv=>whnf))
    refine⟨N - (k+1),fun k=>k,[0,1,2,7,9,10,11,12,13,14,15,16],[97,101,67,69,15],by omega,by kernel_rfl,k+1,rfl,hkt,rfl, ?_⟩
    rw[←half_set sl1 sli hkt,←half_set ml1 mli hkt]
    rfl
   ·have t8:=dge hkt
    have hK:k=N:=by omega
    subst hK
    rw[half_all sl1 sli,half_all ml1 mli]
    (repeat(first|(refine step_w2 rfl rfl ?_;conv=>whnf)|(rw[t8];conv=>whnf)|(rw[t6];conv=>whnf)))
    refine⟨l.length - (i+1),renBy [(97,2001),(101,2002)],[0,1,2,7,9,10,11,12,13],[97,101,67,69],by omega,by kernel_rfl,i+1,rfl,hlt,rfl, ?_⟩
    rw[hS1,hM1]
    rfl
  ·have t7:decide ((i:Int)<(c.length:Int))=false:=decide_eq_false (by omega)
   rw[show((i:Int):Rat)=wAt c i from by rw[wAt,if_neg hci]]at o2
   refine SWx.of hE ?_
   conv=>whnf
   (repeat((first|refine step_w1 rfl rfl ?_|refine step_w2 rfl rfl ?_|refine And.intro (by first|decide|omega|(simp only[tl0,dlen,List.length_replicate,List.length_set,List.length_map,List.length_zipWith,List.length_take,List.length_append,List.length_cons,List.length_nil];omega)) ?_|refine g_c (by assumption) ?_|refine g_o (op_lenM rfl rfl rfl (ev_ok rfl) (tgt rfl) rfl) ?_|refine g_o (op_loadA rfl (ev_ok rfl) (tgt rfl) rfl (Nat.succ_ne_zero _) rfl) ?_|refine g_o (op_sliceM rfl (ev_ok rfl) (bound_spec rfl) (bound_spec rfl) (.inl rfl) (tgt rfl) rfl (tgt rfl) rfl (by omega)) ?_|refine g_o (op_indexN (α:=List (Int×Int)) (d:=[]) rfl (ev_ok rfl) (ev_ok rfl) (tgt rfl) rfl (tgt rfl) rfl (by omega)) ?_|rw[t5]|rw[t7]|rw[Int.toNat_natCast]);conv=>whnf))
   refine SW_loopN hE (fun k=>k) [0,1,2,7,9,10,11,12,13,14,15,16] [97,101,67,69,15] (fun m fr hp=>∃k:Nat,m=N - k∧k≤N∧
    fr=[(0,mvec 2 qA c),(1,mvec 1 lA l),(2,ivec .i64 pl),(7,.val (.int .i64 (N:Nat))),(9,.slc 97 1 0 (i+1)),(10,.slc 101 5 0 (i+1)),(11,.slc 67 5 0 N),(12,.slc 69 5 0 N),(13,.val (.int .i64 (i:Nat))),(14,fvec X),(15,.ptr 15 0 0 0),(16,.val (.int .i64 (k:Nat)))]∧
    hp=[(97,vblk ((allV l N).take (i+1))),(101,qblk (wsN c (i+1))),(67,qblk (half2 S1 S0 k)),(69,qblk (half2 M1 M0 k)),(15,⟨44,true,.one [.frac (wAt c i)]⟩)]) N ?_ ?_ ?_
   ·kernel_rfl
   ·exact⟨0,rfl,Nat.zero_le _,rfl,by rw[hallB,hws];rfl⟩
   rintro m _ _ ⟨k,rfl,hk,rfl,rfl⟩
   conv=>whnf
   by_cases hkt:k<N
   ·have t8:=dlt hkt
    have t9:=winc (i:=k) (by omega)
    have h1:=fsS k hkt
    have h2:=sx k hkt
    have h3:=fsM k hkt
    have h4:=fs_mul (wAt c i) (X.getD k 0)
    have hl1:=half_len sl1 sli hk
    have hl2:=half_len ml1 mli hk
    have o4:=f_Add (S0.getD k 0) (X.getD k 0) (by omega)
    rw[←gS k hkt,←half_get sl1 sli hkt]at o4
    have o5:=f_Mul (wAt c i) (X.getD k 0) (by omega)
    have o6:=f_Add (M0.getD k 0) (wAt c i*X.getD k 0) (by omega)
    rw[←gM k hkt,←half_get ml1 mli hkt]at o6
    (repeat((first|refine step_w1 rfl rfl ?_|refine step_i (by kernel_rfl) ?_|refine And.intro (by first|decide|omega|(simp only[tl0,dlen,List.length_replicate,List.length_set,List.length_map,List.length_zipWith,List.length_take,List.length_append,List.length_cons,List.length_nil];omega)) ?_|refine g_c (by assumption) ?_|refine g_o (op_indexN (α:=Rat) (d:=0) rfl (ev_ok rfl) (ev_ok rfl) (tgt rfl) rfl (tgt rfl) rfl (by omega)) ?_|refine g_o (op_loadA rfl (ev_ok rfl) (tgt rfl) rfl (Nat.succ_ne_zero _) rfl) ?_|rw[t8]|rw[t9]|rw[Int.toNat_natCast]|rw[Nat.zero_add]);conv=>whnf))
    refine⟨N - (k+1),fun k=>k,[0,1,2,7,9,10,11,12,13,14,15,16],[97,101,67,69,15],by omega,by kernel_rfl,k+1,rfl,hkt,rfl, ?_⟩
    rw[←half_set sl1 sli hkt,←half_set ml1 mli hkt]
    rfl
   ·have t8:=dge hkt
    have hK:k=N:=by omega
    subst hK
    rw[half_all sl1 sli,half_all ml1 mli]
    (repeat(first|(refine step_w2 rfl rfl ?_;conv=>whnf)|(rw[t8];conv=>whnf)|(rw[t6];conv=>whnf)))
    refine⟨l.length - (i+1),renBy [(97,2001),(101,2002)],[0,1,2,7,9,10,11,12,13],[97,101,67,69],by omega,by kernel_rfl,i+1,rfl,hlt,rfl, ?_⟩
    rw[hS1,hM1]
    rfl
 ·have t5:=dge hlt
  have hI:i=l.length:=by omega
  subst hI
  have eall:(allV l N).take l.length=allV l N:=List.take_of_length_le (by omega)
  rw[eall]
  have oS:CallOK Tryz.prog 49 [mvec 1 fvec (allV l N)] [] (.tup [fvec (sumN (allV l N) N l.length),.val (.int .i64 0)]) [] []:=by
   rcases Nat.eq_zero_or_pos l.length with h0|h0
   ·have hl0:allV l N=[]:=List.length_eq_zero_iff.1 (by omega)
    rw[hl0,h0,hN0 h0];exact v_Sum0
   ·have:=v_Sum (allV l N) N 130 (by omega) (by intro h;rw[h]at hAl;simp at hAl;omega) hlenN (by omega) hsmN (by omega)
    rwa [hAl]at this
  have oM:CallOK Tryz.prog 14 [fvec (wsN c l.length),mvec 1 fvec (allV l N)] [] (.tup [fvec (mixN (wsN c l.length) (allV l N) N l.length),.val (.int .i64 0)]) [] []:=by
   rcases Nat.eq_zero_or_pos l.length with h0|h0
   ·have hl0:allV l N=[]:=List.length_eq_zero_iff.1 (by omega)
    rw[hl0,h0,hN0 h0];exact v_MixN0
   ·have:=v_Mix (wsN c l.length) (allV l N) N 130 (by omega) (by omega) (by intro h;rw[h]at hAl;simp at hAl;omega) hlenN (by omega) hsmN (ws_all hc (by omega)) (by omega)
    rwa [hAl]at this
  have o1:=v_Same (sumN (allV l N) N l.length) (sumN (allV l N) N l.length) (by omega) (by omega)
  have o2:=v_Same (mixN (wsN c l.length) (allV l N) N l.length) (mixN (wsN c l.length) (allV l N) N l.length) (by omega) (by omega)
  rw[decide_eq_true rfl]at o1 o2
  have q1:(((sumN (allV l N) N l.length).length:Int) != (N:Int))=false:=by rw[sli];exact bne_self_eq_false _
  have q2:(((mixN (wsN c l.length) (allV l N) N l.length).length:Int) != (N:Int))=false:=by rw[mli];exact bne_self_eq_false _
  refine SWx_freezeM 9 2001 (fun _ h=>h) (fun _=>rfl) rfl rfl hAl.symm ?_
  refine SWx_freezeF 10 2002 (fun _ h=>h) rfl rfl hwi.symm ?_
  refine SWx_freezeF 11 67 (fun _ h=>h) rfl rfl sli.symm ?_
  refine SWx_freezeF 12 69 (fun _ h=>h) rfl rfl mli.symm ?_
  generalize sumN (allV l N) N l.length=S at*
  generalize mixN (wsN c l.length) (allV l N) N l.length=M at*
  generalize wsN c l.length=ws at*
  generalize allV l N=vs at*
  refine SWx.of hE ?_
  conv=>whnf
  (repeat((first|refine step_w1 rfl rfl ?_|refine step_w2 rfl rfl ?_|refine g_c (by assumption) ?_|refine g_o (op_pickF rfl (ev_ok rfl) (ev_ok rfl)) ?_|rw[bne_self_eq_false]|refine g_o (op_lenM rfl rfl rfl (ev_ok rfl) (tgt rfl) rfl) ?_|rw[t5]|rw[q1]|rw[q2]);conv=>whnf))
  clear oS oM q1 q2 o1 o2 eall hsmN hlenN ml0 sl0 hti hwi hAl
  refine SWx_adopt (t:=21) (k:=3001) (s:=1) (blk:=iblk []) rfl rfl rfl ?_
  refine SWx_adopt (t:=22) (k:=3002) (s:=5) (blk:=qblk []) rfl rfl rfl ?_
  refine SW_loopS hE (fun k=>k) [2,7,11,21,22,23] [3001,3002] (fun m fr hp=>∃i:Nat,m=pl.length - i∧i≤pl.length∧(N=0→i=0)∧
   fr=[(2,ivec .i64 pl),(7,.val (.int .i64 (N:Nat))),(11,fvec S),(21,.slc 3001 1 0 i),(22,.slc 3002 5 0 i),(23,.val (.int .i64 (i:Nat)))]∧
   hp=[(3001,iblk ((pl.take i).map (placeF N))),(3002,qblk (vpart S ((pl.take i).map (placeF N))))]) pl.length ?_ ?_ ?_
  ·kernel_rfl
  ·exact⟨0,rfl,Nat.zero_le _,fun _=>rfl,rfl,rfl⟩
  rintro m _ _ ⟨i,rfl,hi,hi0,rfl,rfl⟩
  have la:((pl.take i).map (placeF N)).length=i:=by simp;omega
  have lb:(vpart S ((pl.take i).map (placeF N))).length=i:=by simp[vpart];omega
  by_cases hgo:i<pl.length∧0<N
  ·obtain⟨hlt,hN⟩:=hgo
   have t6:=dlt hlt
   have t7:decide ((N:Int)>0)=true:=decide_eq_true (by omega)
   have t8:=winc (i:=i) (by omega)
   have hpi:=hp _ (getD_mem (d:=0) hlt)
   have g1:=place_ok hN (pl.getD i 0)
   have hta:(pl.take (i+1)).map (placeF N)=(pl.take i).map (placeF N)++[placeF N (pl.getD i 0)]:=by rw[take_snocL _ i 0 hlt,List.map_append];rfl
   have htb:vpart S ((pl.take (i+1)).map (placeF N))=vpart S ((pl.take i).map (placeF N))++[S.getD (placeF N (pl.getD i 0)).toNat 0]:=by rw[hta,vpart,List.map_append];rfl
   obtain⟨P,hP⟩:=Int.eq_ofNat_of_zero_le g1.1
   rw[hP]at g1 hta htb
   rw[Int.toNat_natCast]at htb
   have e1:IntKind.i64.wrap ((pl.getD i 0).tmod (N:Int))=(pl.getD i 0).tmod (N:Int):=wrap_i64 (by have:=Int.lt_tmod_of_pos (pl.getD i 0) (show(0:Int)<N by omega);omega) (by have:=Int.tmod_lt_of_pos (pl.getD i 0) (show(0:Int)<N by omega);omega)
   have hta2:(pl.take (i+1)).map (placeF N)=List.take i ((pl.take i).map (placeF N))++[(P:Int)]:=by rw[List.take_of_length_le (l:=(pl.take i).map (placeF N)) (by omega)];exact hta
   have htb2:vpart S ((pl.take (i+1)).map (placeF N))=List.take i (vpart S ((pl.take i).map (placeF N)))++[S.getD P 0]:=by rw[List.take_of_length_le (l:=vpart S ((pl.take i).map (placeF N))) (by omega)];exact htb
   clear hta htb
   unfold placeF at hP
   refine SWx.of hE ?_
   conv=>whnf
   by_cases hneg:(pl.getD i 0).tmod (N:Int)<0
   ·have t9:decide ((pl.getD i 0).tmod (N:Int)<0)=true:=decide_eq_true hneg
    rw[if_pos hneg]at hP
    have e2:IntKind.i64.wrap ((pl.getD i 0).tmod (N:Int)+(N:Int))=(P:Int):=by rw[hP];exact wrap_i64 (by omega) (by omega)
    (repeat((first|refine step_w1 rfl rfl ?_|refine And.intro (by first|decide|omega|(simp only[tl0,dlen,List.length_replicate,List.length_set,List.length_map,List.length_zipWith,List.length_take,List.length_append,List.length_cons,List.length_nil];omega)) ?_|refine g_o (op_pickT rfl (ev_ok rfl) (ev_ok rfl)) ?_|refine g_o (op_lenM rfl rfl rfl (ev_ok rfl) (tgt rfl) rfl) ?_|refine g_o (op_loadA rfl (ev_ok rfl) (tgt rfl) rfl (Nat.succ_ne_zero _) rfl) ?_|refine g_o (op_indexN (α:=Int) (d:=0) rfl (ev_ok rfl) (ev_ok rfl) (tgt rfl) rfl (tgt rfl) rfl (by omega)) ?_|refine g_o (op_indexM (α:=Rat) (d:=0) rfl (ev_ok rfl) (ev_ok rfl) (tgt rfl) rfl (tgt rfl) rfl (by omega)) ?_|rw[t6]|rw[t7]|rw[t9]|rw[e2]|rw[t8]|rw[Int.toNat_natCast]);conv=>whnf))
    refine⟨pl.length - (i+1),renBy [(198,3001),(205,3002)],[2,7,11,21,22,23],[198,205],by omega,by kernel_rfl,i+1,rfl,hlt,(by omega),rfl, ?_⟩
    rw[htb2,hta2]
    rfl
   ·have t9:decide ((pl.getD i 0).tmod (N:Int)<0)=false:=decide_eq_false hneg
    rw[if_neg hneg]at hP
    rw[hP]at e1 t9
    (repeat((first|refine step_w1 rfl rfl ?_|refine step_w2 rfl rfl ?_|refine And.intro (by first|decide|omega|(simp only[tl0,dlen,List.length_replicate,List.length_set,List.length_map,List.length_zipWith,List.length_take,List.length_append,List.length_cons,List.length_nil];omega)) ?_|refine g_o (op_pickT rfl (ev_ok rfl) (ev_ok rfl)) ?_|refine g_o (op_lenM rfl rfl rfl (ev_ok rfl) (tgt rfl) rfl) ?_|refine g_o (op_indexN (α:=Rat) (d:=0) rfl (ev_ok rfl) (ev_ok rfl) (tgt rfl) rfl (tgt rfl) rfl (by omega)) ?_|refine g_o (op_loadA rfl (ev_ok rfl) (tgt rfl) rfl (Nat.succ_ne_zero _) rfl) ?_|refine g_o (op_indexN (α:=Int) (d:=0) rfl (ev_ok rfl) (ev_ok rfl) (tgt rfl) rfl (tgt rfl) rfl (by omega)) ?_|rw[t6]|rw[t7]|rw[hP]|rw[t9]|rw[t8]);conv=>whnf))
    refine⟨pl.length - (i+1),renBy [(198,3001),(205,3002)],[2,7,11,21,22,23],[198,205],by omega,by kernel_rfl,i+1,rfl,hlt,(by omega),rfl, ?_⟩
    rw[htb2,hta2]
    rfl
  ·have oP:CallOK Tryz.prog 15 [fvec S,ivec .i64 ((pl.take i).map (placeF N))] [] (.tup [fvec (vpart S ((pl.take i).map (placeF N))),.val (.int .i64 0)]) [] []:=
    v_Part S _ (by omega) (by omega) (fun k hk=>by
     rw[la]at hk
     rw[map_get (d:=0) (by rw[List.length_take];omega)]
     have:=place_ok (n:=N) (by omega) ((pl.take i).getD k 0)
     rw[sli];exact this)
   have o1:=v_Same (vpart S ((pl.take i).map (placeF N))) (vpart S ((pl.take i).map (placeF N))) (by omega) (by omega)
   rw[decide_eq_true rfl]at o1
   have q1:(((vpart S ((pl.take i).map (placeF N))).length:Int)==(((pl.take i).map (placeF N)).length:Int))=true:=by rw[la,lb];exact beq_self_eq_true _
   refine SWx_freezeI 21 3001 (fun _ h=>h) rfl rfl la.symm ?_
   refine SWx_freezeF 22 3002 (fun _ h=>h) rfl rfl lb.symm ?_
   generalize vpart S ((pl.take i).map (placeF N))=D at*
   generalize (pl.take i).map (placeF N)=A at*
   refine SWx.of hE ?_
   conv=>whnf
   by_cases hlt:i<pl.length
   ·have t6:=dlt hlt
    have t7:decide ((N:Int)>0)=false:=decide_eq_false (by omega)
    (repeat((first|refine step_w1 rfl rfl ?_|refine step_w2 rfl rfl ?_|refine g_c (by assumption) ?_|refine g_o (op_pickT rfl (ev_ok rfl) (ev_ok rfl)) ?_|rw[beq_self_eq_true]|refine g_o (op_lenM rfl rfl rfl (ev_ok rfl) (tgt rfl) rfl) ?_|rw[t6]|rw[t7]|rw[q1]);conv=>whnf));(first|exact Recast.refl _|exact Frz.recast (Recast.refl _) rfl|(refine Frz.one rfl rfl ?_;skip)|(refine Frz.tup ?_;skip))
   ·have t6:=dge hlt
    (repeat((first|refine step_w1 rfl rfl ?_|refine step_w2 rfl rfl ?_|refine g_c (by assumption) ?_|refine g_o (op_pickT rfl (ev_ok rfl) (ev_ok rfl)) ?_|refine g_o (op_pickF rfl (ev_ok rfl) (ev_ok rfl)) ?_|rw[beq_self_eq_true]|refine g_o (op_lenM rfl rfl rfl (ev_ok rfl) (tgt rfl) rfl) ?_|rw[t6]|rw[q1]);conv=>whnf));(first|exact Recast.refl _|exact Frz.recast (Recast.refl _) rfl|(refine Frz.one rfl rfl ?_;skip)|(refine Frz.tup ?_;skip))
theorem law_VecsSums (a0:List (Int×Int)) (a1:List (List (Int×Int))) (a2:List Int) (w0:QWf a0) (w1:a1.length≤maxLen∧∀x∈a1,QWf x) (w2:a2.length≤maxLen∧∀x∈a2,(Lit.int .i64 x).wf=true):
  CallOK Tryz.prog 11 [mvec 2 qA a0,mvec 1 lA a1,ivec .i64 a2] [] (.val (.bool true)) [] []:=
 c_Sums a0 a1 a2 (qOK_of w0) (fun x hx=>qOK_of (w1.2 x hx)) (fun x hx=>(w1.2 x hx).1) (fun p hp=>wf_i64 (w2.2 p hp))
end Go.Proofs.YtjofnbpcanhfhabGreatDoor
