/- The texts Rc, Rd, Aa, Re, Rf, Td, Te, Tf, Rg, Kk, Kl, Ki, Km, Kn, Ko, Kp, Kq, Kr, Ks. -/
import Derived.Test.YtfpagioknjjacaaGreatDoorQMMatsKnown5
namespace Go.Proofs.YtfpagioknjjacaaGreatDoor
open Go.Sx
set_option linter.unusedSimpArgs false
set_option linter.unusedVariables false
set_option maxRecDepth 100000
set_option maxHeartbeats 4000000
theorem valT_diff {xs ys:List Int} {j:Nat}:∀{n:Nat},j≤n→(∀i,j≤i→i<n→xs.getD i 0=ys.getD i 0)→valT xs n - valT ys n=valT xs j - valT ys j
 |0,h,_=>by obtain rfl:j=0:=by omega
            rfl
 |n+1,h,he=>by
  by_cases hj:j=n+1
  ·rw[hj]
  ·have:=valT_diff (n:=n) (by omega) (fun i h1 h2=>he i h1 (by omega))
   rw[valT,valT,he n (by omega) (by omega)];omega
theorem valT_lt_of {xs ys:List Int} (hx:W4 xs) (hy:W4 ys) {j:Nat} (h:xs.getD j 0<ys.getD j 0):valT xs (j+1)<valT ys (j+1):=by
 have h1:=valT_lt hx j
 have h2:=valT_nonneg hy j
 have h3:(xs.getD j 0+1)*10000^j≤ys.getD j 0*10000^j:=Int.mul_le_mul_of_nonneg_right (by omega) (Int.le_of_lt (powT_pos j))
 rw[Int.add_mul,Int.one_mul]at h3
 rw[valT,valT];omega
theorem r_Cmp (a b:Nat) (ha:(td a).length<1099511627776) (hb:(td b).length<1099511627776):CallOK Tryz.prog 324 [nN a,nN b] [] (.val (.int .i64 ((a:Int) - b).sign)) [] []:=by
 refine callV (Z:=[]) tabOK mixedOK Tryz.func324 rfl (by kernel_rfl) rfl rfl (by kernel_rfl) rfl ?_
 intro W0 w0 ρ0 hE
 conv=>whnf
 by_cases h1:(td a).length<(td b).length
 ·have t1:decide (((td a).length:Int)<((td b).length:Int))=true:=decide_eq_true (by omega)
  have:=td_len_lt h1
  rw[Int.sign_eq_neg_one_of_neg (show(a:Int) - b<0 by omega)]
  (repeat(first|(refine step_w1 rfl rfl ?_;conv=>whnf)|(refine g_o (op_lenM rfl rfl rfl (ev_ok rfl) (tgt rfl) rfl) ?_;conv=>whnf)|(rw[t1];conv=>whnf)));(first|exact Recast.refl _|exact Frz.recast (Recast.refl _) rfl|(refine Frz.one rfl rfl ?_;skip)|(refine Frz.tup ?_;skip))
 have t1:decide (((td a).length:Int)<((td b).length:Int))=false:=decide_eq_false (by omega)
 by_cases h2:(td b).length<(td a).length
 ·have t2:decide (((td a).length:Int)>((td b).length:Int))=true:=decide_eq_true (by omega)
  have:=td_len_lt h2
  rw[Int.sign_eq_one_of_pos (show 0<(a:Int) - b by omega)]
  (repeat((first|refine step_w1 rfl rfl ?_|refine step_w2 rfl rfl ?_|refine g_o (op_lenM rfl rfl rfl (ev_ok rfl) (tgt rfl) rfl) ?_|rw[t1]|rw[t2]);conv=>whnf));(first|exact Recast.refl _|exact Frz.recast (Recast.refl _) rfl|(refine Frz.one rfl rfl ?_;skip)|(refine Frz.tup ?_;skip))
 have t2:decide (((td a).length:Int)>((td b).length:Int))=false:=decide_eq_false (by omega)
 have e0:IntKind.i64.wrap (((td a).length:Int) - 1)=((td a).length:Int) - 1:=wrap_i64 (by omega) (by omega)
 have va:=td_valN a (td a).length (Nat.le_refl _)
 have vb:=td_valN b (td a).length (by omega)
 have wa:=td_w32 a
 have wb:=td_w32 b
 (repeat((first|refine step_w2 rfl rfl ?_|refine g_o (op_lenM rfl rfl rfl (ev_ok rfl) (tgt rfl) rfl) ?_|rw[t1]|rw[t2]|rw[e0]);conv=>whnf))
 refine SW_loopN hE (fun k=>k) [0,1,5] [] (fun m fr hp=>m≤(td a).length∧(∀i,m≤i→i<(td a).length→(td a).getD i 0=(td b).getD i 0)∧fr=[(0,nN a),(1,nN b),(5,.val (.int .i64 ((m:Int) - 1)))]∧hp=[]) (td a).length ?_ ?_ ?_
 ·kernel_rfl
 ·exact⟨Nat.le_refl _,(fun i h1 h2=>by omega),rfl,rfl⟩
 rintro j _ _ ⟨hj,heq,rfl,rfl⟩
 have hd:=valT_diff hj heq
 rw[va,vb]at hd
 conv=>whnf
 by_cases h0:j=0
 ·subst h0
  have t3:decide (((0:Nat):Int) - 1≥0)=false:=rfl
  have e:((a:Int) - b).sign=0:=by rw[hd];rfl
  rw[e]
  (repeat(first|(refine step_w2 rfl rfl ?_;conv=>whnf)));(first|exact Recast.refl _|exact Frz.recast (Recast.refl _) rfl|(refine Frz.one rfl rfl ?_;skip)|(refine Frz.tup ?_;skip))
 ·obtain⟨i,rfl⟩:∃i,j=i+1:=⟨j - 1,by omega⟩
  have ei:(((i+1:Nat):Int) - 1)=(i:Int):=by omega
  rw[ei]
  have hib:i<(td b).length:=by omega
  have t3:decide ((i:Int)≥0)=true:=decide_eq_true (by omega)
  have e2:IntKind.i64.wrap ((i:Int) - 1)=(i:Int) - 1:=wrap_i64 (by omega) (by omega)
  by_cases hlt:(td a).getD i 0<(td b).getD i 0
  ·have t4:decide ((td a).getD i 0<(td b).getD i 0)=true:=decide_eq_true hlt
   have:=valT_lt_of wa wb hlt
   rw[Int.sign_eq_neg_one_of_neg (show(a:Int) - b<0 by omega)]
   (repeat((first|refine step_w1 rfl rfl ?_|refine step_i (by kernel_rfl) ?_|refine g_o (op_loadA rfl (ev_ok rfl) (tgt rfl) rfl (Nat.succ_ne_zero _) rfl) ?_|refine g_o (op_indexN (α:=Int) (d:=0) rfl (ev_ok rfl) (ev_ok rfl) (tgt rfl) rfl (tgt rfl) rfl (by omega)) ?_|rw[t3]|rw[t4]);conv=>whnf));(first|exact Recast.refl _|exact Frz.recast (Recast.refl _) rfl|(refine Frz.one rfl rfl ?_;skip)|(refine Frz.tup ?_;skip))
  ·have t4:decide ((td a).getD i 0<(td b).getD i 0)=false:=decide_eq_false hlt
   by_cases hgt:(td b).getD i 0<(td a).getD i 0
   ·have t5:decide ((td a).getD i 0>(td b).getD i 0)=true:=decide_eq_true hgt
    have:=valT_lt_of wb wa hgt
    rw[Int.sign_eq_one_of_pos (show 0<(a:Int) - b by omega)]
    (repeat((first|refine step_w1 rfl rfl ?_|refine step_w2 rfl rfl ?_|refine step_i (by kernel_rfl) ?_|refine g_o (op_loadA rfl (ev_ok rfl) (tgt rfl) rfl (Nat.succ_ne_zero _) rfl) ?_|refine g_o (op_indexN (α:=Int) (d:=0) rfl (ev_ok rfl) (ev_ok rfl) (tgt rfl) rfl (tgt rfl) rfl (by omega)) ?_|rw[t3]|rw[t4]|rw[t5]);conv=>whnf));(first|exact Recast.refl _|exact Frz.recast (Recast.refl _) rfl|(refine Frz.one rfl rfl ?_;skip)|(refine Frz.tup ?_;skip))
   ·have t5:decide ((td a).getD i 0>(td b).getD i 0)=false:=decide_eq_false hgt
    (repeat((first|refine step_w1 rfl rfl ?_|refine step_w2 rfl rfl ?_|refine step_i (by kernel_rfl) ?_|refine g_o (op_loadA rfl (ev_ok rfl) (tgt rfl) rfl (Nat.succ_ne_zero _) rfl) ?_|refine g_o (op_indexN (α:=Int) (d:=0) rfl (ev_ok rfl) (ev_ok rfl) (tgt rfl) rfl (tgt rfl) rfl (by omega)) ?_|rw[t3]|rw[t4]|rw[t5]|rw[e2]);conv=>whnf))
    exact⟨i,fun k=>k,[0,1,5],[],by omega,by kernel_rfl,by omega,(fun q h1 h2=>by
     by_cases hq:q=i
     ·rw[hq];omega
     ·exact heq q (by omega) h2),rfl,rfl⟩
theorem add_carry {P vL va vb c x y D C:Int} (h:vL+c*P=va+vb) (hD:x+y+c=D+10000*C):vL+D*P+C*(P*10000)=va+x*P+(vb+y*P):=by
 have h2:(x+y+c)*P=(D+10000*C)*P:=by rw[hD]
 grind
theorem r_Add (a b:Nat) (ha:(td a).length<1073741824) (hb:(td b).length<1073741824):CallOK Tryz.prog 323 [nN a,nN b] [] (nN (a+b)) [] []:=by
 have wa:=td_w32 a
 have wb:=td_w32 b
 refine callF (Z:=[]) tabOK mixedOK Tryz.func323 rfl (by kernel_rfl) (by first|rfl|(simp[keylessL,keyless,keylessL_map, *];done)) (by first|rfl|(simp[keylessL,keyless,keylessL_map, *];done)) (by kernel_rfl) rfl ?_
 intro w0 ρ0 hE
 conv=>whnf
 skip
 generalize hM:max (td a).length (td b).length=M
 refine SWx_adopt (t:=5) (k:=2001) (s:=1) (blk:=zblk []) rfl rfl rfl ?_
 refine SW_loopS hE (fun k=>k) [0,1,5,6,7] [2001] (fun m fr hp=>∃(i:Nat) (L:List Int) (c:Int),m=M+2 - i∧i≤M+1∧L.length=i∧W4 L∧0≤c∧c≤1∧(M<i→c=0)∧valT L i+c*10000^i=valT (td a) i+valT (td b) i∧
  fr=[(0,nN a),(1,nN b),(5,.slc 2001 1 0 i),(6,.val (.int .i64 c)),(7,.val (.int .i64 (i:Nat)))]∧hp=[(2001,zblk L)]) (M+2) ?_ ?_ ?_
 ·kernel_rfl
 ·exact⟨0,[],0,rfl,by omega,rfl,(fun i=>by simp),by omega,by omega,(fun _=>rfl),rfl,rfl,rfl⟩
 rintro m _ _ ⟨i,L,c,rfl,hi,hl,hw,hc0,hc1,hcM,hv,rfl,rfl⟩
 by_cases hgo:i<(td a).length∨i<(td b).length∨0<c
 ·have hiM:i≤M:=by
   rcases hgo with h|h|h
   ·omega
   ·omega
   ·rcases Nat.lt_or_ge M i with g|g
    ·have:=hcM g;omega
    ·exact g
  have k1:=r_at a i (by omega)
  have k2:=r_at b i (by omega)
  have hx:=wa i
  have hy:=wb i
  have hxz:(td a).length≤i→(td a).getD i 0=0:=fun h=>getD_ge h
  have hyz:(td b).length≤i→(td b).getD i 0=0:=fun h=>getD_ge h
  generalize hxe:(td a).getD i 0=x at*
  generalize hye:(td b).getD i 0=y at*
  have e1:IntKind.i64.wrap (x+y)=x+y:=wrap_i64 (by omega) (by omega)
  have e2:IntKind.i64.wrap (x+y+c)=x+y+c:=wrap_i64 (by omega) (by omega)
  have e3:(x+y+c).tmod 10000=(x+y+c) % 10000:=Int.tmod_eq_emod_of_nonneg (by omega)
  have e4:IntKind.i64.wrap ((x+y+c).tdiv 10000)=(x+y+c)/10000:=by rw[Int.tdiv_eq_ediv_of_nonneg (by omega)];exact wrap_i64 (by omega) (by omega)
  have e5:(x+y+c).tdiv 10000=(x+y+c)/10000:=Int.tdiv_eq_ediv_of_nonneg (by omega)
  have e6:=winc (i:=i) (by omega)
  have hc2:M<i+1→(x+y+c)/10000=0:=fun h=>by
   have:=hxz (by omega);have:=hyz (by omega);omega
  have hiA:i<1099511627776:=by omega
  clear hxz hyz
  have hstep:valT (L++[(x+y+c) % 10000]) (i+1)+(x+y+c)/10000*10000^(i+1)=valT (td a) (i+1)+valT (td b) (i+1):=by
   have h1:=valT_snoc L ((x+y+c) % 10000)
   rw[hl]at h1
   rw[h1,valT,valT,Int.pow_succ,hxe,hye]
   exact add_carry hv (by omega)
  have hw2:W4 (L++[(x+y+c) % 10000]):=W4_snoc hw (by omega) (by omega)
  have hl2:(L++[(x+y+c) % 10000]).length=i+1:=by rw[List.length_append,hl];rfl
  have hhp:=snoc_end (d:=(x+y+c) % 10000) hl
  refine SWx.of hE ?_
  conv=>whnf
  by_cases g1:i<(td a).length
  ·have t1:decide ((i:Int)<((td a).length:Int))=true:=decide_eq_true (by omega)
   (repeat((first|refine step_w1 rfl rfl ?_|refine step_w2 rfl rfl ?_|refine step_oA (by first|omega|decide|(simp only[tl0,dlen,List.length_replicate,List.length_set,List.length_map,List.length_zipWith,List.length_take,List.length_append,List.length_cons,List.length_nil];omega)) ?_|refine step_oN (by first|omega|decide|(simp only[tl0,dlen,List.length_replicate,List.length_set,List.length_map,List.length_zipWith,List.length_take,List.length_append,List.length_cons,List.length_nil];omega)) ?_|refine g_c (by assumption) ?_|refine g_o (op_pickT rfl (ev_ok rfl) (ev_ok rfl)) ?_|refine g_o (op_lenM rfl rfl rfl (ev_ok rfl) (tgt rfl) rfl) ?_|rw[t1]|rw[e1]|rw[e2]|rw[e3]|rw[e4]|rw[e6]);conv=>whnf))
   exact⟨M+2 - (i+1),renBy [(38,2001)],[0,1,5,6,7],[38],by omega,by kernel_rfl,i+1,_,_,rfl,by omega,hl2,hw2,by omega,by omega,hc2,hstep,rfl,by rw[←hhp];rfl⟩
  ·have t1:decide ((i:Int)<((td a).length:Int))=false:=decide_eq_false (by omega)
   by_cases g2:i<(td b).length
   ·have t2:decide ((i:Int)<((td b).length:Int))=true:=decide_eq_true (by omega)
    (repeat((first|refine step_w1 rfl rfl ?_|refine step_w2 rfl rfl ?_|refine step_oA (by first|omega|decide|(simp only[tl0,dlen,List.length_replicate,List.length_set,List.length_map,List.length_zipWith,List.length_take,List.length_append,List.length_cons,List.length_nil];omega)) ?_|refine step_oN (by first|omega|decide|(simp only[tl0,dlen,List.length_replicate,List.length_set,List.length_map,List.length_zipWith,List.length_take,List.length_append,List.length_cons,List.length_nil];omega)) ?_|refine g_c (by assumption) ?_|refine g_o (op_pickT rfl (ev_ok rfl) (ev_ok rfl)) ?_|refine g_o (op_pickF rfl (ev_ok rfl) (ev_ok rfl)) ?_|refine g_o (op_lenM rfl rfl rfl (ev_ok rfl) (tgt rfl) rfl) ?_|rw[t1]|rw[t2]|rw[e1]|rw[e2]|rw[e3]|rw[e4]|rw[e6]);conv=>whnf))
    exact⟨M+2 - (i+1),renBy [(38,2001)],[0,1,5,6,7],[38],by omega,by kernel_rfl,i+1,_,_,rfl,by omega,hl2,hw2,by omega,by omega,hc2,hstep,rfl,by rw[←hhp];rfl⟩
   ·have t2:decide ((i:Int)<((td b).length:Int))=false:=decide_eq_false (by omega)
    have t3:decide (c>0)=true:=decide_eq_true (by omega)
    (repeat((first|refine step_w1 rfl rfl ?_|refine step_oA (by first|omega|decide|(simp only[tl0,dlen,List.length_replicate,List.length_set,List.length_map,List.length_zipWith,List.length_take,List.length_append,List.length_cons,List.length_nil];omega)) ?_|refine step_oN (by first|omega|decide|(simp only[tl0,dlen,List.length_replicate,List.length_set,List.length_map,List.length_zipWith,List.length_take,List.length_append,List.length_cons,List.length_nil];omega)) ?_|refine g_c (by assumption) ?_|refine g_o (op_pickF rfl (ev_ok rfl) (ev_ok rfl)) ?_|refine g_o (op_lenM rfl rfl rfl (ev_ok rfl) (tgt rfl) rfl) ?_|rw[t1]|rw[t2]|rw[t3]|rw[e1]|rw[e2]|rw[e3]|rw[e4]|rw[e6]);conv=>whnf))
    exact⟨M+2 - (i+1),renBy [(38,2001)],[0,1,5,6,7],[38],by omega,by kernel_rfl,i+1,_,_,rfl,by omega,hl2,hw2,by omega,by omega,hc2,hstep,rfl,by rw[←hhp];rfl⟩
 ·have t1:decide ((i:Int)<((td a).length:Int))=false:=decide_eq_false (by omega)
  have t2:decide ((i:Int)<((td b).length:Int))=false:=decide_eq_false (by omega)
  have t3:decide (c>0)=false:=decide_eq_false (by omega)
  have hc:c=0:=by omega
  subst hc
  rw[td_valN a i (by omega),td_valN b i (by omega)]at hv
  have k1:=r_trim L (by omega) hw
  rw[show(valT L L.length).toNat=a+b by rw[hl];omega]at k1
  refine SWx_frzI 5 2001 (fun _ h=>h) rfl rfl hl.symm ?_
  refine SWx.of hE ?_
  conv=>whnf
  (repeat((first|refine step_w1 rfl rfl ?_|refine step_w2 rfl rfl ?_|refine g_c (by assumption) ?_|refine g_o (op_pickF rfl (ev_ok rfl) (ev_ok rfl)) ?_|refine g_o (op_lenM rfl rfl rfl (ev_ok rfl) (tgt rfl) rfl) ?_|rw[t1]|rw[t2]);conv=>whnf));(first|exact Recast.refl _|exact Frz.recast (Recast.refl _) rfl|(refine Frz.one rfl rfl ?_;skip)|(refine Frz.tup ?_;skip))
theorem sub_lend {P vL va vb c x y D C:Int} (h:vL - c*P=va - vb) (hD:x - y - c=D - 10000*C):vL+D*P - C*(P*10000)=va+x*P - (vb+y*P):=by
 have h2:(x - y - c)*P=(D - 10000*C)*P:=by rw[hD]
 grind
theorem r_Sub (a b:Nat) (hab:b≤a) (ha:(td a).length<1073741824):CallOK Tryz.prog 321 [nN a,nN b] [] (nN (a - b)) [] []:=by
 have wa:=td_w32 a
 have wb:=td_w32 b
 have hlb:=td_len_mono hab
 refine callF (Z:=[]) tabOK mixedOK Tryz.func321 rfl (by kernel_rfl) (by first|rfl|(simp[keylessL,keyless,keylessL_map, *];done)) (by first|rfl|(simp[keylessL,keyless,keylessL_map, *];done)) (by kernel_rfl) rfl ?_
 intro w0 ρ0 hE
 conv=>whnf
 skip
 refine SWx_adopt (t:=5) (k:=2001) (s:=1) (blk:=zblk []) rfl rfl rfl ?_
 refine SW_loopS hE (fun k=>k) [0,1,5,6,7] [2001] (fun m fr hp=>∃(i:Nat) (L:List Int) (c:Int),m=(td a).length - i∧i≤(td a).length∧L.length=i∧W4 L∧0≤c∧c≤1∧valT L i - c*10000^i=valT (td a) i - valT (td b) i∧
  fr=[(0,nN a),(1,nN b),(5,.slc 2001 1 0 i),(6,.val (.int .i64 c)),(7,.val (.int .i64 (i:Nat)))]∧hp=[(2001,zblk L)]) (td a).length ?_ ?_ ?_
 ·kernel_rfl
 ·exact⟨0,[],0,rfl,by omega,rfl,(fun i=>by simp),by omega,by omega,rfl,rfl,rfl⟩
 rintro m _ _ ⟨i,L,c,rfl,hi,hl,hw,hc0,hc1,hv,rfl,rfl⟩
 by_cases hlt:i<(td a).length
 ·have t1:decide ((i:Int)<((td a).length:Int))=true:=decide_eq_true (by omega)
  have k2:=r_at b i (by omega)
  have hx:=wa i
  have hy:=wb i
  generalize hxe:(td a).getD i 0=x at*
  generalize hye:(td b).getD i 0=y at*
  have e1:IntKind.i64.wrap (x - y)=x - y:=wrap_i64 (by omega) (by omega)
  have e2:IntKind.i64.wrap (x - y - c)=x - y - c:=wrap_i64 (by omega) (by omega)
  have e6:=winc (i:=i) (by omega)
  have hst:∀D C,x - y - c=D - 10000*C→valT (L++[D]) (i+1) - C*10000^(i+1)=valT (td a) (i+1) - valT (td b) (i+1):=fun D C hD=>by
   have h1:=valT_snoc L D
   rw[hl]at h1
   rw[h1,valT,valT,Int.pow_succ,hxe,hye]
   exact sub_lend hv hD
  have hl2:∀D:Int,(L++[D]).length=i+1:=fun D=>by rw[List.length_append,hl];rfl
  have hhp:=fun D=>snoc_end (d:=D) hl
  refine SWx.of hE ?_
  conv=>whnf
  by_cases hn:x - y - c<0
  ·have t2:decide (x - y - c<0)=true:=decide_eq_true hn
   have e3:IntKind.i64.wrap (x - y - c+10000)=x - y - c+10000:=wrap_i64 (by omega) (by omega)
   (repeat((first|refine step_w1 rfl rfl ?_|refine step_i (by kernel_rfl) ?_|refine step_oA (by first|omega|decide|(simp only[tl0,dlen,List.length_replicate,List.length_set,List.length_map,List.length_zipWith,List.length_take,List.length_append,List.length_cons,List.length_nil];omega)) ?_|refine g_c (by assumption) ?_|refine g_o (op_lenM rfl rfl rfl (ev_ok rfl) (tgt rfl) rfl) ?_|refine g_o (op_loadA rfl (ev_ok rfl) (tgt rfl) rfl (Nat.succ_ne_zero _) rfl) ?_|refine g_o (op_indexN (α:=Int) (d:=0) rfl (ev_ok rfl) (ev_ok rfl) (tgt rfl) rfl (tgt rfl) rfl (by omega)) ?_|rw[t1]|rw[hxe]|rw[e1]|rw[e2]|rw[t2]|rw[e3]|rw[e6]);conv=>whnf))
   exact⟨(td a).length - (i+1),renBy [(32,2001)],[0,1,5,6,7],[32],by omega,by kernel_rfl,i+1,_,1,rfl,by omega,hl2 _,W4_snoc hw (show 0≤x - y - c+10000 by omega) (by omega),by omega,by omega,hst _ _ (by omega),rfl,by rw[←hhp];rfl⟩
  ·have t2:decide (x - y - c<0)=false:=decide_eq_false hn
   (repeat((first|refine step_w1 rfl rfl ?_|refine step_w2 rfl rfl ?_|refine step_i (by kernel_rfl) ?_|refine step_oA (by first|omega|decide|(simp only[tl0,dlen,List.length_replicate,List.length_set,List.length_map,List.length_zipWith,List.length_take,List.length_append,List.length_cons,List.length_nil];omega)) ?_|refine g_c (by assumption) ?_|refine g_o (op_lenM rfl rfl rfl (ev_ok rfl) (tgt rfl) rfl) ?_|refine g_o (op_loadA rfl (ev_ok rfl) (tgt rfl) rfl (Nat.succ_ne_zero _) rfl) ?_|refine g_o (op_indexN (α:=Int) (d:=0) rfl (ev_ok rfl) (ev_ok rfl) (tgt rfl) rfl (tgt rfl) rfl (by omega)) ?_|rw[t1]|rw[hxe]|rw[e1]|rw[e2]|rw[t2]|rw[e6]);conv=>whnf))
   exact⟨(td a).length - (i+1),renBy [(32,2001)],[0,1,5,6,7],[32],by omega,by kernel_rfl,i+1,_,0,rfl,by omega,hl2 _,W4_snoc hw (show 0≤x - y - c by omega) (by omega),by omega,by omega,hst _ _ (by omega),rfl,by rw[←hhp];rfl⟩
 ·have t1:decide ((i:Int)<((td a).length:Int))=false:=decide_eq_false (by omega)
  rw[td_valN a i (by omega),td_valN b i (by omega)]at hv
  have h1:=valT_lt hw i
  have hc:c=0:=by
   rcases(show c=0∨c=1 by omega)with h|h
   ·exact h
   ·subst h;omega
  subst hc
  have k1:=r_trim L (by omega) hw
  rw[show(valT L L.length).toNat=a - b by rw[hl];omega]at k1
  refine SWx_frzI 5 2001 (fun _ h=>h) rfl rfl hl.symm ?_
  refine SWx.of hE ?_
  conv=>whnf
  (repeat((first|refine step_w2 rfl rfl ?_|refine g_c (by assumption) ?_|refine g_o (op_lenM rfl rfl rfl (ev_ok rfl) (tgt rfl) rfl) ?_|rw[t1]);conv=>whnf));(first|exact Recast.refl _|exact Frz.recast (Recast.refl _) rfl|(refine Frz.one rfl rfl ?_;skip)|(refine Frz.tup ?_;skip))
end Go.Proofs.YtfpagioknjjacaaGreatDoor
namespace Go.Proofs.YtfpagioknjjacaaGreatDoor
open Go.Sx
set_option linter.unusedSimpArgs false
set_option linter.unusedVariables false
set_option maxRecDepth 100000
set_option maxHeartbeats 4000000
theorem mul_carry {V P c x y o D C R:Int} (hV:V+c*P=R) (hD:o+x*y+c=D+10000*C):V+(D - o)*P+C*(P*10000)=R+x*y*P:=by
 have h2:(o+x*y+c)*P=(D+10000*C)*P:=by rw[hD]
 grind
theorem pow_lt_of {i k l:Nat} (h:(10000:Int)^i<10000^k):i<k:=by
 rcases Nat.lt_or_ge i k with g|g
 ·exact g
 ·have:(10000:Nat)^k≤10000^i:=Nat.pow_le_pow_right (by decide) g
  have h2:((10000^k:Nat):Int)≤((10000^i:Nat):Int):=Int.ofNat_le.2 this
  rw[natPowT,natPowT]at h2
  omega
theorem r_Mul (a b:Nat) (ha:(td a).length<536870912) (hb:(td b).length<536870912):CallOK Tryz.prog 245 [nN a,nN b] [] (nN (a*b)) [] []:=by
 have wa:=td_w32 a
 have wb:=td_w32 b
 have ela:IntKind.i64.wrap (((td a).length:Int)+((td b).length:Int))=(((td a).length+(td b).length:Nat):Int):=by rw[wrap_i64 (by omega) (by omega)];omega
 refine callF (Z:=[]) tabOK mixedOK Tryz.func245 rfl (by kernel_rfl) (by first|rfl|(simp[keylessL,keyless,keylessL_map, *];done)) (by first|rfl|(simp[keylessL,keyless,keylessL_map, *];done)) (by kernel_rfl) rfl ?_
 intro w0 ρ0 hE
 conv=>whnf
 (repeat((first|refine step_oA (by first|omega|decide|(simp only[tl0,dlen,List.length_replicate,List.length_set,List.length_map,List.length_zipWith,List.length_take,List.length_append,List.length_cons,List.length_nil];omega)) ?_|refine g_o (op_lenM rfl rfl rfl (ev_ok rfl) (tgt rfl) rfl) ?_|rw[ela]|rw[Int.toNat_natCast]);conv=>whnf))
 generalize hla:(td a).length=la at*
 generalize hlb:(td b).length=lb at*
 refine SW_loopS hE (fun k=>k) [0,1,5,6] [15] (fun m fr hp=>∃(i:Nat) (out:List Int),m=la - i∧i≤la∧out.length=la+lb∧W4 out∧valT out (la+lb)=valT (td a) i*b∧
  fr=[(0,nN a),(1,nN b),(5,.slc 15 1 0 (la+lb)),(6,.val (.int .i64 (i:Nat)))]∧hp=[(15,zblk out)]) la ?_ ?_ ?_
 ·kernel_rfl
 ·refine⟨0,List.replicate (la+lb) 0,rfl,Nat.zero_le _,List.length_replicate,W4_of (fun x hx=>by rw[(List.mem_replicate.1 hx).2];omega), ?_,rfl,rfl⟩
  rw[valT_zeros (k:=0) (fun i _ _=>getD_replicate) (Nat.zero_le _)];simp[valT]
 rintro m _ _ ⟨i,out,rfl,hi,hol,how,hov,rfl,rfl⟩
 by_cases hlt:i<la
 ·have t1:decide ((i:Int)<(la:Int))=true:=decide_eq_true (by omega)
  have e9:=winc (i:=i) (by omega)
  have hx:=wa i
  have hbnd:valT (td a) (i+1)*b<10000^(i+1+lb):=by
   have h1:=valT_lt wa (i+1)
   have h2:(b:Int)<10000^lb:=by rw[←natPowT];exact Int.ofNat_lt.2 (td_lt_pow (by omega))
   have h3:=valT_nonneg wa (i+1)
   have h4:valT (td a) (i+1)*b≤valT (td a) (i+1)*10000^lb:=Int.mul_le_mul_of_nonneg_left (by omega) h3
   have h5:valT (td a) (i+1)*10000^lb<10000^(i+1)*10000^lb:=Int.mul_lt_mul_of_pos_right h1 (powT_pos lb)
   rw[Int.pow_add];omega
  have hva1:valT (td a) (i+1)=valT (td a) i+(td a).getD i 0*10000^i:=rfl
  have hila:i<(td a).length:=by omega
  generalize hxe:(td a).getD i 0=x at*
  refine SWx.of hE ?_
  conv=>whnf
  (repeat((first|refine step_w1 rfl rfl ?_|refine g_o (op_lenM rfl rfl rfl (ev_ok rfl) (tgt rfl) rfl) ?_|rw[hla]|rw[t1]);conv=>whnf))
  refine SW_loopN hE (fun k=>k) [0,1,5,6,7,8] [15] (fun m fr hp=>∃(k:Nat) (out:List Int) (c:Int),m=lb+2 - k∧k≤lb+1∧out.length=la+lb∧W4 out∧0≤c∧c≤9999∧valT out (la+lb)+c*10000^(i+k)=valT (td a) i*b+x*valT (td b) k*10000^i∧
   fr=[(0,nN a),(1,nN b),(5,.slc 15 1 0 (la+lb)),(6,.val (.int .i64 (i:Nat))),(7,.val (.int .i64 c)),(8,.val (.int .i64 (k:Nat)))]∧hp=[(15,zblk out)]) (lb+2) ?_ ?_ ?_
  ·kernel_rfl
  ·exact⟨0,out,0,rfl,by omega,hol,how,by omega,by omega,by rw[hov];simp[valT],rfl,rfl⟩
  clear hov how hol out
  rintro m _ _ ⟨k,out,c,rfl,hk,hol,how,hc0,hc1,hov,rfl,rfl⟩
  have hend:lb≤k→valT out (la+lb)+c*10000^(i+k)=valT (td a) (i+1)*b:=fun h=>by
   rw[hov,td_valN b k (by omega),hva1];grind
  have hck:0<c→k≤lb:=fun h=>by
   rcases Nat.lt_or_ge lb k with g|g
   ·have h1:=hend (by omega)
    have h2:=valT_nonneg how (la+lb)
    have h3:1*(10000:Int)^(i+k)≤c*10000^(i+k):=Int.mul_le_mul_of_nonneg_right (by omega) (Int.le_of_lt (powT_pos _))
    have h4:(10000:Int)^(i+k)<10000^(i+1+lb):=by omega
    have:=pow_lt_of (l:=0) h4
    omega
   ·exact g
  by_cases hgo:k<lb∨0<c
  ·have hkb:k≤lb:=by
    rcases hgo with h|h
    ·omega
    ·exact hck h
   have hik:i+k<out.length:=by omega
   have k2:=r_at b k (by omega)
   have hy:=wb k
   have ho:=how (i+k)
   generalize hye:(td b).getD k 0=y at*
   generalize hoe:out.getD (i+k) 0=o at*
   have hxy:0≤x*y:=Int.mul_nonneg hx.1 hy.1
   have hxy2:x*y≤9999*9999:=by
    have h1:x*y≤9999*y:=Int.mul_le_mul_of_nonneg_right (by omega) hy.1
    omega
   have e1:IntKind.i64.wrap ((i:Int)+(k:Int))=((i+k:Nat):Int):=by rw[wrap_i64 (by omega) (by omega)];omega
   have e2:IntKind.i64.wrap (x*y)=x*y:=wrap_i64 (by omega) (by omega)
   have e3:IntKind.i64.wrap (o+x*y)=o+x*y:=wrap_i64 (by omega) (by omega)
   have e4:IntKind.i64.wrap (o+x*y+c)=o+x*y+c:=wrap_i64 (by omega) (by omega)
   have e5:(o+x*y+c).tmod 10000=(o+x*y+c) % 10000:=Int.tmod_eq_emod_of_nonneg (by omega)
   have e6:IntKind.i64.wrap ((o+x*y+c).tdiv 10000)=(o+x*y+c)/10000:=by rw[Int.tdiv_eq_ediv_of_nonneg (by omega)];exact wrap_i64 (by omega) (by omega)
   have e7:(o+x*y+c).tdiv 10000=(o+x*y+c)/10000:=Int.tdiv_eq_ediv_of_nonneg (by omega)
   have e8:=winc (i:=k) (by omega)
   have hD:o+x*y+c=(o+x*y+c) % 10000+10000*((o+x*y+c)/10000):=(Int.emod_add_mul_ediv _ _).symm
   have hC0:0≤(o+x*y+c)/10000:=by omega
   have hC1:(o+x*y+c)/10000≤9999:=by omega
   have hD0:0≤(o+x*y+c) % 10000:=by omega
   have hD1:(o+x*y+c) % 10000<10000:=by omega
   have hnew:valT (out.set (i+k) ((o+x*y+c) % 10000)) (la+lb)+(o+x*y+c)/10000*10000^(i+(k+1))=valT (td a) i*b+x*valT (td b) (k+1)*10000^i:=by
    rw[valT_set (by omega) hik,hoe,show i+(k+1)=i+k+1 from rfl,Int.pow_succ,valT,hye]
    have:=mul_carry hov hD
    have e:x*(valT (td b) k+y*10000^k)*10000^i=x*valT (td b) k*10000^i+x*y*10000^(i+k):=by rw[Int.pow_add];grind
    rw[e];omega
   have hl2:(out.set (i+k) ((o+x*y+c) % 10000)).length=la+lb:=by rw[List.length_set];exact hol
   have hw2:=how.set (i:=i+k) hD0 hD1
   clear hend hck hov hxy hxy2 hD
   conv=>whnf
   by_cases g1:k<lb
   ·have t2:decide ((k:Int)<(lb:Int))=true:=decide_eq_true (by omega)
    (repeat((first|refine step_w1 rfl rfl ?_|refine step_w2 rfl rfl ?_|refine step_i (by kernel_rfl) ?_|refine step_oL (by first|omega|decide|(simp only[tl0,dlen,List.length_replicate,List.length_set,List.length_map,List.length_zipWith,List.length_take,List.length_append,List.length_cons,List.length_nil];omega)) ?_|refine step_oA (by first|omega|decide|(simp only[tl0,dlen,List.length_replicate,List.length_set,List.length_map,List.length_zipWith,List.length_take,List.length_append,List.length_cons,List.length_nil];omega)) ?_|refine step_oN (by first|omega|decide|(simp only[tl0,dlen,List.length_replicate,List.length_set,List.length_map,List.length_zipWith,List.length_take,List.length_append,List.length_cons,List.length_nil];omega)) ?_|refine g_c (by assumption) ?_|refine g_o (op_pickT rfl (ev_ok rfl) (ev_ok rfl)) ?_|refine g_o (op_lenM rfl rfl rfl (ev_ok rfl) (tgt rfl) rfl) ?_|refine g_o (op_loadA rfl (ev_ok rfl) (tgt rfl) rfl (Nat.succ_ne_zero _) rfl) ?_|refine g_o (op_indexN (α:=Int) (d:=0) rfl (ev_ok rfl) (ev_ok rfl) (tgt rfl) rfl (tgt rfl) rfl (by omega)) ?_|rw[hlb]|rw[t2]|rw[hxe]|rw[e1]|rw[hoe]|rw[e2]|rw[e3]|rw[e4]|rw[e5]|rw[e6]|rw[e8]|rw[Int.toNat_natCast]|rw[Nat.zero_add]);conv=>whnf))
    exact⟨lb+2 - (k+1),fun k=>k,[0,1,5,6,7,8],[15],by omega,by kernel_rfl,k+1,_,_,rfl,by omega,hl2,hw2,hC0,hC1,hnew,rfl,rfl⟩
   ·have t2:decide ((k:Int)<(lb:Int))=false:=decide_eq_false (by omega)
    have t3:decide (c>0)=true:=decide_eq_true (by omega)
    (repeat((first|refine step_w1 rfl rfl ?_|refine step_i (by kernel_rfl) ?_|refine step_oL (by first|omega|decide|(simp only[tl0,dlen,List.length_replicate,List.length_set,List.length_map,List.length_zipWith,List.length_take,List.length_append,List.length_cons,List.length_nil];omega)) ?_|refine step_oA (by first|omega|decide|(simp only[tl0,dlen,List.length_replicate,List.length_set,List.length_map,List.length_zipWith,List.length_take,List.length_append,List.length_cons,List.length_nil];omega)) ?_|refine step_oN (by first|omega|decide|(simp only[tl0,dlen,List.length_replicate,List.length_set,List.length_map,List.length_zipWith,List.length_take,List.length_append,List.length_cons,List.length_nil];omega)) ?_|refine g_c (by assumption) ?_|refine g_o (op_pickF rfl (ev_ok rfl) (ev_ok rfl)) ?_|refine g_o (op_lenM rfl rfl rfl (ev_ok rfl) (tgt rfl) rfl) ?_|refine g_o (op_loadA rfl (ev_ok rfl) (tgt rfl) rfl (Nat.succ_ne_zero _) rfl) ?_|refine g_o (op_indexN (α:=Int) (d:=0) rfl (ev_ok rfl) (ev_ok rfl) (tgt rfl) rfl (tgt rfl) rfl (by omega)) ?_|rw[hlb]|rw[t2]|rw[t3]|rw[hxe]|rw[e1]|rw[hoe]|rw[e2]|rw[e3]|rw[e4]|rw[e5]|rw[e6]|rw[e8]|rw[Int.toNat_natCast]|rw[Nat.zero_add]);conv=>whnf))
    exact⟨lb+2 - (k+1),fun k=>k,[0,1,5,6,7,8],[15],by omega,by kernel_rfl,k+1,_,_,rfl,by omega,hl2,hw2,hC0,hC1,hnew,rfl,rfl⟩
  ·have t2:decide ((k:Int)<(lb:Int))=false:=decide_eq_false (by omega)
   have t3:decide (c>0)=false:=decide_eq_false (by omega)
   have hc:c=0:=by omega
   have hv:=hend (by omega)
   rw[hc,Int.zero_mul,Int.add_zero]at hv
   conv=>whnf
   (repeat((first|refine step_w1 rfl rfl ?_|refine step_w2 rfl rfl ?_|refine g_o (op_pickF rfl (ev_ok rfl) (ev_ok rfl)) ?_|refine g_o (op_lenM rfl rfl rfl (ev_ok rfl) (tgt rfl) rfl) ?_|rw[hlb]|rw[t2]|rw[t3]|rw[e9]);conv=>whnf))
   exact⟨la - (i+1),fun k=>k,[0,1,5,6],[15],by omega,by kernel_rfl,i+1,out,rfl,by omega,hol,how,hv,rfl,rfl⟩
 ·have t1:decide ((i:Int)<(la:Int))=false:=decide_eq_false (by omega)
  have hI:i=la:=by omega
  subst hI
  rw[td_valN a i (by omega)]at hov
  have k1:=r_trim out (by omega) how
  rw[show(valT out out.length).toNat=a*b by rw[hol,hov,←Int.natCast_mul];exact Int.toNat_natCast _]at k1
  refine SWx_frzI 5 15 (fun _ h=>h) rfl rfl hol.symm ?_
  refine SWx.of hE ?_
  conv=>whnf
  (repeat((first|refine step_w2 rfl rfl ?_|refine g_c (by assumption) ?_|refine g_o (op_lenM rfl rfl rfl (ev_ok rfl) (tgt rfl) rfl) ?_|rw[hla]|rw[t1]);conv=>whnf));(first|exact Recast.refl _|exact Frz.recast (Recast.refl _) rfl|(refine Frz.one rfl rfl ?_;skip)|(refine Frz.tup ?_;skip))
end Go.Proofs.YtfpagioknjjacaaGreatDoor
namespace Go.Proofs.YtfpagioknjjacaaGreatDoor
open Go.Sx
set_option linter.unusedSimpArgs false
set_option linter.unusedVariables false
set_option maxRecDepth 100000
set_option maxHeartbeats 4000000
theorem run_firstV {P:Program} {ρ:Rho} {w:World} {s n:Nat} {vs:List SV} {d:Sx.Data} {v:Value} (hv:Has ρ (vecA s vs) v) (himm:∀b o,ρ.imm b=some o→w.heap[b]? =some o)
  (hr:∀z,HasZ (bareR ρ.imm ρ.glob) vs z→(∀x∈vs,x.width=s)→Go.Sx.Rows ρ s d z) (hn:n=vs.length):
  ∃z,Go.Sx.Rows ρ s d z∧(∀w',(∀b,b<w.heap.size→w'.heap[b]? =w.heap[b]?)→(Builtin.firstCells s n v).run P w'= .ok (((z.drop 0).take n).flatten).toArray w')∧Builtin.lenOf v=Pure.pure n:=by
 subst hn
 rcases has_vec hv with⟨rfl,a,rfl⟩|⟨b,cap,z,pre,ex,ty,fz,h1,h2,h3,h4,h5,h6⟩
 ·refine⟨[],hr [] (by simp only[HasZ]) (fun x hx=>by cases hx),fun w' _=> ?_,rfl⟩
  cases a with
  |none=>simp[Builtin.firstCells]
  |some a=>simp[Builtin.firstCells,loadCells,loadCellsFrom]
 ·have hzr:=hr z h2 h3
  obtain⟨zl,zw⟩:=hzr.len
  have hzl:z.length=vs.length:=HasZ_length h2
  subst h6
  refine⟨z,hzr,fun w' hw'=> ?_,rfl⟩
  have hh0:=himm _ _ h1
  have hblt:b<w.heap.size:=by
   rcases Nat.lt_or_ge b w.heap.size with h'|h'
   ·exact h'
   ·simp[Array.getElem?_eq_none h']at hh0
  have hh:w'.heap[b]? =some (.cells (pre++(z.flatten++ex)).toArray ty fz):=by rw[hw' b hblt];exact hh0
  have e0:(z.drop 0).take vs.length=z:=by rw[List.drop_zero,List.take_of_length_le (by omega)]
  rw[e0]
  have hlen:z.flatten.length=vs.length*s:=by rw[flatten_len (s:=s) _ zw,hzl]
  refine run_firstCells_some (P:=P) w' s vs.length _ vs.length cap _ hlen ?_
  intro j u hj
  have hadd:(⟨b,pre.length,none⟩:Addr).add j=⟨b,pre.length+j,none⟩:=by unfold Addr.add;split<;>simp_all
  rw[hadd,cell_of_row w' b (pre.length+j) _ ty fz hh]
  have hlt:j<z.flatten.length:=(List.getElem?_eq_some_iff.1 hj).1
  simp only[List.getElem?_toArray]
  rw[List.getElem?_append_right (by omega),Nat.add_sub_cancel_left,List.getElem?_append_left hlt]
  exact hj
theorem HasZ_intsU {ρ:Rho} {kd:IntKind}:∀(xs:List Int) (z:List (List Value)),HasZ ρ (xs.map (iel kd)) z→z=xs.map fun x=>[.int kd x]
 |[],z,h=>by simpa only[List.map_nil,HasZ]using h
 |x::xs,z,h=>by
  simp only[List.map_cons,HasZ]at h
  obtain⟨y,r,rfl,h1,h2⟩:=h
  rw[HasZ_intsU xs r h2]
  simp only[iel,HasC]at h1
  rw[h1.1,List.map_cons]
theorem rows_ints {kd:IntKind} (xs:List Int):∀(ρ:Rho) z,HasZ (bareR ρ.imm ρ.glob) (xs.map (iel kd)) z→(∀x∈xs.map (iel kd),x.width=1)→Go.Sx.Rows ρ 1 (.ints kd xs) z:=
 fun ρ z h _=>⟨rfl,HasZ_intsU xs z h⟩
theorem op_appendV {P:Program} {o:Oper} {fr:List (Nat×SV)} {fk:List (Nat×Blk)} {t t2 e:TypeId} {x y:Operand} {xs:Array Operand} {ts:Array TypeId} {ti t0 te:TI} {k kn n m:Nat} {d d' d2:Sx.Data} {vs:List SV} (ho:o.op= .call ⟨.builtin .append,xs,ts⟩) (hxs:xs= #[x,y]) (hts:ts= #[t,t2])
  (hx:EvOK fr x (.slc k te.size 0 n)) (hy:EvOK fr y (vecA te.size vs)) (hr2:∀(ρ:Rho) z,HasZ (bareR ρ.imm ρ.glob) vs z→(∀x∈vs,x.width=te.size)→Go.Sx.Rows ρ te.size d2 z) (ht:TOK P t ti) (hk:ti.kind= .slc e) (ht2:TOK P t2 t0) (hk2:t0.kind= .slc e) (he:TOK P e te)
  (hf:(k,⟨e,true,d⟩)∈fk) (hl:d.live=true) (hw:dwidth d=some te.size)
  (hn:n≤dlen d) (hmv:m=vs.length) (hm:0+m≤dlen d2) (hd:dapp d n d2 0 m=some d') (hbytes:(n+m)*te.bytes≤140737488355328) (h63:n+m≤9223372036854775807):
  OpOK P o fr fk (.slc kn te.size 0 (n+m)) [(kn,⟨e,true,d'⟩)] [(k,⟨e,true,.dead⟩)]:=
 ok_value fun ρ a w hp=>by
  have hvx:=hx ρ a hp.hft
  have hvy:=hy ρ a hp.hft
  obtain⟨i,zv,i1,i2',i3,i4,i5,i6,i7,_⟩:=he.info
  have hu:=ht.kind;rw[hk]at hu
  have hu2:=ht2.kind;rw[hk2]at hu2
  obtain⟨z,hz,hzc⟩:=blk_rows (hp.hfk k _ hf) hl hw
  obtain⟨z2,hz2,hrun2,hlen2⟩:=run_firstV (P:=P) (d:=d2) hvy hp.imm (hr2 ρ) hmv
  obtain⟨zl,zw⟩:=hz.len
  obtain⟨zl2,zw2⟩:=hz2.len
  have hrows:=(dapp_rows hd hz hz2).1
  have hfresh:=hp.fresh kn _ (List.mem_cons_self ..)
  simp only at zl
  have hsegw:∀u∈(z2.drop 0).take m,u.length=te.size:=fun u hu=>zw2 u (List.mem_of_mem_drop (List.mem_of_mem_take hu))
  have hsegl:((z2.drop 0).take m).length=m:=by rw[List.length_take,List.length_drop];omega
  have hnews:(((z2.drop 0).take m).flatten).length=m*te.size:=by rw[flatten_len _ hsegw,hsegl]
  have hnone:∀u∈(((z2.drop 0).take m).flatten),u.oneCell'=true:=fun u hu=>by
   obtain⟨q,hq,hu⟩:=List.mem_flatten.1 hu
   exact hz2.one' q (List.mem_of_mem_drop (List.mem_of_mem_take hq)) u hu
  have hcall:∀v w',(Builtin.append_ ts o.type #[a.eval x,a.eval y]).run P w= .ok v w'→(execOp a.eval o).run P w= .ok (.value v) w':=by
   intro v w' h
   simp only[execOp,ho,resolve,invoke,builtin,hxs,Sem.run_bind,Sem.run_pure,Result.andThen_ok,List.map_toArray,List.map_cons,List.map_nil]
   rw[h]
   rfl
  have zone:∀v∈zv.cells.toList,v.oneCell'=true:=by
   have h1:=(HasZ.len (ρ:=ρ) te.zero _ (zero_has i6)).2
   rw[i5,List.flatMap_def];exact h1
  have h63':¬((n+m:Nat):Int)>IntKind.i64.max:=by
   have:IntKind.i64.max=9223372036854775807:=by decide
   omega
  have grow:∀(base:Option Addr) (cap:Nat),a.eval x= .slice base n cap→cap<n+m→(∀w',(∀b,b<w.heap.size→w'.heap[b]? =w.heap[b]?)→(Builtin.firstCells te.size n (.slice base n cap)).run P w'= .ok ((z.take n).flatten).toArray w')→
    ∃v w' ρ',(execOp a.eval o).run P w= .ok (.value v) w'∧Post ρ w (.slc kn te.size 0 (n+m)) [(kn,⟨e,true,d'⟩)] [(k,⟨e,true,.dead⟩)] v ρ' w':=by
   intro base cap hbx hcap hfirst
   have hfit:¬Builtin.nextslicecap (n+m) cap*i.bytes>2^48:=by
    have:=growslice_fits (bytes:=te.bytes) hcap hbytes
    rw[i3];simpa using this
   have hgc:n+m≤grownCap w (n+m) cap e:=by
    simp only[grownCap,Question.cut]
    omega
   have hpost:=post_row (hL:=hrows.notLoop) (ρ:=ρ) (w:=w.drew) (k:=kn) (s:=te.size) (n:=n+m) (cap:=grownCap w (n+m) cap e) (ty:=e) (d:=d') (vs:=(z.take n++(z2.drop 0).take m).flatten) (ex:=(Builtin.zeroCells zv.cells (grownCap w (n+m) cap e - (n+m))).toList) hfresh hrows.data hgc
    (by
     have h1:((z.take n++(z2.drop 0).take m).flatten).length=(n+m)*te.size:=by
      rw[flatten_len (s:=te.size) _ (fun u hu=>(List.mem_append.1 hu).elim (fun h=>zw u (List.mem_of_mem_take h)) (hsegw u)),List.length_append,hsegl,List.length_take]
      congr 1
      omega
     rw[List.length_append,h1,Array.length_toList]
     have h2:(Builtin.zeroCells zv.cells (grownCap w (n+m) cap e - (n+m))).size=(grownCap w (n+m) cap e - (n+m))*te.size:=by simp[Builtin.zeroCells,i7]
     rw[h2,←Nat.add_mul,show n+m+(grownCap w (n+m) cap e - (n+m))=grownCap w (n+m) cap e from by omega]
     exact Nat.le_refl _) (zeroCells_one zone _)
   refine⟨_,_,_,hcall _ _ ?_,{hpost with
    pres:=⟨hpost.pres.os,hpost.pres.tape,hpost.pres.output,hpost.pres.size,fun b hb hn=>hpost.pres.block b hb (fun hh=>by obtain⟨_,_,_,hh,_⟩:=hh;cases hh)⟩
    blk:=fun j b hj=>by
     rcases hj with hj|hj
     ·simp only[List.mem_singleton,Prod.mk.injEq]at hj
      obtain⟨rfl,rfl⟩:=hj
      exact .inl rfl
     ·exact hpost.blk j b (.inr hj)
    once:=fun j b b' h1 h2 h3 h4=>by
     simp only[List.mem_singleton,Prod.mk.injEq]at h1 h2
     rw[h2.2]at h4
     cases h4
    newb:=fun j b q hj hq=>.inl ((hpost.newb j b q hj hq).elim id (fun hh=>by obtain⟨_,_,_,hh,_⟩:=hh;cases hh))}⟩
   have hz0:(if false=true then(Pure.pure 0:Sem Nat)else Builtin.lenOf (a.eval y)).run P w= .ok m w:=by rw[hlen2];rfl
   have hcap':¬n+m≤cap:=by omega
   have hnb:(w.drew).heap=w.heap:=rfl
   have hr1:=hfirst w.drew (fun b _=>rfl)
   have hr2:=hrun2 w.drew (fun b _=>rfl)
   simp only[Builtin.append_,hts,hbx,List.getElem?_toArray,List.getElem?_cons_zero,List.getElem?_cons_succ,Sem.run_bind,run_underlying hu,run_underlying hu2,Result.andThen_ok,he.sizeOf,Sem.run_pure,Bool.false_eq_true,if_false,hlen2]
   have hti:∀w',(typeInfo e).run P w'= .ok i w':=fun w'=>by simp[typeInfo,i1]
   have hzv:∀w',(Go.zeroValue e).run P w'= .ok zv w':=fun w'=>by simp[Go.zeroValue,typeInfo,i1,i4]
   have hcond:¬(((n+m:Nat):Int)>IntKind.i64.max∧(False∨i.bytes=0)):=fun h=>h63' h.1
   have hforced:(Question.appendCap (n+m) cap e).forced=false:=rfl
   simp only[hcap',if_false,Sem.run_bind,hti,Result.andThen_ok,hcond,hfit,run_choose,hforced,Bool.false_eq_true,World.drew_eq,run_askRoom,hr1,Bool.not_false,if_true,hr2,hzv,newRow,run_newObj,Sem.run_pure,World.alloc_eq]
   have harr:((z.take n).flatten.toArray++((z2.drop 0).take m).flatten.toArray++Builtin.zeroCells zv.cells (grownCap w (n+m) cap e - (n+m)))=((z.take n++(z2.drop 0).take m).flatten++(Builtin.zeroCells zv.cells (grownCap w (n+m) cap e - (n+m))).toList).toArray:=by
    apply Array.ext'
    simp
   show Result.ok (Value.slice (some ⟨w.drew.heap.size,0,none⟩) (n+m) (grownCap w (n+m) cap e)) (w.drew.alloc (.cells ((z.take n).flatten.toArray++((z2.drop 0).take m).flatten.toArray++Builtin.zeroCells zv.cells (grownCap w (n+m) cap e - (n+m))) e))=_
   rw[harr]
  rcases has_slc hvx with⟨b,tt,cap,e1,e2,e3,e4⟩|⟨rfl,ad,e4⟩
  ·rcases hzc with⟨b',tt',ex,c1,c2,c3,c4⟩|⟨c1,_⟩
   ·rw[e1]at c1
    cases c1
    simp only at c2
    rcases Nat.lt_or_ge cap (n+m)with hlt|hge
    ·refine grow _ cap e4 hlt ?_
     obtain⟨z3,hz3,hrun3,_⟩:=run_first (P:=P) hvx (hp.hfk k _ hf) hl hw (by simpa using hn)
     intro w' hw'
     have h0:=run_firstCells_some (P:=P) w' te.size n ⟨b,0*te.size,none⟩ n cap ((z.take n).flatten) (by
      rw[flatten_len (s:=te.size) _ (fun u hu=>zw u (List.mem_of_mem_take hu)),List.length_take];congr 1;omega) (by
      intro j u hj
      have hblt:b<w.heap.size:=by
       rcases Nat.lt_or_ge b w.heap.size with h'|h'
       ·exact h'
       ·simp[Array.getElem?_eq_none h']at c2
      have hh:w'.heap[b]? =some (.cells (z.flatten++ex).toArray e (0,0)):=by rw[hw' b hblt];exact c2
      have hadd:(⟨b,0*te.size,none⟩:Addr).add j=⟨b,j,none⟩:=addr_add0 b te.size j
      rw[hadd,cell_of_row w' b j _ e (0,0) hh]
      rw[flatten_take (s:=te.size) _ _ zw]at hj
      have h6:z.flatten[j]? =some u:=by
       rw[List.getElem?_take]at hj
       split at hj
       ·exact hj
       ·cases hj
      have hlt2:j<z.flatten.length:=(List.getElem?_eq_some_iff.1 h6).1
      simp only[List.getElem?_toArray]
      rw[List.getElem?_append_left hlt2]
      exact h6)
     exact h0
    ·-- in place
     have hblt:b<w.heap.size:=by
      rcases Nat.lt_or_ge b w.heap.size with h'|h'
      ·exact h'
      ·simp[Array.getElem?_eq_none h']at c2
     have hr2:=hrun2 w (fun b _=>rfl)
     have hfitc:0*te.size+n*te.size+(((z2.drop 0).take m).flatten).length≤(z.flatten++ex).length:=by
      rw[hnews,c3,Nat.zero_mul,Nat.zero_add,←Nat.add_mul]
      exact Nat.le_trans (Nat.mul_le_mul_right _ hge) (by simpa using e3)
     have hsc:=run_storeCells_at (P:=P) b (n*te.size) e (((z2.drop 0).take m).flatten) 0 (z.flatten++ex).toArray w c2 (by simp only[List.size_toArray];simpa using hfitc) hnone
     have hadd:(⟨b,0*te.size,none⟩:Addr).add (n*te.size)=⟨b,n*te.size,none⟩:=addr_add0 b te.size _
     have hcells:((z.flatten++ex).take (n*te.size+0)++(((z2.drop 0).take m).flatten)++(z.flatten++ex).drop (n*te.size+0+(((z2.drop 0).take m).flatten).length))=
       (z.take n++(z2.drop 0).take m).flatten++(z.flatten++ex).drop (n*te.size+m*te.size):=by
      rw[Nat.add_zero,hnews,List.flatten_append,flatten_take (s:=te.size) _ _ zw,List.take_append_of_le_length (by rw[flatten_len (s:=te.size) _ zw];exact Nat.mul_le_mul_right _ (by omega))]
     rw[hcells]at hsc
     let ρ':Rho:=⟨fun j=>if j=kn then some (b,tt)else ρ.key j,ρ.imm,ρ.glob⟩
     have hle:ρ.Le ρ':=⟨fun j q hq=>by
      show(if j=kn then _ else _)=_
      by_cases hj:j=kn
      ·subst hj;rw[hfresh]at hq;cases hq
      ·rw[if_neg hj];exact hq,fun b o hb=>hb⟩
     refine⟨.slice (some ⟨b,0*te.size,none⟩) (n+m) cap,w.setRow b ((z.take n++(z2.drop 0).take m).flatten++(z.flatten++ex).drop (n*te.size+m*te.size)).toArray,ρ',hcall _ _ ?_, ?_⟩
     ·simp only[Builtin.append_,hts,e4,List.getElem?_toArray,List.getElem?_cons_zero,List.getElem?_cons_succ,Sem.run_bind,run_underlying hu,run_underlying hu2,Result.andThen_ok,he.sizeOf,Sem.run_pure,Bool.false_eq_true,if_false,hlen2,hge,if_true,Bool.not_false,hr2,hadd,hsc]
     ·refine⟨hle,slc_has (.inl ⟨b,tt,cap, ?_,hge,e3,rfl⟩), ?_,⟨rfl,rfl,rfl,by simp[World.setRow], ?_⟩, ?_, ?_, ?_, ?_,fun b o hb=>.inl hb⟩
      ·show(if kn=kn then _ else _)=_
       rw[if_pos rfl]
      ·intro j hj
       show(if j=kn then _ else _)=_
       rw[if_neg]
       rintro rfl
       exact hj _ (List.mem_cons_self ..)
      ·intro q hq hnq
       refine heap_setRow_other fun hqb=>hnq ⟨k,_,tt,List.mem_cons_self .., ?_⟩
       rw[hqb];exact e1
      ·intro j bj hj
       rcases hj with hj|hj
       ·simp only[List.mem_singleton,Prod.mk.injEq]at hj
        obtain⟨rfl,rfl⟩:=hj
        exact .inl rfl
       ·simp only[List.mem_singleton,Prod.mk.injEq]at hj
        obtain⟨rfl,rfl⟩:=hj
        refine .inr (.inl ⟨b,tt,_,(z.flatten++ex).drop (n*te.size+m*te.size), ?_,by rw[Data.obj_cells hrows.notLoop];exact heap_setRow_same c2,hrows.data.mono hle, ?_, ?_⟩)
        ·show(if j=j then _ else _)=_
         rw[if_pos rfl]
        ·have h1:((z.take n++(z2.drop 0).take m).flatten).length=(n+m)*te.size:=by
          rw[flatten_len (s:=te.size) _ (fun u hu=>(List.mem_append.1 hu).elim (fun h=>zw u (List.mem_of_mem_take h)) (hsegw u)),List.length_append,hsegl,List.length_take]
          congr 1
          omega
         rw[List.length_append,h1,List.length_drop,c3,Nat.add_mul]
         rw[hnews,c3]at hfitc
         omega
        ·intro u hu
         have:=List.mem_of_mem_drop hu
         rcases List.mem_append.1 this with h|h
         ·obtain⟨q,hq,hu'⟩:=List.mem_flatten.1 h
          exact hz.one' q hq u hu'
         ·exact c4 u h
      ·intro j c c' h1 h2 h3 h4
       simp only[List.mem_singleton,Prod.mk.injEq]at h1 h2
       rw[h2.2]at h4
       cases h4
      ·intro j bj q hj hq
       simp only[List.mem_singleton,Prod.mk.injEq]at hj
       obtain⟨rfl,rfl⟩:=hj
       have hq':(if j=j then some (b,tt)else ρ.key j)=some q:=hq
       rw[if_pos rfl]at hq'
       cases hq'
       exact .inr ⟨k,_,tt,List.mem_cons_self ..,rfl,e1⟩
      ·intro j bj j' bj' q q' hj hj' hne
       simp only[List.mem_singleton,Prod.mk.injEq]at hj hj'
       exact absurd (hj.1.trans hj'.1.symm) hne
   ·rw[e1]at c1;cases c1
  ·rcases Nat.eq_zero_or_pos m with rfl|hm0
   ·-- nothing onto nothing
    have hr2:=hrun2 w (fun b _=>rfl)
    refine⟨.slice ad 0 0,w,ρ,hcall _ _ ?_, ?_⟩
    ·have hst:∀q:Addr,(storeCells q ([]:List Value)).run P w= .ok () w:=fun q=>rfl
     have hseg0:((z2.drop 0).take 0).flatten=[]:=by simp
     rw[hseg0]at hr2
     cases ad<;>simp only[Builtin.append_,hts,e4,List.getElem?_toArray,List.getElem?_cons_zero,List.getElem?_cons_succ,Sem.run_bind,run_underlying hu,run_underlying hu2,Result.andThen_ok,he.sizeOf,Sem.run_pure,Bool.false_eq_true,if_false,hlen2,Nat.add_zero,Nat.le_refl,if_true,Bool.not_false,hr2,hst]
    ·have hemp:d'.empty∨True:=.inr trivial
     have hd0:d'.empty:=by
      unfold dapp at hd
      split at hd
      ·split at hd
       ·simp only[Option.some.injEq]at hd;subst hd;simp[Data.empty]
       ·simp at hd
      ·simp only[Option.some.injEq]at hd;subst hd;simp[Data.empty]
      ·split at hd
       ·simp only[Option.some.injEq]at hd;subst hd;simp[Data.empty]
       ·simp at hd
      ·simp at hd
     refine⟨.refl ρ,slc_has (.inr ⟨rfl,ad,rfl⟩),fun _ _=>rfl,.refl _ _, ?_, ?_, ?_, ?_,fun b o hb=>.inl hb⟩
     ·intro j bj hj
      rcases hj with hj|hj
      ·simp only[List.mem_singleton,Prod.mk.injEq]at hj
       obtain⟨rfl,rfl⟩:=hj
       exact .inl rfl
      ·simp only[List.mem_singleton,Prod.mk.injEq]at hj
       obtain⟨rfl,rfl⟩:=hj
       exact .inr (.inr ⟨hfresh,hd0⟩)
     ·intro j c c' h1 h2 h3 h4
      simp only[List.mem_singleton,Prod.mk.injEq]at h1 h2
      rw[h2.2]at h4
      cases h4
     ·intro j bj q hj hq
      simp only[List.mem_singleton,Prod.mk.injEq]at hj
      obtain⟨rfl,rfl⟩:=hj
      rw[hfresh]at hq;cases hq
     ·intro j bj j' bj' q q' hj hj' hne
      simp only[List.mem_singleton,Prod.mk.injEq]at hj hj'
      exact absurd (hj.1.trans hj'.1.symm) hne
   ·refine grow ad 0 e4 (by omega) ?_
    intro w' _
    cases ad with
    |none=>simp[Builtin.firstCells]
    |some q=>simp[Builtin.firstCells,loadCells,loadCellsFrom]
end Go.Proofs.YtfpagioknjjacaaGreatDoor
namespace Go.Proofs.YtfpagioknjjacaaGreatDoor
open Go.Sx
set_option linter.unusedSimpArgs false
set_option linter.unusedVariables false
set_option maxRecDepth 100000
set_option maxHeartbeats 4000000
theorem SWx_frzP {E:Env} (t k:Nat) {c:Code} {K:Post'} {fr:List (Nat×SV)} {hp:List (Nat×Blk)} {ty:TypeId} {n:Nat} {kd:IntKind} {xs ys:List Int} (hW:∀b,¬E.W0 b) (ht:lk fr t=some (.slc k 1 0 n)) (hk:find hp k=some ⟨ty,true,.ints kd xs⟩)
  (hn:n≤xs.length) (hy:xs.take n=ys) (hs:SWx E c K ((t,ivec kd ys)::fr) (setB hp k ⟨ty,true,.dead⟩)):SWx E c K fr hp:=by
 refine SWx_freeze t k (xs:=xs.map (iel kd)) hW ht hk rfl rfl (keylessL_map (fun _=>rfl) xs) (by simp;omega) ?_
 have e:cutL (xs.map (iel kd)) 0 (0+n)=ys.map (iel kd):=by
  rw[cutL,List.drop_zero,Nat.sub_zero,Nat.zero_add,←List.map_take,hy]
 rw[e]
 exact hs
theorem r_trimM (xs:List Int) (n:Nat) (hn:n≤xs.length) (hl:xs.length<1099511627776) (K:Nat) (wr:Bool):
  CallOK Tryz.prog 326 [.slc K 1 0 n] [(K,⟨3,wr,.ints .i64 xs⟩)] (.slc K 1 0 (cutN xs n)) [] []:=by
 refine CallOK.anyWr ?_
 refine callK (Z:=[]) tabOK mixedOK Tryz.func326 rfl (by kernel_rfl) (args:=[.slc 1001 1 0 n]) (fk:=[(1001,⟨3,false,.ints .i64 xs⟩)]) (c:=.slc 1001 1 0 (cutN xs n)) (new:=[]) (upd:=[]) (ShapeOK.of rfl rfl rfl rfl rfl rfl rfl rfl rfl rfl rfl) rfl (fun _=>K) (NamesOK.ro rfl) ?_
 intro W0 w0 ρ0 hE
 conv=>whnf
 skip
 refine SW_loopN hE (fun k=>k) [0] [1001] (fun m fr hp=>m≤n∧cutN xs m=cutN xs n∧fr=[(0,.slc 1001 1 0 m)]∧hp=[(1001,⟨3,false,.ints .i64 xs⟩)]) n ?_ ?_ ?_
 ·kernel_rfl
 ·exact⟨by omega,rfl,rfl,rfl⟩
 rintro m _ _ ⟨hm,hc,rfl,rfl⟩
 conv=>whnf
 by_cases h0:m=0
 ·subst h0
  have t1:decide (((0:Nat):Int)>0)=false:=rfl
  have e:cutN xs n=0:=hc.symm
  rw[e]
  (repeat(first|(refine step_w2 rfl rfl ?_;conv=>whnf)|(refine g_o (op_pickF rfl (ev_ok rfl) (ev_ok rfl)) ?_;conv=>whnf)))
  exact⟨Recast.refl _,(fun _ _ h=>by cases h),(fun _ _ h=>by cases h)⟩
 ·obtain⟨m,rfl⟩:∃k,m=k+1:=⟨m - 1,by omega⟩
  have t1:decide (((m+1:Nat):Int)>0)=true:=decide_eq_true (by omega)
  have e1:IntKind.i64.wrap (((m+1:Nat):Int) - 1)=(m:Int):=by rw[wrap_i64 (by omega) (by omega)];omega
  by_cases hx:xs.getD m 0=0
  ·have t2:(xs.getD m 0==0)=true:=beq_iff_eq.2 hx
   rw[cutN,if_pos hx]at hc
   (repeat((first|refine step_w1 rfl rfl ?_|refine step_oL (by first|omega|decide|(simp only[tl0,dlen,List.length_replicate,List.length_set,List.length_map,List.length_zipWith,List.length_take,List.length_append,List.length_cons,List.length_nil];omega)) ?_|refine step_oA (by first|omega|decide|(simp only[tl0,dlen,List.length_replicate,List.length_set,List.length_map,List.length_zipWith,List.length_take,List.length_append,List.length_cons,List.length_nil];omega)) ?_|refine g_o (op_pickT rfl (ev_ok rfl) (ev_ok rfl)) ?_|rw[t1]|rw[e1]|rw[show 0+(m:Int).toNat=m from by omega]|rw[t2]|rw[show((m:Int) - 0).toNat=m from by omega]|rw[Nat.zero_add]);conv=>whnf))
   exact⟨m,fun k=>k,[0],[1001],by omega,by kernel_rfl,by omega,hc,rfl,rfl⟩
  ·have t2:(xs.getD m 0==0)=false:=beq_false_of_ne hx
   rw[cutN,if_neg hx]at hc
   rw[←hc]
   (repeat((first|refine step_w1 rfl rfl ?_|refine step_w2 rfl rfl ?_|refine step_oL (by first|omega|decide|(simp only[tl0,dlen,List.length_replicate,List.length_set,List.length_map,List.length_zipWith,List.length_take,List.length_append,List.length_cons,List.length_nil];omega)) ?_|refine step_oA (by first|omega|decide|(simp only[tl0,dlen,List.length_replicate,List.length_set,List.length_map,List.length_zipWith,List.length_take,List.length_append,List.length_cons,List.length_nil];omega)) ?_|refine g_o (op_pickT rfl (ev_ok rfl) (ev_ok rfl)) ?_|rw[t1]|rw[e1]|rw[show 0+(m:Int).toNat=m from by omega]|rw[t2]);conv=>whnf))
   exact⟨Recast.refl _,(fun _ _ h=>by cases h),(fun _ _ h=>by cases h)⟩
theorem div_pow_step (R i:Nat):R/10000^i=10000*(R/10000^(i+1))+R/10000^i % 10000:=by
 have:=Nat.div_add_mod (R/10000^i) 10000
 rw[Nat.div_div_eq_div_mul,←Nat.pow_succ]at this
 exact this.symm
theorem r_leading (R F:Nat) (hR:(td R).length<1099511627776) (hF:F<1099511627776) (hb:R/10000^F<100000000000000000):CallOK Tryz.prog 356 [nN R,.val (.int .i64 (F:Nat))] [] (.val (.int .i64 ((R/10000^F:Nat):Int))) [] []:=by
 have e0:IntKind.i64.wrap (((td R).length:Int) - 1)=((td R).length:Int) - 1:=wrap_i64 (by omega) (by omega)
 refine callV (Z:=[]) tabOK mixedOK Tryz.func356 rfl (by kernel_rfl) rfl rfl (by kernel_rfl) rfl ?_
 intro W0 w0 ρ0 hE
 conv=>whnf
 (repeat(first|(refine g_o (op_lenM rfl rfl rfl (ev_ok rfl) (tgt rfl) rfl) ?_;conv=>whnf)|(rw[e0];conv=>whnf)))
 refine SW_loopN hE (fun k=>k) [0,1,5,6] [] (fun q fr hp=>∃j:Nat,q=j - F∧j≤(td R).length∧(F≤j∨j=(td R).length)∧fr=[(0,nN R),(1,.val (.int .i64 (F:Nat))),(5,.val (.int .i64 ((R/10000^j:Nat):Int))),(6,.val (.int .i64 ((j:Int) - 1)))]∧hp=[]) ((td R).length - F) ?_ ?_ ?_
 ·kernel_rfl
 ·exact⟨(td R).length,rfl,Nat.le_refl _,.inr rfl,by rw[Nat.div_eq_of_lt (tlt_len R)];rfl,rfl⟩
 rintro q _ _ ⟨j,rfl,hj,hjF,rfl,rfl⟩
 conv=>whnf
 by_cases hgo:F<j
 ·obtain⟨i,rfl⟩:∃i,j=i+1:=⟨j - 1,by omega⟩
  have ei:(((i+1:Nat):Int) - 1)=(i:Int):=by omega
  rw[ei]
  have hs:=div_pow_step R i
  have hle:R/10000^i≤R/10000^F:=Nat.div_le_div_left (Nat.pow_le_pow_right (by decide) (by omega)) (Nat.pow_pos (by decide))
  have hg:=td_get R i
  have t1:decide ((i:Int)≥(F:Int))=true:=decide_eq_true (by omega)
  generalize hA:R/10000^(i+1)=A at*
  generalize hB:R/10000^i=B at*
  have e1:IntKind.i64.wrap (10000*(A:Int))=10000*(A:Int):=wrap_i64 (by omega) (by omega)
  have e2:IntKind.i64.wrap (10000*(A:Int)+((B % 10000:Nat):Int))=(B:Int):=by rw[wrap_i64 (by omega) (by omega)];omega
  have e3:IntKind.i64.wrap ((i:Int) - 1)=(i:Int) - 1:=wrap_i64 (by omega) (by omega)
  have hiT:i<(td R).length:=by omega
  clear hs hle
  (repeat((first|refine step_w1 rfl rfl ?_|refine g_o (op_loadA rfl (ev_ok rfl) (tgt rfl) rfl (Nat.succ_ne_zero _) rfl) ?_|refine g_o (op_indexN (α:=Int) (d:=0) rfl (ev_ok rfl) (ev_ok rfl) (tgt rfl) rfl (tgt rfl) rfl (by omega)) ?_|rw[t1]|rw[hg]|rw[e1]|rw[e2]|rw[e3]);conv=>whnf))
  exact⟨i - F,fun k=>k,[0,1,5,6],[],by omega,by kernel_rfl,i,rfl,by omega,by omega,by rw[hB];rfl,rfl⟩
 ·have t1:decide ((j:Int) - 1≥(F:Int))=false:=decide_eq_false (by omega)
  have e:R/10000^F=R/10000^j:=by
   rcases hjF with h|h
   ·rw[show j=F by omega]
   ·rw[h,Nat.div_eq_of_lt (tlt_len R),Nat.div_eq_of_lt (td_lt_pow (by omega))]
  rw[e]
  (repeat(first|(refine step_w2 rfl rfl ?_;conv=>whnf)|(rw[t1];conv=>whnf)));(first|exact Recast.refl _|exact Frz.recast (Recast.refl _) rfl|(refine Frz.one rfl rfl ?_;skip)|(refine Frz.tup ?_;skip))
theorem r_leadingM (L:List Int) (R F:Nat) (hL:L.take (td R).length=td R) (hLl:(td R).length≤L.length) (hR:(td R).length<1099511627776) (hF:F<1099511627776) (hb:R/10000^F<100000000000000000) (K:Nat) (wr:Bool):
  CallOK Tryz.prog 356 [.slc K 1 0 (td R).length,.val (.int .i64 (F:Nat))] [(K,⟨3,wr,.ints .i64 L⟩)] (.val (.int .i64 ((R/10000^F:Nat):Int))) [] []:=by
 have e0:IntKind.i64.wrap (((td R).length:Int) - 1)=((td R).length:Int) - 1:=wrap_i64 (by omega) (by omega)
 have hLg:∀i,i<(td R).length→L.getD i 0=((R/10000^i % 10000:Nat):Int):=fun i hi=>by rw[←td_get,←hL,getD_take,if_pos hi]
 refine CallOK.anyWr ?_
 refine callK (Z:=[]) tabOK mixedOK Tryz.func356 rfl (by kernel_rfl) (args:=[.slc 1001 1 0 (td R).length,.val (.int .i64 (F:Nat))]) (fk:=[(1001,⟨3,false,.ints .i64 L⟩)]) (c:=.val (.int .i64 ((R/10000^F:Nat):Int))) (new:=[]) (upd:=[]) (ShapeOK.of rfl rfl rfl rfl rfl rfl rfl rfl rfl rfl rfl) rfl (fun _=>K) (NamesOK.ro rfl) ?_
 intro W0 w0 ρ0 hE
 conv=>whnf
 (repeat(first|(rw[e0];conv=>whnf)))
 refine SW_loopN hE (fun k=>k) [0,1,5,6] [1001] (fun q fr hp=>∃j:Nat,q=j - F∧j≤(td R).length∧(F≤j∨j=(td R).length)∧fr=[(0,.slc 1001 1 0 (td R).length),(1,.val (.int .i64 (F:Nat))),(5,.val (.int .i64 ((R/10000^j:Nat):Int))),(6,.val (.int .i64 ((j:Int) - 1)))]∧hp=[(1001,⟨3,false,.ints .i64 L⟩)]) ((td R).length - F) ?_ ?_ ?_
 ·kernel_rfl
 ·exact⟨(td R).length,rfl,Nat.le_refl _,.inr rfl,by rw[Nat.div_eq_of_lt (tlt_len R)];rfl,rfl⟩
 rintro q _ _ ⟨j,rfl,hj,hjF,rfl,rfl⟩
 conv=>whnf
 by_cases hgo:F<j
 ·obtain⟨i,rfl⟩:∃i,j=i+1:=⟨j - 1,by omega⟩
  have ei:(((i+1:Nat):Int) - 1)=(i:Int):=by omega
  rw[ei]
  have hs:=div_pow_step R i
  have hle:R/10000^i≤R/10000^F:=Nat.div_le_div_left (Nat.pow_le_pow_right (by decide) (by omega)) (Nat.pow_pos (by decide))
  have hg:=hLg i (by omega)
  have t1:decide ((i:Int)≥(F:Int))=true:=decide_eq_true (by omega)
  generalize hA:R/10000^(i+1)=A at*
  generalize hB:R/10000^i=B at*
  have e1:IntKind.i64.wrap (10000*(A:Int))=10000*(A:Int):=wrap_i64 (by omega) (by omega)
  have e2:IntKind.i64.wrap (10000*(A:Int)+((B % 10000:Nat):Int))=(B:Int):=by rw[wrap_i64 (by omega) (by omega)];omega
  have e3:IntKind.i64.wrap ((i:Int) - 1)=(i:Int) - 1:=wrap_i64 (by omega) (by omega)
  have hiT:i<(td R).length:=by omega
  clear hs hle
  (repeat((first|refine step_w1 rfl rfl ?_|refine step_oL (by first|omega|decide|(simp only[tl0,dlen,List.length_replicate,List.length_set,List.length_map,List.length_zipWith,List.length_take,List.length_append,List.length_cons,List.length_nil];omega)) ?_|refine step_oA (by first|omega|decide|(simp only[tl0,dlen,List.length_replicate,List.length_set,List.length_map,List.length_zipWith,List.length_take,List.length_append,List.length_cons,List.length_nil];omega)) ?_|rw[t1]|rw[hg]|rw[e1]|rw[e2]|rw[e3]|rw[Int.toNat_natCast]|rw[Nat.zero_add]);conv=>whnf))
  exact⟨i - F,fun k=>k,[0,1,5,6],[1001],by omega,by kernel_rfl,i,rfl,by omega,by omega,by rw[hB];rfl,rfl⟩
 ·have t1:decide ((j:Int) - 1≥(F:Int))=false:=decide_eq_false (by omega)
  have e:R/10000^F=R/10000^j:=by
   rcases hjF with h|h
   ·rw[show j=F by omega]
   ·rw[h,Nat.div_eq_of_lt (tlt_len R),Nat.div_eq_of_lt (td_lt_pow (by omega))]
  rw[e]
  (repeat(first|(refine step_w2 rfl rfl ?_;conv=>whnf)|(rw[t1];conv=>whnf)))
  exact⟨Recast.refl _,(fun _ _ h=>by cases h),(fun _ _ h=>by cases h)⟩
section
variable {a b R d P F T lb:Nat}
theorem guess_lo {R b P T:Nat} (hb:0<b) (hP:0<P) (hT:b<(T+1)*P):R/P/(T+1)≤R/b:=by
 rw[Nat.le_div_iff_mul_le hb]
 have h1:R/P/(T+1)*(T+1)≤R/P:=Nat.div_mul_le_self _ _
 have h2:R/P*P≤R:=Nat.div_mul_le_self _ _
 have h3:R/P/(T+1)*b≤R/P/(T+1)*((T+1)*P):=Nat.mul_le_mul_left _ (Nat.le_of_lt hT)
 have h4:R/P/(T+1)*(T+1)*P≤R/P*P:=Nat.mul_le_mul_right P h1
 rw[Nat.mul_assoc]at h4
 omega
theorem guess_hi {R b P T:Nat} (hT0:0<T) (hP:0<P) (hT:T*P≤b):R/b≤R/P/T:=by
 rw[Nat.le_div_iff_mul_le hT0,Nat.le_div_iff_mul_le hP]
 have h1:R/b*b≤R:=Nat.div_mul_le_self _ _
 have h2:R/b*(T*P)≤R/b*b:=Nat.mul_le_mul_left _ hT
 rw[Nat.mul_assoc]
 omega
end
theorem step_div {A b d:Nat} (hb:0<b):(10000*A+d)/b=10000*(A/b)+(A % b*10000+d)/b:=by
 have h:10000*A+d=A % b*10000+d+b*(10000*(A/b)):=by
  have:=Nat.div_add_mod A b
  have e:b*(10000*(A/b))=10000*(b*(A/b)):=by rw[←Nat.mul_assoc,Nat.mul_comm b 10000,Nat.mul_assoc]
  omega
 rw[h,Nat.add_mul_div_left _ _ hb];omega
theorem step_mod {A b d:Nat}:(10000*A+d) % b=(A % b*10000+d) % b:=by
 have h:10000*A+d=A % b*10000+d+b*(10000*(A/b)):=by
  have:=Nat.div_add_mod A b
  have e:b*(10000*(A/b))=10000*(b*(A/b)):=by rw[←Nat.mul_assoc,Nat.mul_comm b 10000,Nat.mul_assoc]
  omega
 rw[h,Nat.add_mul_mod_self_left]
theorem digit_lt {r b d:Nat} (hb:0<b) (hr:r<b) (hd:d<10000):(r*10000+d)/b<10000:=by
 rw[Nat.div_lt_iff_lt_mul hb]
 have:(r+1)*10000≤b*10000:=Nat.mul_le_mul_right _ hr
 rw[Nat.add_mul]at this
 rw[Nat.mul_comm 10000 b];omega
theorem top_pos {b:Nat} (hb:0<b):0<b/10000^((td b).length - 3):=by
 refine Nat.div_pos (Nat.le_trans (Nat.pow_le_pow_right (by decide) (by omega)) (td_ge_pow (by omega))) (Nat.pow_pos (by decide))
theorem top_lt {b:Nat}:b/10000^((td b).length - 3)<1000000000000:=by
 rw[Nat.div_lt_iff_lt_mul (Nat.pow_pos (by decide)),show 1000000000000=10000^3 from rfl,←Nat.pow_add]
 exact td_lt_pow (by omega)
theorem td_cons {d R:Nat} (hd:d<10000) (h:R*10000+d≠0):td (R*10000+d)=(d:Int)::td R:=by
 rw[td_succ h,show(R*10000+d) % 10000=d by omega,show(R*10000+d)/10000=R by omega]
theorem td_drop:∀(k n:Nat),(td n).drop k=td (n/10000^k)
 |0,n=>by simp
 |k+1,n=>by
  by_cases h:n=0
  ·subst h;rw[td_zero,Nat.zero_div];rfl
  ·rw[td_succ h,List.drop_succ_cons,td_drop k,Nat.div_div_eq_div_mul,Nat.pow_succ,Nat.mul_comm]
theorem cut_cons {d R:Nat} (hd:d<10000):cutN ((d:Int)::td R) ((td R).length+1)=(td (R*10000+d)).length∧((d:Int)::td R).take (td (R*10000+d)).length=td (R*10000+d):=by
 by_cases h:R*10000+d=0
 ·obtain rfl:R=0:=by omega
  obtain rfl:d=0:=by omega
  exact⟨rfl,rfl⟩
 ·have e:=td_cons hd h
  have hl:(td (R*10000+d)).length=(td R).length+1:=by rw[e];rfl
  have ht:=(td_top h).2
  rw[hl,e,Nat.add_sub_cancel]at ht
  refine⟨?_, ?_⟩
  ·rw[hl,cutN,if_neg ht]
  ·rw[←e,List.take_length]
theorem wrap_nat {n:Nat} (h:n<9223372036854775808):IntKind.i64.wrap (n:Int)=n:=wrap_i64 (by omega) (by omega)
theorem r_Div (a b:Nat) (hb:0<b) (ha:(td a).length<268435456) (hbl:(td b).length<268435456):CallOK Tryz.prog 320 [nN a,nN b] [] (.tup [nN (a/b),nN (a % b)]) [] []:=by
 have k1:=r_Cmp a b (by omega) (by omega)
 by_cases hlt:a<b
 ·have t1:decide (((a:Int) - b).sign<0)=true:=decide_eq_true (by rw[Int.sign_eq_neg_one_of_neg (by omega)];omega)
  have e0:nN (a/b)=vecA 1 []:=by rw[Nat.div_eq_of_lt hlt];rfl
  have e1:nN (a % b)=nN a:=by rw[Nat.mod_eq_of_lt hlt]
  rw[e0,e1]
  refine callF (Z:=[]) tabOK mixedOK Tryz.func320 rfl (by kernel_rfl) (by first|rfl|(simp[keylessL,keyless,keylessL_map, *];done)) (by first|rfl|(simp[keylessL,keyless,keylessL_map, *];done)) (by kernel_rfl) rfl ?_
  intro w0 ρ0 hE
  conv=>whnf
  (repeat(first|(refine step_w1 rfl rfl ?_;conv=>whnf)|(refine g_c (by assumption) ?_;conv=>whnf)|(rw[t1];conv=>whnf)));(first|exact Recast.refl _|exact Frz.recast (Recast.refl _) rfl|(refine Frz.one rfl rfl ?_;skip)|(refine Frz.tup ?_;(repeat(first|exact FrzC.keyless rfl|exact FrzL.nil|refine FrzL.cons ?_ ?_|exact FrzC.nilS))))
 have t1:decide (((a:Int) - b).sign<0)=false:=decide_eq_false (by have:=Int.sign_nonneg_iff.2 (show 0≤(a:Int) - b by omega);omega)
 have hle:=td_len_mono (show b≤a by omega)
 have hlb0:0<(td b).length:=by have:=(td_len_zero (n:=b));omega
 have hT0:=top_pos hb
 have hT1:=top_lt (b:=b)
 have hPos:0<10000^((td b).length - 3):=Nat.pow_pos (by decide)
 have hTb:b/10000^((td b).length - 3)*10000^((td b).length - 3)≤b:=Nat.div_mul_le_self _ _
 have hbT:b<(b/10000^((td b).length - 3)+1)*10000^((td b).length - 3):=by rw[Nat.mul_comm];exact Nat.lt_mul_div_succ b hPos
 have k2:=r_leading b ((td b).length - 3) (by omega) (by omega) (by omega)
 generalize hF:(td b).length - 3=F at*
 generalize hT:b/10000^F=T at*
 have e1:IntKind.i64.wrap (((td b).length:Int) - 3)=((td b).length:Int) - 3:=wrap_i64 (by omega) (by omega)
 have e2:(if ((td b).length:Int) - 3>0 then((td b).length:Int) - 3 else 0)=(F:Int):=by split<;>omega
 generalize hD:(td a).length - (td b).length=D
 have e3:IntKind.i64.wrap (((td a).length:Int) - ((td b).length:Int))=(D:Int):=by rw[wrap_i64 (by omega) (by omega)];omega
 have e4:IntKind.i64.wrap ((D:Int)+1)=((D+1:Nat):Int):=by rw[wrap_i64 (by omega) (by omega)];omega
 have hA0:a/10000^(D+1)<b:=by
  have h1:=tlt_len a
  have h2:=td_ge_pow (n:=b) (by omega)
  rw[Nat.div_lt_iff_lt_mul (Nat.pow_pos (by decide))]
  refine Nat.lt_of_lt_of_le h1 (Nat.le_trans (m:=10000^((td b).length - 1)*10000^(D+1)) ?_ (Nat.mul_le_mul_right _ h2))
  rw[←Nat.pow_add]
  exact Nat.pow_le_pow_right (by decide) (by omega)
 have hdrop:((td a).drop (D+1)).take ((td a).length - (D+1))=td (a/10000^(D+1)):=by
  rw[td_drop,List.take_of_length_le]
  rw[←td_drop,List.length_drop];omega
 have wb:=td_w32 b
 refine callF (Z:=[]) tabOK mixedOK Tryz.func320 rfl (by kernel_rfl) (by first|rfl|(simp[keylessL,keyless,keylessL_map, *];done)) (by first|rfl|(simp[keylessL,keyless,keylessL_map, *];done)) (by kernel_rfl) rfl ?_
 intro w0 ρ0 hE
 conv=>whnf
 have hR0l:(td (a/10000^(D+1))).length<1099511627776:=by have:=td_len_mono (Nat.div_le_self a (10000^(D+1)));omega
 generalize hR0:a/10000^(D+1)=R0 at*
 (repeat(first|(refine step_w2 rfl rfl ?_;conv=>whnf)|(refine step_oA (by first|omega|decide|(simp only[tl0,dlen,List.length_replicate,List.length_set,List.length_map,List.length_zipWith,List.length_take,List.length_append,List.length_cons,List.length_nil];omega)) ?_;conv=>whnf)|(refine g_c (by assumption) ?_;conv=>whnf)|(refine g_o (op_lenM rfl rfl rfl (ev_ok rfl) (tgt rfl) rfl) ?_;conv=>whnf)|(refine g_o (op_sliceM rfl (ev_ok rfl) (bound_spec rfl) (bound_spec rfl) (.inl rfl) (tgt rfl) rfl (tgt rfl) rfl (by omega)) ?_;conv=>whnf)|(refine⟨.slc 40 1 0 (0+(td R0).length),[(35,⟨3,true,.ints .i64 []⟩)],[(40,⟨3,true,.ints .i64 (td R0)⟩)],[(35,⟨3,true,.dead⟩)],op_appendV rfl rfl rfl (ev_ok rfl) (ev_ok rfl) (rows_ints (td R0)) (tabOK.get (t:=77) rfl) rfl (tabOK.get (t:=77) rfl) rfl (tabOK.get (t:=3) rfl) (List.mem_cons_self ..) rfl rfl (by simp[dlen]) (by simp) (by simp[dlen]) (by simp[dapp]) (by show(0+_)*ti3.bytes≤_;simp only[tiB3];omega) (by omega),one_fk rfl,one_new rfl,one_upd (List.mem_cons_self ..) rfl rfl rfl, ?_⟩;conv=>whnf)|(rw[t1];conv=>whnf)|(rw[e1];conv=>whnf)|(rw[e2];conv=>whnf)|(rw[e3];conv=>whnf)|(rw[e4];conv=>whnf)|(rw[hdrop];conv=>whnf)|(rw[Int.toNat_natCast];conv=>whnf)|(rw[Nat.zero_add];conv=>whnf)))
 refine SWx_frzP 10 40 (fun _ h=>h) rfl rfl (Nat.le_refl _) (List.take_length) ?_
 have e5:((D+1:Nat):Int) - 1=(D:Int):=by omega
 refine SW_loopS hE (fun k=>k) [0,1,6,7,8,9,10] [34] (fun m fr hp=>∃Q:List Int,m≤D+1∧Q.length=D+1∧W4 Q∧(∀k,k<m→Q.getD k 0=0)∧valT Q (D+1)=((a/10000^m/b:Nat):Int)*10000^m∧
  fr=[(0,nN a),(1,nN b),(6,.val (.int .i64 (F:Nat))),(7,.val (.int .i64 (T:Nat))),(8,.val (.int .i64 ((m:Int) - 1))),(9,.slc 34 1 0 (D+1)),(10,nN (a/10000^m % b))]∧hp=[(34,zblk Q)]) (D+1) ?_ ?_ ?_
 ·kernel_rfl
 ·refine⟨List.replicate (D+1) 0,Nat.le_refl _,List.length_replicate,W4_of (fun x hx=>by rw[(List.mem_replicate.1 hx).2];omega),(fun k _=>getD_replicate), ?_, ?_,rfl⟩
  ·rw[valT_zeros (k:=0) (fun i _ _=>getD_replicate) (Nat.zero_le _),hR0,Nat.div_eq_of_lt hA0];simp[valT]
  ·rw[e5,hR0,Nat.mod_eq_of_lt hA0];rfl
 rintro m _ _ ⟨Q,hm,hQl,hQw,hQ0,hQv,rfl,rfl⟩
 by_cases h0:m=0
 ·subst h0
  rw[Nat.pow_zero,Nat.div_one,Int.pow_zero,Int.mul_one]at hQv
  have hz:nN (a/10000^0 % b)=nN (a % b):=by rw[Nat.pow_zero,Nat.div_one]
  rw[hz]
  have t2:decide (((0:Nat):Int) - 1≥0)=false:=rfl
  have kt:=r_trim Q (by omega) hQw
  rw[show(valT Q Q.length).toNat=a/b by rw[hQl,hQv];exact Int.toNat_natCast _]at kt
  refine SWx_frzI 9 34 (fun _ h=>h) rfl rfl hQl.symm ?_
  refine SWx.of hE ?_
  conv=>whnf
  (repeat(first|(refine step_w2 rfl rfl ?_;conv=>whnf)|(refine g_c (by assumption) ?_;conv=>whnf)));(first|exact Recast.refl _|exact Frz.recast (Recast.refl _) rfl|(refine Frz.one rfl rfl ?_;skip)|(refine Frz.tup ?_;skip))
 ·obtain⟨i,rfl⟩:∃i,m=i+1:=⟨m - 1,by omega⟩
  have ei:(((i+1:Nat):Int) - 1)=(i:Int):=by omega
  rw[ei]
  have hst:=div_pow_step a i
  have hdig:(td a).getD i 0=((a/10000^i % 10000:Nat):Int):=td_get a i
  have hdlt:a/10000^i % 10000<10000:=Nat.mod_lt _ (by decide)
  have hia:i<(td a).length:=by omega
  have hAle:=td_len_mono (Nat.le_trans (Nat.mod_le (a/10000^(i+1)) b) (Nat.div_le_self a _))
  have hq1:=hQv
  have hfin:((a/10000^i/b:Nat):Int)=10000*((a/10000^(i+1)/b:Nat):Int)+(((a/10000^(i+1) % b*10000+a/10000^i % 10000)/b:Nat):Int):=by
   rw[hst,step_div hb]
   have:(10000*(a/10000^(i+1))+a/10000^i % 10000) % 10000=a/10000^i % 10000:=by rw[←hst]
   rw[this];omega
  have hfinr:a/10000^i % b=(a/10000^(i+1) % b*10000+a/10000^i % 10000) % b:=by
   have h:=step_mod (A:=a/10000^(i+1)) (b:=b) (d:=a/10000^i % 10000)
   rw[←hst]at h;exact h
  have hRb:a/10000^(i+1) % b<b:=Nat.mod_lt _ hb
  clear hst
  generalize hd:a/10000^i % 10000=d at*
  generalize hR:a/10000^(i+1) % b=R at*
  obtain⟨hc1,hc2⟩:=cut_cons (R:=R) hdlt
  have hR'l:(td (R*10000+d)).length≤(td R).length+1:=tlen_le (by have:=tlt_len R;rw[Nat.pow_succ];omega)
  have hqlt:=digit_lt (d:=d) hb hRb hdlt
  have hR'b:(td (R*10000+d)).length≤(td b).length+1:=tlen_le (by have:=tlt_len b;rw[Nat.pow_succ];omega)
  have kt:=r_trimM ((d:Int)::td R) (1+(td R).length) (by rw[List.length_cons];omega) (by rw[List.length_cons];omega) 51 true
  rw[Nat.add_comm 1,hc1,Nat.add_comm]at kt
  have hfst:(R*10000+d)/10000^F<10000^4:=by
   rw[Nat.div_lt_iff_lt_mul (Nat.pow_pos (by decide)),←Nat.pow_add]
   exact td_lt_pow (by omega)
  have kl:=r_leadingM ((d:Int)::td R) (R*10000+d) F hc2 (by rw[List.length_cons];omega) (by omega) (by omega) (by omega) 51 true
  have glo:=guess_lo (R:=R*10000+d) hb hPos hbT
  have ghi:=guess_hi (R:=R*10000+d) hT0 hPos hTb
  have hsub:R*10000+d - b*((R*10000+d)/b)=a/10000^i % b:=by
   rw[hfinr];have:=Nat.div_add_mod (R*10000+d) b;omega
  have hmulle:b*((R*10000+d)/b)≤R*10000+d:=Nat.mul_div_le _ _
  have hqle:∀x,b*x≤R*10000+d↔x≤(R*10000+d)/b:=fun x=>by rw[Nat.le_div_iff_mul_le hb,Nat.mul_comm]
  generalize hR':R*10000+d=R' at*
  generalize hfe:R'/10000^F=fst at*
  generalize hqd:R'/b=qd at*
  have e6:IntKind.i64.wrap ((T:Int)+1)=((T+1:Nat):Int):=by rw[wrap_i64 (by omega) (by omega)];omega
  have e7:IntKind.i64.wrap ((fst:Int).tdiv ((T+1:Nat):Int))=((fst/(T+1):Nat):Int):=by
   rw[Int.tdiv_eq_ediv_of_nonneg (by omega),←Int.natCast_ediv]
   exact wrap_nat (Nat.lt_of_le_of_lt (Nat.div_le_self fst (T+1)) (by omega))
  have e8:IntKind.i64.wrap ((fst:Int).tdiv (T:Int))=((fst/T:Nat):Int):=by
   rw[Int.tdiv_eq_ediv_of_nonneg (by omega),←Int.natCast_ediv]
   exact wrap_nat (Nat.lt_of_le_of_lt (Nat.div_le_self fst T) (by omega))
  have e9:(if (9999:Int)<((fst/T:Nat):Int)then(9999:Int)else((fst/T:Nat):Int))=((min (fst/T) 9999:Nat):Int):=by split<;>omega
  have t2:decide ((i:Int)≥0)=true:=decide_eq_true (by omega)
  have hRl:(td R).length<1099511627776:=by omega
  refine SWx.of hE ?_
  conv=>whnf
  (repeat(first|(refine step_w1 rfl rfl ?_;conv=>whnf)|(refine step_i (by kernel_rfl) ?_;conv=>whnf)|(refine step_oN (by first|omega|decide|(simp only[tl0,dlen,List.length_replicate,List.length_set,List.length_map,List.length_zipWith,List.length_take,List.length_append,List.length_cons,List.length_nil];omega)) ?_;conv=>whnf)|(refine g_c1 (by assumption) rfl ?_;conv=>whnf)|(refine g_o (op_loadA rfl (ev_ok rfl) (tgt rfl) rfl (Nat.succ_ne_zero _) rfl) ?_;conv=>whnf)|(refine g_o (op_indexN (α:=Int) (d:=0) rfl (ev_ok rfl) (ev_ok rfl) (tgt rfl) rfl (tgt rfl) rfl (by omega)) ?_;conv=>whnf)|(refine⟨.slc 51 1 0 (1+(td R).length),[(49,⟨3,true,.ints .i64 [(d:Int)]⟩)],[(51,⟨3,true,.ints .i64 ((d:Int)::td R)⟩)],[(49,⟨3,true,.dead⟩)],op_appendV rfl rfl rfl (ev_ok rfl) (ev_ok rfl) (rows_ints (td R)) (tabOK.get (t:=77) rfl) rfl (tabOK.get (t:=77) rfl) rfl (tabOK.get (t:=3) rfl) (List.mem_cons_self ..) rfl rfl (by simp[dlen]) (by simp) (by simp[dlen]) (by simp[dapp]) (by show(1+_)*ti3.bytes≤_;simp only[tiB3];omega) (by omega),one_fk rfl,one_new rfl,one_upd (List.mem_cons_self ..) rfl rfl rfl, ?_⟩;conv=>whnf)|(rw[t2];conv=>whnf)|(rw[hdig];conv=>whnf)|(rw[e6];conv=>whnf)|(rw[e7];conv=>whnf)|(rw[e8];conv=>whnf)|(rw[e9];conv=>whnf)))
  refine SWx_frzP 10 51 (fun _ h=>h) rfl rfl (by rw[List.length_cons];omega) hc2 ?_
  have hmin1:fst/(T+1)≤qd:=glo
  have hmin2:qd≤min (fst/T) 9999:=by omega
  have hmin3:min (fst/T) 9999≤9999:=Nat.min_le_right _ _
  clear kl kt hc1 hc2 glo ghi hbT hTb e9 e8 e7 e6 hfst
  generalize fst/(T+1)=lo0 at*
  generalize min (fst/T) 9999=hi0 at*
  refine SW_loopN hE (fun k=>k) [0,1,6,7,8,9,10,12,13] [34] (fun q fr hp=>∃lo hi:Nat,q=hi - lo∧lo≤qd∧qd≤hi∧hi≤9999∧
   fr=[(0,nN a),(1,nN b),(6,.val (.int .i64 (F:Nat))),(7,.val (.int .i64 (T:Nat))),(8,.val (.int .i64 (i:Nat))),(9,.slc 34 1 0 (D+1)),(10,nN R'),(12,.val (.int .i64 (lo:Nat))),(13,.val (.int .i64 (hi:Nat)))]∧hp=[(34,zblk Q)]) (hi0 - lo0) ?_ ?_ ?_
  ·kernel_rfl
  ·exact⟨lo0,hi0,rfl,hmin1,hmin2,hmin3,rfl,rfl⟩
  rintro q _ _ ⟨lo,hi,rfl,hlo,hhi,hhi2,rfl,rfl⟩
  conv=>whnf
  by_cases hl:lo<hi
  ·have t3:decide ((lo:Int)<(hi:Int))=true:=decide_eq_true (by omega)
   have e10:IntKind.i64.wrap ((lo:Int)+(hi:Int))=((lo+hi:Nat):Int):=by rw[wrap_i64 (by omega) (by omega)];omega
   have e11:IntKind.i64.wrap (((lo+hi:Nat):Int)+1)=((lo+hi+1:Nat):Int):=by rw[wrap_i64 (by omega) (by omega)];omega
   have e12:IntKind.i64.wrap (((lo+hi+1:Nat):Int).tdiv 2)=(((lo+hi+1)/2:Nat):Int):=by
    rw[Int.tdiv_eq_ediv_of_nonneg (by omega)]
    exact wrap_i64 (by omega) (by omega)
   have e12':(((lo+hi+1:Nat):Int).tdiv 2)=(((lo+hi+1)/2:Nat):Int):=by rw[Int.tdiv_eq_ediv_of_nonneg (by omega)];rfl
   have hmid:lo<(lo+hi+1)/2∧(lo+hi+1)/2≤hi:=by omega
   generalize (lo+hi+1)/2=mid at*
   have e13:IntKind.u64.wrap (mid:Int)=(mid:Int):=wrap_u64 (by omega) (by omega)
   have hbm:(td (b*mid)).length≤(td b).length+1:=tlen_le (by
    have h1:=tlt_len b
    have h2:b*mid≤b*10000:=Nat.mul_le_mul_left _ (by omega)
    rw[Nat.pow_succ];omega)
   have hml:(td mid).length≤1:=tlen_le (by omega)
   have o1:=r_Of mid (by omega)
   have o2:=r_Mul b mid (by omega) (by omega)
   have o3:=r_Cmp (b*mid) R' (by omega) (by omega)
   by_cases hc:b*mid≤R'
   ·have t4:decide ((((b*mid:Nat):Int) - R').sign≤0)=true:=decide_eq_true (by
     have:=Int.sign_nonpos_iff.2 (show((b*mid:Nat):Int) - R'≤0 by omega);omega)
    have:=(hqle mid).1 hc
    (repeat((first|refine step_w1 rfl rfl ?_|refine step_oN (by first|omega|decide|(simp only[tl0,dlen,List.length_replicate,List.length_set,List.length_map,List.length_zipWith,List.length_take,List.length_append,List.length_cons,List.length_nil];omega)) ?_|refine g_c (by assumption) ?_|rw[t3]|rw[e10]|rw[e11]|rw[e12]|rw[e13]|rw[t4]);conv=>whnf))
    exact⟨hi - mid,fun k=>k,[0,1,6,7,8,9,10,12,13],[34],by omega,by kernel_rfl,mid,hi,rfl,this,hhi,hhi2,rfl,rfl⟩
   ·have t4:decide ((((b*mid:Nat):Int) - R').sign≤0)=false:=decide_eq_false (by
     rw[Int.sign_eq_one_of_pos (show 0<((b*mid:Nat):Int) - R' by omega)];omega)
    have:¬mid≤qd:=fun h=>hc ((hqle mid).2 h)
    have e14:IntKind.i64.wrap ((mid:Int) - 1)=((mid - 1:Nat):Int):=by rw[wrap_i64 (by omega) (by omega)];omega
    (repeat((first|refine step_w1 rfl rfl ?_|refine step_w2 rfl rfl ?_|refine step_oN (by first|omega|decide|(simp only[tl0,dlen,List.length_replicate,List.length_set,List.length_map,List.length_zipWith,List.length_take,List.length_append,List.length_cons,List.length_nil];omega)) ?_|refine g_c (by assumption) ?_|rw[t3]|rw[e10]|rw[e11]|rw[e12]|rw[e13]|rw[t4]|rw[e14]);conv=>whnf))
    exact⟨mid - 1 - lo,fun k=>k,[0,1,6,7,8,9,10,12,13],[34],by omega,by kernel_rfl,lo,mid - 1,rfl,hlo,by omega,by omega,rfl,rfl⟩
  ·have t3:decide ((lo:Int)<(hi:Int))=false:=decide_eq_false (by omega)
   obtain rfl:lo=qd:=by omega
   have e13:IntKind.u64.wrap (lo:Int)=(lo:Int):=wrap_u64 (by omega) (by omega)
   have e14:IntKind.i64.wrap ((i:Int) - 1)=(i:Int) - 1:=wrap_i64 (by omega) (by omega)
   have hbm:(td (b*lo)).length≤(td b).length+1:=tlen_le (by
    have h1:=tlt_len b
    have h2:b*lo≤b*10000:=Nat.mul_le_mul_left _ (by omega)
    rw[Nat.pow_succ];omega)
   have hml:(td lo).length≤1:=tlen_le (by omega)
   have o1:=r_Of lo (by omega)
   have o2:=r_Mul b lo (by omega) (by omega)
   have o3:=r_Sub R' (b*lo) hmulle (by omega)
   rw[hsub]at o3
   have hiQ:i<Q.length:=by omega
   have hQs:(Q.set i (lo:Int)).length=D+1:=by rw[List.length_set];exact hQl
   have hQw2:=hQw.set (i:=i) (show(0:Int)≤lo by omega) (by omega)
   have hQ02:∀k,k<i→(Q.set i (lo:Int)).getD k 0=0:=fun k hk=>by rw[getD_set,if_neg (by omega)];exact hQ0 k (by omega)
   have hQv2:valT (Q.set i (lo:Int)) (D+1)=((a/10000^i/b:Nat):Int)*10000^i:=by
    rw[valT_set (by omega) hiQ,hQ0 i (by omega),hQv,hfin,Int.pow_succ];grind
   (repeat((first|refine step_w2 rfl rfl ?_|refine step_oL (by first|omega|decide|(simp only[tl0,dlen,List.length_replicate,List.length_set,List.length_map,List.length_zipWith,List.length_take,List.length_append,List.length_cons,List.length_nil];omega)) ?_|refine step_oA (by first|omega|decide|(simp only[tl0,dlen,List.length_replicate,List.length_set,List.length_map,List.length_zipWith,List.length_take,List.length_append,List.length_cons,List.length_nil];omega)) ?_|refine g_c (by assumption) ?_|rw[t3]|rw[show 0+(i:Int).toNat=i from by omega]|rw[e13]|rw[e14]);conv=>whnf))
   exact⟨i,fun k=>k,[0,1,6,7,8,9,10],[34],by omega,by kernel_rfl,Q.set i (lo:Int),by omega,hQs,hQw2,hQ02,hQv2,rfl,rfl⟩
theorem td_lt_len {a b:Nat} (h:a≤b) {M:Nat} (hb:(td b).length<M):(td a).length<M:=Nat.lt_of_le_of_lt (td_len_mono h) hb
theorem r_Gcd (a b:Nat) (ha:(td a).length<268435456) (hb:(td b).length<268435456):CallOK Tryz.prog 319 [nN a,nN b] [] (nN (Nat.gcd a b)) [] []:=by
 refine callV (Z:=[]) tabOK mixedOK Tryz.func319 rfl (by kernel_rfl) rfl rfl (by kernel_rfl) rfl ?_
 intro W0 w0 ρ0 hE
 conv=>whnf
 skip
 refine SW_loopN hE (fun k=>k) [0,1] [] (fun q fr hp=>∃x y:Nat,q=y∧Nat.gcd x y=Nat.gcd a b∧(td x).length<268435456∧(td y).length<268435456∧fr=[(0,nN x),(1,nN y)]∧hp=[]) b ?_ ?_ ?_
 ·kernel_rfl
 ·exact⟨a,b,rfl,rfl,ha,hb,rfl,rfl⟩
 rintro q _ _ ⟨x,y,rfl,hg,hx,hy,rfl,rfl⟩
 conv=>whnf
 by_cases h0:0<q
 ·have t1:decide (((td q).length:Int)>0)=true:=decide_eq_true (by have:=td_len_zero (n:=q);omega)
  have k1:=r_Div x q h0 hx hy
  have hlt:=Nat.mod_lt x h0
  (repeat((first|refine step_w1 rfl rfl ?_|refine g_c (by assumption) ?_|refine g_o (op_lenM rfl rfl rfl (ev_ok rfl) (tgt rfl) rfl) ?_|rw[t1]);conv=>whnf))
  exact⟨x % q,fun k=>k,[0,1],[],hlt,by kernel_rfl,q,x % q,rfl,by rw[←hg,Nat.gcd_comm x q,Nat.gcd_rec q x];exact Nat.gcd_comm _ _,hy,td_lt_len (Nat.le_of_lt hlt) hy,rfl,rfl⟩
 ·obtain rfl:q=0:=by omega
  rw[Nat.gcd_zero_right]at hg
  subst hg
  have t1:decide (((td 0).length:Int)>0)=false:=rfl
  (repeat(first|(refine step_w2 rfl rfl ?_;conv=>whnf)|(refine g_o (op_lenM rfl rfl rfl (ev_ok rfl) (tgt rfl) rfl) ?_;conv=>whnf)));(first|exact Recast.refl _|exact Frz.recast (Recast.refl _) rfl|(refine Frz.one rfl rfl ?_;skip)|(refine Frz.tup ?_;skip))
end Go.Proofs.YtfpagioknjjacaaGreatDoor
namespace Go.Proofs.YtfpagioknjjacaaGreatDoor
open Go.Sx
set_option linter.unusedSimpArgs false
set_option linter.unusedVariables false
set_option maxRecDepth 100000
set_option maxHeartbeats 4000000
abbrev zZ (z:Int):SV:=.agg [.val (.bool (decide (z<0))),nN z.natAbs]
abbrev fF (q:Rat):SV:=.agg [zZ q.num,nN (q.den - 1)]
theorem tl_sz {n M:Nat} (h:sz n≤M):(td n).length≤M:=tlen_le (Nat.lt_of_lt_of_le (sz_le.1 h) (Nat.pow_le_pow_left (by decide) M))
theorem r2_From (neg:Bool) (n:Nat) (hn:(td n).length<1099511627776):CallOK Tryz.prog 248 [.val (.bool neg),nN n] [] (zZ (signed neg n)) [] []:=by
 refine callV (Z:=[]) tabOK mixedOK Tryz.func248 rfl (by kernel_rfl) rfl rfl (by kernel_rfl) rfl ?_
 intro W0 w0 ρ0 hE
 conv=>whnf
 cases neg with
 |false=>
  have e:zZ (signed false n)= .agg [.val (.bool false),nN n]:=by
   have h:¬(signed false n<0):=by show ¬((n:Int)<0);omega
   rw[zZ,decide_eq_false h,signed_abs]
  rw[e]
  (repeat(first|(refine step_w2 rfl rfl ?_;conv=>whnf)|(refine g_o (op_pickF rfl (ev_ok rfl) (ev_ok rfl)) ?_;conv=>whnf)))
  exact Recast.refl _
 |true=>
  by_cases h0:0<n
  ·have t1:decide (((td n).length:Int)>0)=true:=decide_eq_true (by have:=td_len_zero (n:=n);omega)
   have e:zZ (signed true n)= .agg [.val (.bool true),nN n]:=by
    have h:signed true n<0:=by show -(n:Int)<0;omega
    rw[zZ,decide_eq_true h,signed_abs]
   rw[e]
   (repeat((first|refine step_w1 rfl rfl ?_|refine g_o (op_pickT rfl (ev_ok rfl) (ev_ok rfl)) ?_|refine g_o (op_lenM rfl rfl rfl (ev_ok rfl) (tgt rfl) rfl) ?_|rw[t1]);conv=>whnf))
   exact Recast.refl _
  ·obtain rfl:n=0:=by omega
   have t1:decide (((td 0).length:Int)>0)=false:=rfl
   have e:zZ (signed true 0)= .agg [.val (.bool false),nN 0]:=rfl
   rw[e]
   (repeat((first|refine step_w1 rfl rfl ?_|refine g_o (op_pickT rfl (ev_ok rfl) (ev_ok rfl)) ?_|refine g_o (op_lenM rfl rfl rfl (ev_ok rfl) (tgt rfl) rfl) ?_|rw[t1]);conv=>whnf))
   exact Recast.refl _
theorem r2_From' {neg:Bool} {n:Nat} {z:Int} (hz:signed neg n=z) (hn:(td n).length<1099511627776):CallOK Tryz.prog 248 [.val (.bool neg),nN n] [] (zZ z) [] []:=by
 rw[←hz];exact r2_From neg n hn
theorem r2_Sign (z:Int) (hz:(td z.natAbs).length<1099511627776):CallOK Tryz.prog 251 [zZ z] [] (.val (.int .i64 z.sign)) [] []:=by
 refine callV (Z:=[1]) tabOK mixedOK Tryz.func251 rfl (by kernel_rfl) rfl rfl (by kernel_rfl) rfl ?_
 intro W0 w0 ρ0 hE
 conv=>whnf
 by_cases h0:z=0
 ·subst h0
  have t1:(((td (Int.natAbs 0)).length:Int)==0)=true:=rfl
  (repeat((first|refine step_w1 rfl rfl ?_|refine g_o (op_lenM rfl rfl rfl (ev_ok rfl) (tgt rfl) rfl) ?_|refine g_o (op_loadA rfl (ev_ok rfl) (tgt rfl) rfl (Nat.succ_ne_zero _) rfl) ?_|refine g_o (op_fieldA rfl (ev_ok rfl) (tgt rfl) rfl rfl (Nat.succ_ne_zero _) rfl) ?_);conv=>whnf));(first|exact Recast.refl _|exact Frz.recast (Recast.refl _) rfl|(refine Frz.one rfl rfl ?_;skip)|(refine Frz.tup ?_;skip))
 ·have t1:(((td z.natAbs).length:Int)==0)=false:=beq_false_of_ne (by have:=td_len_zero (n:=z.natAbs);omega)
  by_cases hn:z<0
  ·have t2:decide (z<0)=true:=decide_eq_true hn
   rw[Int.sign_eq_neg_one_of_neg hn]
   (repeat((first|refine step_w1 rfl rfl ?_|refine step_w2 rfl rfl ?_|refine g_o (op_lenM rfl rfl rfl (ev_ok rfl) (tgt rfl) rfl) ?_|refine g_o (op_loadA rfl (ev_ok rfl) (tgt rfl) rfl (Nat.succ_ne_zero _) rfl) ?_|refine g_o (op_fieldA rfl (ev_ok rfl) (tgt rfl) rfl rfl (Nat.succ_ne_zero _) rfl) ?_|rw[t1]|rw[t2]);conv=>whnf));(first|exact Recast.refl _|exact Frz.recast (Recast.refl _) rfl|(refine Frz.one rfl rfl ?_;skip)|(refine Frz.tup ?_;skip))
  ·have t2:decide (z<0)=false:=decide_eq_false hn
   rw[Int.sign_eq_one_of_pos (by omega)]
   (repeat((first|refine step_w2 rfl rfl ?_|refine g_o (op_lenM rfl rfl rfl (ev_ok rfl) (tgt rfl) rfl) ?_|refine g_o (op_loadA rfl (ev_ok rfl) (tgt rfl) rfl (Nat.succ_ne_zero _) rfl) ?_|refine g_o (op_fieldA rfl (ev_ok rfl) (tgt rfl) rfl rfl (Nat.succ_ne_zero _) rfl) ?_|rw[t1]|rw[t2]);conv=>whnf));(first|exact Recast.refl _|exact Frz.recast (Recast.refl _) rfl|(refine Frz.one rfl rfl ?_;skip)|(refine Frz.tup ?_;skip))
theorem r2_Neg (z:Int) (hz:(td z.natAbs).length<1099511627776):CallOK Tryz.prog 333 [zZ z] [] (zZ (-z)) [] []:=by
 have k1:=r2_From' (neg:= !decide (z<0)) (n:=z.natAbs) (z:= -z) (by by_cases h:z<0<;>simp[signed,h]<;>omega) hz
 refine callV (Z:=[1]) tabOK mixedOK Tryz.func333 rfl (by kernel_rfl) rfl rfl (by kernel_rfl) rfl ?_
 intro W0 w0 ρ0 hE
 conv=>whnf
 (repeat(first|(refine g_c (by assumption) ?_;conv=>whnf)|(refine g_o (op_loadA rfl (ev_ok rfl) (tgt rfl) rfl (Nat.succ_ne_zero _) rfl) ?_;conv=>whnf)|(refine g_o (op_fieldA rfl (ev_ok rfl) (tgt rfl) rfl rfl (Nat.succ_ne_zero _) rfl) ?_;conv=>whnf)))
 exact Recast.refl _
theorem r2_Add (a b:Int) (ha:(td a.natAbs).length<536870912) (hb:(td b.natAbs).length<536870912):CallOK Tryz.prog 242 [zZ a,zZ b] [] (zZ (a+b)) [] []:=by
 refine callV (Z:=[2,3]) tabOK mixedOK Tryz.func242 rfl (by kernel_rfl) rfl rfl (by kernel_rfl) rfl ?_
 intro W0 w0 ρ0 hE
 conv=>whnf
 by_cases hs:a<0↔b<0
 ·have t1:(decide (a<0)==decide (b<0))=true:=by rw[decide_eq_decide.2 hs];exact beq_self_eq_true _
  have k1:=r_Add a.natAbs b.natAbs (by omega) (by omega)
  have hl:(td (a.natAbs+b.natAbs)).length<1099511627776:=by
   have h1:(td (a.natAbs+b.natAbs)).length≤max ((td a.natAbs).length) ((td b.natAbs).length)+1:=tlen_le (by
    have h2:=td_lt_pow (n:=a.natAbs) (k:=max ((td a.natAbs).length) ((td b.natAbs).length)) (Nat.le_max_left _ _)
    have h3:=td_lt_pow (n:=b.natAbs) (k:=max ((td a.natAbs).length) ((td b.natAbs).length)) (Nat.le_max_right _ _)
    rw[Nat.pow_succ];omega)
   omega
  have k2:=r2_From' (neg:=decide (a<0)) (n:=a.natAbs+b.natAbs) (z:=a+b) (by unfold signed;by_cases h:a<0<;>simp[h]<;>omega) hl
  (repeat((first|refine step_w1 rfl rfl ?_|refine step_i (by kernel_rfl) ?_|refine g_c (by assumption) ?_|refine g_o (op_loadA rfl (ev_ok rfl) (tgt rfl) rfl (Nat.succ_ne_zero _) rfl) ?_|refine g_o (op_fieldA rfl (ev_ok rfl) (tgt rfl) rfl rfl (Nat.succ_ne_zero _) rfl) ?_|rw[t1]);conv=>whnf))
  exact Recast.refl _
 ·have t1:(decide (a<0)==decide (b<0))=false:=beq_false_of_ne (fun h=>hs (decide_eq_decide.1 h))
  have k1:=r_Cmp a.natAbs b.natAbs (by omega) (by omega)
  by_cases hab:b.natAbs≤a.natAbs
  ·have t2:decide (((a.natAbs:Int) - b.natAbs).sign≥0)=true:=decide_eq_true (by have:=Int.sign_nonneg_iff.2 (show 0≤(a.natAbs:Int) - b.natAbs by omega);omega)
   have k2:=r_Sub a.natAbs b.natAbs hab (by omega)
   have k3:=r2_From' (neg:=decide (a<0)) (n:=a.natAbs - b.natAbs) (z:=a+b) (by unfold signed;by_cases h:a<0<;>simp[h]<;>omega) (td_lt_len (Nat.sub_le _ b.natAbs) (by omega))
   (repeat((first|refine step_w1 rfl rfl ?_|refine step_w2 rfl rfl ?_|refine step_i (by kernel_rfl) ?_|refine g_c (by assumption) ?_|refine g_o (op_loadA rfl (ev_ok rfl) (tgt rfl) rfl (Nat.succ_ne_zero _) rfl) ?_|refine g_o (op_fieldA rfl (ev_ok rfl) (tgt rfl) rfl rfl (Nat.succ_ne_zero _) rfl) ?_|rw[t1]|rw[t2]);conv=>whnf))
   exact Recast.refl _
  ·have t2:decide (((a.natAbs:Int) - b.natAbs).sign≥0)=false:=decide_eq_false (by rw[Int.sign_eq_neg_one_of_neg (show(a.natAbs:Int) - b.natAbs<0 by omega)];omega)
   have k2:=r_Sub b.natAbs a.natAbs (by omega) (by omega)
   have k3:=r2_From' (neg:=decide (b<0)) (n:=b.natAbs - a.natAbs) (z:=a+b) (by unfold signed;by_cases h:b<0<;>simp[h]<;>omega) (td_lt_len (Nat.sub_le _ a.natAbs) (by omega))
   (repeat((first|refine step_w2 rfl rfl ?_|refine step_i (by kernel_rfl) ?_|refine g_c (by assumption) ?_|refine g_o (op_loadA rfl (ev_ok rfl) (tgt rfl) rfl (Nat.succ_ne_zero _) rfl) ?_|refine g_o (op_fieldA rfl (ev_ok rfl) (tgt rfl) rfl rfl (Nat.succ_ne_zero _) rfl) ?_|rw[t1]|rw[t2]);conv=>whnf))
   exact Recast.refl _
theorem tl_mul {a b:Nat}:(td (a*b)).length≤(td a).length+(td b).length:=tlen_le (by
 rcases Nat.eq_zero_or_pos b with h|h
 ·subst h;rw[Nat.mul_zero];exact Nat.pow_pos (by decide)
 ·rw[Nat.pow_add]
  exact Nat.lt_of_lt_of_le (Nat.mul_lt_mul_of_pos_right (tlt_len a) h) (Nat.mul_le_mul_left _ (Nat.le_of_lt (tlt_len b))))
theorem r2_Mul (a b:Int) (ha:(td a.natAbs).length<134217728) (hb:(td b.natAbs).length<134217728):CallOK Tryz.prog 243 [zZ a,zZ b] [] (zZ (a*b)) [] []:=by
 have k1:=r_Mul a.natAbs b.natAbs (by omega) (by omega)
 have k2:=r2_From' (signed_mul a b) (Nat.lt_of_le_of_lt tl_mul (by omega))
 refine callV (Z:=[2,3]) tabOK mixedOK Tryz.func243 rfl (by kernel_rfl) rfl rfl (by kernel_rfl) rfl ?_
 intro W0 w0 ρ0 hE
 conv=>whnf
 (repeat((first|refine step_i (by kernel_rfl) ?_|refine g_c (by assumption) ?_|refine g_o (op_loadA rfl (ev_ok rfl) (tgt rfl) rfl (Nat.succ_ne_zero _) rfl) ?_|refine g_o (op_fieldA rfl (ev_ok rfl) (tgt rfl) rfl rfl (Nat.succ_ne_zero _) rfl) ?_);conv=>whnf))
 exact Recast.refl _
theorem r2_Of (n:Int) (h0: -9223372036854775808≤n) (h1:n<9223372036854775808):CallOK Tryz.prog 247 [.val (.int .i64 n)] [] (zZ n) [] []:=by
 have k1:=r_Of n.natAbs (by omega)
 have hl:(td n.natAbs).length<1099511627776:=Nat.lt_of_le_of_lt (tlen_le (k:=5) (by omega)) (by decide)
 refine callV (Z:=[]) tabOK mixedOK Tryz.func247 rfl (by kernel_rfl) rfl rfl (by kernel_rfl) rfl ?_
 intro W0 w0 ρ0 hE
 conv=>whnf
 by_cases hn:n<0
 ·have t1:decide (n<0)=true:=decide_eq_true hn
  have e1:IntKind.i64.wrap (n+1)=n+1:=wrap_i64 (by omega) (by omega)
  have e2:IntKind.i64.wrap (0 - (n+1))= -(n+1):=by rw[Int.zero_sub];exact wrap_i64 (by omega) (by omega)
  have e3:IntKind.u64.wrap (-(n+1))= -(n+1):=wrap_u64 (by omega) (by omega)
  have e4:IntKind.u64.wrap (-(n+1)+1)=(n.natAbs:Int):=by rw[wrap_u64 (by omega) (by omega)];omega
  have k2:=r2_From' (neg:=true) (n:=n.natAbs) (z:=n) (by show -(n.natAbs:Int)=n;omega) hl
  have e:zZ n= .agg [.val (.bool true),nN n.natAbs]:=by rw[zZ,t1]
  rw[e]at*
  (repeat((first|refine step_w1 rfl rfl ?_|refine g_c (by assumption) ?_|rw[t1]|rw[e1]|rw[e2]|rw[e3]|rw[e4]);conv=>whnf))
  exact Recast.refl _
 ·have t1:decide (n<0)=false:=decide_eq_false hn
  have e1:IntKind.u64.wrap n=(n.natAbs:Int):=by rw[wrap_u64 (by omega) (by omega)];omega
  have k2:=r2_From' (neg:=false) (n:=n.natAbs) (z:=n) (by show(n.natAbs:Int)=n;omega) hl
  have e:zZ n= .agg [.val (.bool false),nN n.natAbs]:=by rw[zZ,t1]
  rw[e]at*
  (repeat((first|refine step_w2 rfl rfl ?_|refine g_c (by assumption) ?_|rw[t1]|rw[e1]);conv=>whnf))
  exact Recast.refl _
theorem r3_one:CallOK Tryz.prog 322 [] [] (nN 1) [] []:=by
 have k1:=r_Of 1 (by decide)
 refine callV (Z:=[]) tabOK mixedOK Tryz.func322 rfl (by kernel_rfl) rfl rfl (by kernel_rfl) rfl ?_
 intro W0 w0 ρ0 hE
 conv=>whnf
 (repeat(first|(refine g_c (by assumption) ?_;conv=>whnf)));(first|exact Recast.refl _|exact Frz.recast (Recast.refl _) rfl|(refine Frz.one rfl rfl ?_;skip)|(refine Frz.tup ?_;skip))
theorem r3_Den (q:Rat) (h:(td q.den).length<134217728):CallOK Tryz.prog 246 [fF q] [] (nN q.den) [] []:=by
 have k0:=r3_one
 have k1:=r_Add (q.den - 1) 1 (Nat.lt_of_le_of_lt (td_len_mono (Nat.sub_le q.den 1)) (by omega)) (by decide)
 rw[den_pred]at k1
 refine callV (Z:=[1]) tabOK mixedOK Tryz.func246 rfl (by kernel_rfl) rfl rfl (by kernel_rfl) rfl ?_
 intro W0 w0 ρ0 hE
 conv=>whnf
 (repeat((first|refine step_i (by kernel_rfl) ?_|refine g_c (by assumption) ?_|refine g_o (op_loadA rfl (ev_ok rfl) (tgt rfl) rfl (Nat.succ_ne_zero _) rfl) ?_|refine g_o (op_fieldA rfl (ev_ok rfl) (tgt rfl) rfl rfl (Nat.succ_ne_zero _) rfl) ?_);conv=>whnf));(first|exact Recast.refl _|exact Frz.recast (Recast.refl _) rfl|(refine Frz.one rfl rfl ?_;skip)|(refine Frz.tup ?_;skip))
theorem r3_den (q:Rat) (h:(td q.den).length<134217728):CallOK Tryz.prog 244 [fF q] [] (zZ q.den) [] []:=by
 have k0:=r3_Den q h
 have k1:=r2_From' (neg:=false) (n:=q.den) (z:=(q.den:Int)) rfl (by omega)
 refine callV (Z:=[1]) tabOK mixedOK Tryz.func244 rfl (by kernel_rfl) rfl rfl (by kernel_rfl) rfl ?_
 intro W0 w0 ρ0 hE
 conv=>whnf
 (repeat(first|(refine g_c (by assumption) ?_;conv=>whnf)|(refine g_o (op_loadA rfl (ev_ok rfl) (tgt rfl) rfl (Nat.succ_ne_zero _) rfl) ?_;conv=>whnf)))
 exact Recast.refl _
theorem signed_num {n:Int} {d:Nat} (hd:d≠0):signed (decide (n<0)) (n.natAbs/Nat.gcd n.natAbs d)=(mkRat n d).num:=by
 rw[num_mkRat hd]
 have hdv:Nat.gcd n.natAbs d ∣ n.natAbs:=Nat.gcd_dvd_left _ _
 unfold signed
 by_cases hn:n<0
 ·rw[decide_eq_true hn,if_pos rfl]
  have:n= -(n.natAbs:Int):=by omega
  rw[Int.natCast_ediv,←Int.neg_ediv_of_dvd (Int.natCast_dvd_natCast.2 hdv),←this]
 ·rw[decide_eq_false hn]
  simp only[Bool.false_eq_true,if_false]
  have:n=(n.natAbs:Int):=by omega
  rw[Int.natCast_ediv,←this]
theorem r3_From (n:Int) (d:Nat) (hd:d≠0) (h1:(td n.natAbs).length<268435456) (h2:(td d).length<268435456):CallOK Tryz.prog 241 [zZ n,nN d] [] (fF (mkRat n d)) [] []:=by
 have hg:Nat.gcd n.natAbs d≠0:=fun h=>hd (Nat.gcd_eq_zero_iff.1 h).2
 have hgl:(td (Nat.gcd n.natAbs d)).length<268435456:=td_lt_len (Nat.le_of_dvd (by omega) (Nat.gcd_dvd_right _ _)) h2
 have hq:d/Nat.gcd n.natAbs d≠0:=Nat.div_ne_zero_iff.2 ⟨hg,Nat.le_of_dvd (by omega) (Nat.gcd_dvd_right _ _)⟩
 have k1:=r_Gcd n.natAbs d h1 h2
 have k2:=r_Div n.natAbs (Nat.gcd n.natAbs d) (by omega) h1 hgl
 have k3:=r_Div d (Nat.gcd n.natAbs d) (by omega) h2 hgl
 have k4:=r2_From' (signed_num (n:=n) hd) (td_lt_len (Nat.div_le_self _ _) (by omega))
 have k5:=r3_one
 have k6:CallOK Tryz.prog 321 [nN (d/Nat.gcd n.natAbs d),nN 1] [] (nN ((mkRat n d).den - 1)) [] []:=by
  rw[den_mkRat hd];exact r_Sub (d/Nat.gcd n.natAbs d) 1 (Nat.pos_of_ne_zero hq) (td_lt_len (Nat.div_le_self _ _) (by omega))
 refine callV (Z:=[2]) tabOK mixedOK Tryz.func241 rfl (by kernel_rfl) rfl rfl (by kernel_rfl) rfl ?_
 intro W0 w0 ρ0 hE
 conv=>whnf
 (repeat(first|(refine g_c (by assumption) ?_;conv=>whnf)|(refine g_o (op_loadA rfl (ev_ok rfl) (tgt rfl) rfl (Nat.succ_ne_zero _) rfl) ?_;conv=>whnf)|(refine g_o (op_fieldA rfl (ev_ok rfl) (tgt rfl) rfl rfl (Nat.succ_ne_zero _) rfl) ?_;conv=>whnf)))
 exact Recast.refl _
theorem tl_fs {q:Rat} {M:Nat} (h:fs q≤M):(td q.num.natAbs).length≤M∧(td q.den).length≤M:=by
 have h1:=fsz_num q;have h2:=fsz_den q
 unfold fs at h
 exact⟨tl_sz (by omega),tl_sz (by omega)⟩
theorem tl_sz13 {n M:Nat} (h:sz n≤M):(td n).length≤M/13+1:=tlen_le (Nat.lt_of_lt_of_le (sz_le.1 h) (Nat.le_trans (Nat.pow_le_pow_right (by decide) (show M≤13*(M/13+1) by omega)) (by
 rw[Nat.pow_mul]
 exact Nat.pow_le_pow_left (by decide) _)))
theorem tl_f13 {q:Rat} {M:Nat} (h:fs q≤M):(td q.num.natAbs).length≤M/13+1∧(td q.den).length≤M/13+1:=by
 have h1:=fsz_num q;have h2:=fsz_den q
 unfold fs at h
 exact⟨tl_sz13 (by omega),tl_sz13 (by omega)⟩
theorem r3_Int (n:Int) (h0: -9223372036854775808≤n) (h1:n<9223372036854775808):CallOK Tryz.prog 145 [.val (.int .i64 n)] [] (fF (n:Rat)) [] []:=by
 have k1:=r2_Of n h0 h1
 have e:fF (n:Rat)= .agg [zZ n,vecA 1 []]:=by rw[fF];rfl
 rw[e]
 refine callF (Z:=[]) tabOK mixedOK Tryz.func145 rfl (by kernel_rfl) (by first|rfl|(simp[keylessL,keyless,keylessL_map, *];done)) (by first|rfl|(simp[keylessL,keyless,keylessL_map, *];done)) (by kernel_rfl) rfl ?_
 intro w0 ρ0 hE
 conv=>whnf
 (repeat(first|(refine g_c (by assumption) ?_;conv=>whnf)));(first|exact Recast.refl _|exact Frz.recast (Recast.refl _) rfl|(refine Frz.one rfl rfl ?_;(repeat(first|exact FrzC.keyless rfl|exact FrzL.nil|refine FrzL.cons ?_ ?_|exact FrzC.nilS|refine FrzC.agg ?_)))|(refine Frz.tup ?_;skip))
theorem r3_Sign (q:Rat) (h:(td q.num.natAbs).length<1099511627776):CallOK Tryz.prog 152 [fF q] [] (.val (.int .i64 q.num.sign)) [] []:=by
 have k1:=r2_Sign q.num h
 refine callV (Z:=[1]) tabOK mixedOK Tryz.func152 rfl (by kernel_rfl) rfl rfl (by kernel_rfl) rfl ?_
 intro W0 w0 ρ0 hE
 conv=>whnf
 (repeat(first|(refine g_c (by assumption) ?_;conv=>whnf)|(refine g_o (op_loadA rfl (ev_ok rfl) (tgt rfl) rfl (Nat.succ_ne_zero _) rfl) ?_;conv=>whnf)|(refine g_o (op_fieldA rfl (ev_ok rfl) (tgt rfl) rfl rfl (Nat.succ_ne_zero _) rfl) ?_;conv=>whnf)));(first|exact Recast.refl _|exact Frz.recast (Recast.refl _) rfl|(refine Frz.one rfl rfl ?_;skip)|(refine Frz.tup ?_;skip))
theorem r3_Neg (q:Rat) (h:(td q.num.natAbs).length<1099511627776):CallOK Tryz.prog 267 [fF q] [] (fF (-q)) [] []:=by
 have k1:=r2_Neg q.num h
 have e:fF (-q)= .agg [zZ (-q.num),nN (q.den - 1)]:=by rw[fF,Rat.neg_num,Rat.neg_den]
 rw[e]
 refine callV (Z:=[1]) tabOK mixedOK Tryz.func267 rfl (by kernel_rfl) rfl rfl (by kernel_rfl) rfl ?_
 intro W0 w0 ρ0 hE
 conv=>whnf
 (repeat((first|refine step_i (by kernel_rfl) ?_|refine g_c (by assumption) ?_|refine g_o (op_loadA rfl (ev_ok rfl) (tgt rfl) rfl (Nat.succ_ne_zero _) rfl) ?_|refine g_o (op_fieldA rfl (ev_ok rfl) (tgt rfl) rfl rfl (Nat.succ_ne_zero _) rfl) ?_);conv=>whnf))
 exact Recast.refl _
theorem r3_Add9 (a b:Rat) (h:fs a+fs b≤1700000000):CallOK Tryz.prog 143 [fF a,fF b] [] (fF (a+b)) [] []:=by
 obtain⟨a1,a2⟩:=tl_f13 (q:=a) (Nat.le_refl _)
 obtain⟨b1,b2⟩:=tl_f13 (q:=b) (Nat.le_refl _)
 have n1:=fsz_num a;have n2:=fsz_den a;have n3:=fsz_num b;have n4:=fsz_den b
 have m1:=tl_mul (a:=a.num.natAbs) (b:=b.den)
 have m2:=tl_mul (a:=b.num.natAbs) (b:=a.den)
 have m3:=tl_mul (a:=a.den) (b:=b.den)
 have k1:=r3_den b (by omega)
 have k2:=r3_den a (by omega)
 have k3:=r2_Mul a.num b.den (by omega) (by rw[Int.natAbs_natCast];omega)
 have k4:=r2_Mul b.num a.den (by omega) (by rw[Int.natAbs_natCast];omega)
 have k5:=r2_Add (a.num*b.den) (b.num*a.den) (by rw[Int.natAbs_mul,Int.natAbs_natCast];omega) (by rw[Int.natAbs_mul,Int.natAbs_natCast];omega)
 have k6:=r3_Den a (by omega)
 have k7:=r3_Den b (by omega)
 have k8:=r_Mul a.den b.den (by omega) (by omega)
 have m4:(td (a.num*b.den+b.num*a.den).natAbs).length≤(fs a+fs b+1)/13+1:=tl_sz13 (by
  have h1:=sz_mul a.num.natAbs b.den
  have h2:=sz_mul b.num.natAbs a.den
  unfold fs
  refine Nat.le_trans (sz_mono (Int.natAbs_add_le _ _)) (Nat.le_trans (sz_add (k:=fsz a+fsz b) ?_ ?_) (by omega))
  ·rw[Int.natAbs_mul,Int.natAbs_natCast];omega
  ·rw[Int.natAbs_mul,Int.natAbs_natCast];omega)
 have k9:=r3_From (a.num*b.den+b.num*a.den) (a.den*b.den) (Nat.mul_ne_zero a.den_nz b.den_nz) (by omega) (by omega)
 rw[←Rat.add_def']at k9
 clear m1 m2 m3 m4 n1 n2 n3 n4
 refine callV (Z:=[2,3]) tabOK mixedOK Tryz.func143 rfl (by kernel_rfl) rfl rfl (by kernel_rfl) rfl ?_
 intro W0 w0 ρ0 hE
 conv=>whnf
 (repeat((first|refine step_i (by kernel_rfl) ?_|refine g_c (by assumption) ?_|refine g_o (op_loadA rfl (ev_ok rfl) (tgt rfl) rfl (Nat.succ_ne_zero _) rfl) ?_|refine g_o (op_fieldA rfl (ev_ok rfl) (tgt rfl) rfl rfl (Nat.succ_ne_zero _) rfl) ?_);conv=>whnf))
 exact Recast.refl _
theorem r3_Add (a b:Rat) (h:fs a+fs b≤100000000):CallOK Tryz.prog 143 [fF a,fF b] [] (fF (a+b)) [] []:=r3_Add9 a b (by omega)
theorem r3_Sub (a b:Rat) (h:fs a+fs b≤100000000):CallOK Tryz.prog 295 [fF a,fF b] [] (fF (a - b)) [] []:=by
 obtain⟨b1,b2⟩:=tl_fs (q:=b) (Nat.le_refl _)
 have k1:=r3_Neg b (by omega)
 have k2:=r3_Add a (-b) (by rw[fs_neg];exact h)
 rw[←Rat.sub_eq_add_neg]at k2
 refine callV (Z:=[2,3]) tabOK mixedOK Tryz.func295 rfl (by kernel_rfl) rfl rfl (by kernel_rfl) rfl ?_
 intro W0 w0 ρ0 hE
 conv=>whnf
 (repeat(first|(refine step_i (by kernel_rfl) ?_;conv=>whnf)|(refine g_c (by assumption) ?_;conv=>whnf)|(refine g_o (op_loadA rfl (ev_ok rfl) (tgt rfl) rfl (Nat.succ_ne_zero _) rfl) ?_;conv=>whnf)))
 exact Recast.refl _
theorem r3_Mul9 (a b:Rat) (h:fs a+fs b≤1700000000):CallOK Tryz.prog 144 [fF a,fF b] [] (fF (a*b)) [] []:=by
 obtain⟨a1,a2⟩:=tl_f13 (q:=a) (Nat.le_refl _)
 obtain⟨b1,b2⟩:=tl_f13 (q:=b) (Nat.le_refl _)
 have m1:=tl_mul (a:=a.num.natAbs) (b:=b.num.natAbs)
 have m3:=tl_mul (a:=a.den) (b:=b.den)
 have k3:=r2_Mul a.num b.num (by omega) (by omega)
 have k6:=r3_Den a (by omega)
 have k7:=r3_Den b (by omega)
 have k8:=r_Mul a.den b.den (by omega) (by omega)
 have k9:=r3_From (a.num*b.num) (a.den*b.den) (Nat.mul_ne_zero a.den_nz b.den_nz) (by rw[Int.natAbs_mul];omega) (by omega)
 rw[←Rat.mul_def']at k9
 clear m1 m3
 refine callV (Z:=[2,3]) tabOK mixedOK Tryz.func144 rfl (by kernel_rfl) rfl rfl (by kernel_rfl) rfl ?_
 intro W0 w0 ρ0 hE
 conv=>whnf
 (repeat((first|refine step_i (by kernel_rfl) ?_|refine g_c (by assumption) ?_|refine g_o (op_loadA rfl (ev_ok rfl) (tgt rfl) rfl (Nat.succ_ne_zero _) rfl) ?_|refine g_o (op_fieldA rfl (ev_ok rfl) (tgt rfl) rfl rfl (Nat.succ_ne_zero _) rfl) ?_);conv=>whnf))
 exact Recast.refl _
theorem r3_Mul (a b:Rat) (h:fs a+fs b≤100000000):CallOK Tryz.prog 144 [fF a,fF b] [] (fF (a*b)) [] []:=r3_Mul9 a b (by omega)
theorem r3_Div (a b:Rat) (hb:b≠0) (h:fs a+fs b≤100000000):CallOK Tryz.prog 147 [fF a,fF b] [] (fF (a/b)) [] []:=by
 have hn:b.num≠0:=fun h=>hb (Rat.num_eq_zero.1 h)
 obtain⟨b1,b2⟩:=tl_fs (q:=b) (Nat.le_refl _)
 have k1:=r3_Sign b (by omega)
 have t1:(b.num.sign==0)=false:=beq_false_of_ne (fun h=>hn (Int.sign_eq_zero_iff_zero.1 h))
 have k2:=r3_Den b (by omega)
 have k3:=r2_From (decide (b.num<0)) b.den (by omega)
 have e1:decide (b.num<0)=decide (b.num.sign<0):=decide_eq_decide.2 Int.sign_neg_iff.symm
 have k4:=r3_From (signed (decide (b.num<0)) b.den) b.num.natAbs (by omega) (by rw[signed_abs];omega) (by omega)
 rw[e1,mkRat_inv hn,←e1]at k4
 have k5:=r3_Mul a b⁻¹ (by have:=fs_inv b;omega)
 rw[←Rat.div_def]at k5
 refine callV (Z:=[2,3]) tabOK mixedOK Tryz.func147 rfl (by kernel_rfl) rfl rfl (by kernel_rfl) rfl ?_
 intro W0 w0 ρ0 hE
 conv=>whnf
 (repeat((first|refine step_w2 rfl rfl ?_|refine step_i (by kernel_rfl) ?_|refine g_c (by assumption) ?_|refine g_o (op_loadA rfl (ev_ok rfl) (tgt rfl) rfl (Nat.succ_ne_zero _) rfl) ?_|refine g_o (op_fieldA rfl (ev_ok rfl) (tgt rfl) rfl rfl (Nat.succ_ne_zero _) rfl) ?_|rw[t1]);conv=>whnf))
 exact Recast.refl _
theorem r3_Of (n d:Int) (hn0: -9223372036854775808≤n) (hn1:n<9223372036854775808) (hd0: -9223372036854775808≤d) (hd1:d<9223372036854775808) (hd:d≠0):CallOK Tryz.prog 154 [.val (.int .i64 n),.val (.int .i64 d)] [] (fF ((n:Rat)/(d:Rat))) [] []:=by
 have k1:=r3_Int n hn0 hn1
 have k2:=r3_Int d hd0 hd1
 have f1:=fs_int hn0 hn1
 have f2:=fs_int hd0 hd1
 have k3:=r3_Div (n:Rat) (d:Rat) (fun h=>hd (by have:=congrArg Rat.num h;simpa using this)) (by omega)
 refine callV (Z:=[]) tabOK mixedOK Tryz.func154 rfl (by kernel_rfl) rfl rfl (by kernel_rfl) rfl ?_
 intro W0 w0 ρ0 hE
 conv=>whnf
 (repeat(first|(refine g_c (by assumption) ?_;conv=>whnf)))
 exact Recast.refl _
end Go.Proofs.YtfpagioknjjacaaGreatDoor
namespace Go.Proofs.YtfpagioknjjacaaGreatDoor
open Go.Sx
set_option linter.unusedSimpArgs false
set_option linter.unusedVariables false
set_option maxRecDepth 100000
set_option maxHeartbeats 4000000
theorem op_digit {P:Program} {o:Oper} {fr:List (Nat×SV)} {fk:List (Nat×Blk)} {src dst:TypeId} {x:Operand} {ti td:TI} {kd kd':IntKind} {d:Nat} (ho:o.op= .convert src dst x) (hx:EvOK fr x (.val (.int kd (d:Nat)))) (hd:d<128)
  (ht:TOK P src ti) (hk:ti.kind= .int kd') (htd:TOK P dst td) (hkd:td.kind= .str):OpOK P o fr fk (.val (.string ⟨#[UInt8.ofNat d]⟩)) [] []:=
 ok_pure fun ρ a w hp=>by
  have hv:=of_has_val (hx ρ a hp.hft)
  have hu:=ht.kind;rw[hk]at hu
  have hud:=htd.kind;rw[hkd]at hud
  refine⟨_, ?_,has_val rfl⟩
  have e:Utf8.encode (d:Int)=⟨#[UInt8.ofNat d]⟩:=by
   exact(show ∀d,d<128→Utf8.encode ((d:Nat):Int)=⟨#[UInt8.ofNat d]⟩ by decide+kernel) d hd
  simp only[execOp,ho,hv,convert,Sem.run_bind,run_underlying hu,run_underlying hud,Result.andThen_ok,Conv.intToString,Sem.run_pure,e]
theorem pad_front:∀e n,padF (e+1) (n % 10^(e+1))=UInt8.ofNat (48+n/10^e % 10)::padF e (n % 10^e)
 |0,n=>by simp[padF]
 |e+1,n=>by
  have h1:n % 10^(e+2)/10=n/10 % 10^(e+1):=by rw[Nat.pow_succ 10 (e+1),Nat.mul_comm,Nat.mod_mul_right_div_self]
  have h2:n % 10^(e+1)/10=n/10 % 10^e:=by rw[Nat.pow_succ,Nat.mul_comm,Nat.mod_mul_right_div_self]
  have h3:n % 10^(e+2) % 10=n % 10:=Nat.mod_mod_of_dvd _ (Nat.dvd_trans (by exact⟨1,rfl⟩) (Nat.dvd_trans (show 10 ∣ 10^1 from⟨1,rfl⟩) (Nat.pow_dvd_pow 10 (by omega))))
  have h4:n % 10^(e+1) % 10=n % 10:=Nat.mod_mod_of_dvd _ (Nat.dvd_trans (show 10 ∣ 10^1 from⟨1,rfl⟩) (Nat.pow_dvd_pow 10 (by omega)))
  rw[padF,h1,h3,pad_front e (n/10),padF,h2,h4,Nat.div_div_eq_div_mul,←Nat.pow_succ']
  rfl
theorem pad_full:∀e n,n<10^(e+1)→(e=0∨10^e≤n)→padF (e+1) n=Lib.decDigits n
 |0,n,h,_=>by
  have h:n<10:=by simpa using h
  rw[padF,dec_lt h,show n % 10=n by omega];rfl
 |e+1,n,h,h'=>by
  have h2:10^(e+1)≤n:=h'.resolve_left (by omega)
  have h10:10≤n:=Nat.le_trans (Nat.le_trans (by decide) (Nat.pow_le_pow_right (n:=10) (by decide) (show 1≤e+1 by omega))) h2
  rw[Nat.pow_succ]at h
  rw[padF,dec_big h10,pad_full e (n/10) (by omega) (by
   rw[Nat.pow_succ]at h2
   exact .inr (by omega))]
theorem bytes_cons (c:UInt8) (l:List UInt8):(⟨#[c]⟩:ByteArray)++⟨l.toArray⟩=⟨(c::l).toArray⟩:=by
 apply ByteArray.ext
 rw[ByteArray.data_append]
 apply Array.ext'
 simp
abbrev dS (l:List UInt8):SV:=.val (.string ⟨l.toArray⟩)
theorem padF_len:∀k r,(padF k r).length=k
 |0,_=>rfl
 |k+1,r=>by rw[padF,List.length_append,padF_len k];rfl
theorem r_Text (n:Nat) (hn:(td n).length<268435456):CallOK Tryz.prog 250 [nN n] [] (.val (.string (tN n))) [] []:=by
 rw[tN_eq]
 by_cases h0:n=0
 ·subst h0
  have t1:(((td 0).length:Int)==0)=true:=rfl
  have e:(⟨(Lib.decDigits 0).toArray⟩:ByteArray)=⟨#[48]⟩:=by rw[dec_lt (by decide)];rfl
  rw[e]
  refine callV (Z:=[]) tabOK mixedOK Tryz.func250 rfl (by kernel_rfl) rfl rfl (by kernel_rfl) rfl ?_
  intro W0 w0 ρ0 hE
  conv=>whnf
  (repeat(first|(refine step_w1 rfl rfl ?_;conv=>whnf)|(refine g_o (op_lenM rfl rfl rfl (ev_ok rfl) (tgt rfl) rfl) ?_;conv=>whnf)));(first|exact Recast.refl _|exact Frz.recast (Recast.refl _) rfl|(refine Frz.one rfl rfl ?_;skip)|(refine Frz.tup ?_;skip))
 have hl0:=td_len_zero (n:=n)
 have t1:(((td n).length:Int)==0)=false:=beq_false_of_ne (by omega)
 have htop:=td_ge_pow h0
 have hnlt:=tlt_len n
 have p10:∀i,(10000:Nat)^i=10^(4*i):=fun i=>by rw[Nat.pow_mul]
 refine callV (Z:=[]) tabOK mixedOK Tryz.func250 rfl (by kernel_rfl) rfl rfl (by kernel_rfl) rfl ?_
 intro W0 w0 ρ0 hE
 conv=>whnf
 (repeat(first|(refine step_w2 rfl rfl ?_;conv=>whnf)|(refine g_o (op_lenM rfl rfl rfl (ev_ok rfl) (tgt rfl) rfl) ?_;conv=>whnf)|(rw[t1];conv=>whnf)))
 refine SW_loopN hE (fun k=>k) [0,3,4] [] (fun q fr hp=>∃(i:Nat) (l:List UInt8),q=(td n).length - i∧i≤(td n).length∧l.length≤4*i∧(i<(td n).length→l=padF (4*i) (n % 10^(4*i)))∧(i=(td n).length→l=Lib.decDigits n)∧
  fr=[(0,nN n),(3,dS l),(4,.val (.int .i64 (i:Nat)))]∧hp=[]) (td n).length ?_ ?_ ?_
 ·kernel_rfl
 ·exact⟨0,[],rfl,Nat.zero_le _,by simp,(fun _=>rfl),(fun h=>by omega),rfl,rfl⟩
 rintro q _ _ ⟨i,l,rfl,hi,hll,hl1,hl2,rfl,rfl⟩
 conv=>whnf
 by_cases hlt:i<(td n).length
 ·have t2:decide ((i:Int)<((td n).length:Int))=true:=decide_eq_true (by omega)
  have e1:=winc (i:=i) (by omega)
  obtain rfl:=hl1 hlt
  clear hl1 hl2 hll
  have hg:=td_get n i
  have hd:n/10000^i % 10000=n/10^(4*i) % 10^4:=by rw[p10]
  have hlast:i+1=(td n).length→n/10^(4*i)<10^4∧0<n/10^(4*i):=fun h=>by
   rw[←p10]
   constructor
   ·rw[Nat.div_lt_iff_lt_mul (Nat.pow_pos (by decide)),show(10:Nat)^4=10000^1 from rfl,←Nat.pow_add,Nat.add_comm,h];exact hnlt
   ·exact Nat.div_pos (by rw[←h,Nat.add_sub_cancel]at htop;exact htop) (Nat.pow_pos (by decide))
  (repeat((first|refine step_w1 rfl rfl ?_|refine g_o (op_lenM rfl rfl rfl (ev_ok rfl) (tgt rfl) rfl) ?_|refine g_o (op_loadA rfl (ev_ok rfl) (tgt rfl) rfl (Nat.succ_ne_zero _) rfl) ?_|refine g_o (op_indexN (α:=Int) (d:=0) rfl (ev_ok rfl) (ev_ok rfl) (tgt rfl) rfl (tgt rfl) rfl (by omega)) ?_|rw[t2]|rw[hg]);conv=>whnf))
  refine SW_loopN hE (fun k=>k) [0,3,4,5,6] [] (fun q fr hp=>∃k:Nat,q=4 - k∧k≤4∧(i+1=(td n).length→k=0∨0<n/10^(4*i+(k - 1)))∧
   fr=[(0,nN n),(3,dS (padF (4*i+k) (n % 10^(4*i+k)))),(4,.val (.int .i64 (i:Nat))),(5,.val (.int .i64 ((n/10^(4*i) % 10^4/10^k:Nat):Int))),(6,.val (.int .i64 (k:Nat)))]∧hp=[]) 4 ?_ ?_ ?_
  ·kernel_rfl
  ·exact⟨0,rfl,Nat.zero_le _,(fun _=>.inl rfl),by rw[Nat.add_zero,Nat.pow_zero,Nat.div_one,←hd];rfl,rfl⟩
  rintro q _ _ ⟨k,rfl,hk,hkl,rfl,rfl⟩
  have hlen:=padF_len (4*i+k) (n % 10^(4*i+k))
  have hdv:n/10^(4*i) % 10^4/10^k<10000:=Nat.lt_of_le_of_lt (Nat.div_le_self _ _) (Nat.mod_lt _ (by decide))
  have hnext:n/10^(4*i) % 10^4/10^k/10=n/10^(4*i) % 10^4/10^(k+1):=by rw[Nat.div_div_eq_div_mul,←Nat.pow_succ]
  have hdig:k<4→n/10^(4*i) % 10^4/10^k % 10=n/10^(4*i+k) % 10:=fun h=>by
   have e4:(10:Nat)^4=10^k*10^(4 - k):=by rw[←Nat.pow_add];congr 1;omega
   rw[e4,Nat.mod_mul_right_div_self,Nat.div_div_eq_div_mul,←Nat.pow_add]
   refine Nat.mod_mod_of_dvd _ ?_
   exact Nat.dvd_trans (show 10 ∣ 10^1 from⟨1,rfl⟩) (Nat.pow_dvd_pow 10 (by omega))
  have hlz:i+1=(td n).length→n/10^(4*i) % 10^4/10^k=n/10^(4*i+k):=fun h=>by
   rw[Nat.mod_eq_of_lt (hlast h).1,Nat.div_div_eq_div_mul,←Nat.pow_add]
  have hfront:=pad_front (4*i+k) n
  conv=>whnf
  generalize hD:n/10^(4*i) % 10^4/10^k=D at*
  by_cases hk4:k<4
  ·have t3:decide ((k:Int)<4)=true:=decide_eq_true (by omega)
   have e2:=winc (i:=k) (by omega)
   have hgoes:(i+1<(td n).length∨0<D)→True:=fun _=>trivial
   have e3:(D:Int).tmod 10=((D % 10:Nat):Int):=by rw[Int.tmod_eq_emod_of_nonneg (by omega)];rfl
   have e4:IntKind.i64.wrap (48+((D % 10:Nat):Int))=((48+D % 10:Nat):Int):=by rw[wrap_i64 (by omega) (by omega)];omega
   have e5:IntKind.u8.wrap ((48+D % 10:Nat):Int)=((48+D % 10:Nat):Int):=by rw[IntKind.wrap_u8];omega
   have e6:IntKind.i64.wrap ((D:Int).tdiv 10)=((D/10:Nat):Int):=by rw[Int.tdiv_eq_ediv_of_nonneg (by omega)];exact wrap_i64 (by omega) (by omega)
   have e7:(D:Int).tdiv 10=((D/10:Nat):Int):=by rw[Int.tdiv_eq_ediv_of_nonneg (by omega)];rfl
   have hob:(⟨#[UInt8.ofNat (48+D % 10)]⟩:ByteArray).size+(⟨(padF (4*i+k) (n % 10^(4*i+k))).toArray⟩:ByteArray).size≤9223372036854775807:=by
    have h1:(⟨(padF (4*i+k) (n % 10^(4*i+k))).toArray⟩:ByteArray).size=4*i+k:=by show(padF _ _).toArray.size=_;rw[List.size_toArray,hlen]
    have h2:(⟨#[UInt8.ofNat (48+D % 10)]⟩:ByteArray).size=1:=rfl
    omega
   have hbc:=bytes_cons (UInt8.ofNat (48+D % 10)) (padF (4*i+k) (n % 10^(4*i+k)))
   rw[hdig hk4]at hbc
   rw[←hfront]at hbc
   rw[←hdig hk4]at hbc
   by_cases hm:i+1<(td n).length
   ·have t4:decide (((i+1:Nat):Int)<((td n).length:Int))=true:=decide_eq_true (by omega)
    (repeat((first|refine step_w1 rfl rfl ?_|refine step_w2 rfl rfl ?_|refine step_oM (by first|omega|decide|(simp only[tl0,dlen,List.length_replicate,List.length_set,List.length_map,List.length_zipWith,List.length_take,List.length_append,List.length_cons,List.length_nil];omega)) ?_|refine step_oN (by first|omega|decide|(simp only[tl0,dlen,List.length_replicate,List.length_set,List.length_map,List.length_zipWith,List.length_take,List.length_append,List.length_cons,List.length_nil];omega)) ?_|refine g_o (op_pickT rfl (ev_ok rfl) (ev_ok rfl)) ?_|refine g_o (op_lenM rfl rfl rfl (ev_ok rfl) (tgt rfl) rfl) ?_|refine⟨_,[],[],op_digit rfl (ev_ok rfl) (by omega) (tabOK.get (t:=5) rfl) rfl (tabOK.get (t:=9) rfl) rfl,nil_fk,nil_new, ?_⟩|rw[t3]|rw[e1]|rw[t4]|rw[e3]|rw[e4]|rw[e5]|rw[e6]|rw[hbc]|rw[e2]);conv=>whnf))
    exact⟨4 - (k+1),fun k=>k,[0,3,4,5,6],[],by omega,by kernel_rfl,k+1,rfl,by omega,(fun h=>by omega),by rw[←hnext];rfl,rfl⟩
   ·have t4:decide (((i+1:Nat):Int)<((td n).length:Int))=false:=decide_eq_false (by omega)
    by_cases hd0:0<D
    ·have t5:decide ((D:Int)>0)=true:=decide_eq_true (by omega)
     have hpos:0<n/10^(4*i+(k+1 - 1)):=by rw[Nat.add_sub_cancel,←hlz (by omega)];exact hd0
     (repeat((first|refine step_w1 rfl rfl ?_|refine step_oM (by first|omega|decide|(simp only[tl0,dlen,List.length_replicate,List.length_set,List.length_map,List.length_zipWith,List.length_take,List.length_append,List.length_cons,List.length_nil];omega)) ?_|refine step_oN (by first|omega|decide|(simp only[tl0,dlen,List.length_replicate,List.length_set,List.length_map,List.length_zipWith,List.length_take,List.length_append,List.length_cons,List.length_nil];omega)) ?_|refine g_o (op_pickT rfl (ev_ok rfl) (ev_ok rfl)) ?_|refine g_o (op_pickF rfl (ev_ok rfl) (ev_ok rfl)) ?_|refine g_o (op_lenM rfl rfl rfl (ev_ok rfl) (tgt rfl) rfl) ?_|refine⟨_,[],[],op_digit rfl (ev_ok rfl) (by omega) (tabOK.get (t:=5) rfl) rfl (tabOK.get (t:=9) rfl) rfl,nil_fk,nil_new, ?_⟩|rw[t3]|rw[e1]|rw[t4]|rw[t5]|rw[e3]|rw[e4]|rw[e5]|rw[e6]|rw[hbc]|rw[e2]);conv=>whnf))
     exact⟨4 - (k+1),fun k=>k,[0,3,4,5,6],[],by omega,by kernel_rfl,k+1,rfl,by omega,(fun _=>.inr hpos),by rw[←hnext];rfl,rfl⟩
    ·have t5:decide ((D:Int)>0)=false:=decide_eq_false (by omega)
     have hz:=hlz (by omega)
     have hfull:padF (4*i+k) (n % 10^(4*i+k))=Lib.decDigits n:=by
      have hlt10:n<10^(4*i+k):=by
       rcases Nat.lt_or_ge n (10^(4*i+k))with g|g
       ·exact g
       ·have:=Nat.div_pos g (Nat.pow_pos (n:=4*i+k) (by decide));omega
      rcases hkl (by omega)with g|g
      ·subst g
       have:=(hlast (by omega)).2
       rw[Nat.add_zero]at hz;omega
      ·obtain⟨k,rfl⟩:∃j,k=j+1:=by
        rcases Nat.eq_zero_or_pos k with g2|g2
        ·subst g2;have:=(hlast (by omega)).2;rw[Nat.add_zero]at hz;omega
        ·exact⟨k - 1,by omega⟩
       rw[Nat.mod_eq_of_lt hlt10]
       refine pad_full (4*i+k) n hlt10 (.inr ?_)
       rcases Nat.lt_or_ge n (10^(4*i+k))with g3|g3
       ·rw[Nat.add_sub_cancel,Nat.div_eq_of_lt g3]at g;omega
       ·exact g3
     (repeat((first|refine step_w1 rfl rfl ?_|refine step_w2 rfl rfl ?_|refine g_o (op_pickT rfl (ev_ok rfl) (ev_ok rfl)) ?_|refine g_o (op_pickF rfl (ev_ok rfl) (ev_ok rfl)) ?_|refine g_o (op_lenM rfl rfl rfl (ev_ok rfl) (tgt rfl) rfl) ?_|rw[t3]|rw[e1]|rw[t4]|rw[t5]);conv=>whnf))
     exact⟨(td n).length - (i+1),fun k=>k,[0,3,4],[],by omega,by kernel_rfl,i+1,_,rfl,by omega,by rw[padF_len];omega,(fun h=>by omega),(fun _=>hfull),rfl,rfl⟩
  ·obtain rfl:k=4:=by omega
   have t3:decide (((4:Nat):Int)<4)=false:=rfl
   have hfull:i+1=(td n).length→padF (4*i+4) (n % 10^(4*i+4))=Lib.decDigits n:=fun h=>by
    have h1:=(hlast h).1
    rw[Nat.div_lt_iff_lt_mul (Nat.pow_pos (by decide)),←Nat.pow_add,Nat.add_comm]at h1
    have g:=(hkl h).resolve_left (by decide)
    rw[Nat.mod_eq_of_lt h1]
    refine pad_full (4*i+3) n h1 (.inr ?_)
    rcases Nat.lt_or_ge n (10^(4*i+3))with g3|g3
    ·rw[show 4 - 1=3 from rfl,Nat.div_eq_of_lt g3]at g;omega
    ·exact g3
   (repeat((first|refine step_w2 rfl rfl ?_|refine g_o (op_pickF rfl (ev_ok rfl) (ev_ok rfl)) ?_|rw[t3]|rw[e1]);conv=>whnf))
   exact⟨(td n).length - (i+1),fun k=>k,[0,3,4],[],by omega,by kernel_rfl,i+1,_,rfl,by omega,by rw[padF_len];omega,(fun h=>rfl),hfull,rfl,rfl⟩
 ·obtain rfl:i=(td n).length:=by omega
  have t2:decide (((td n).length:Int)<((td n).length:Int))=false:=decide_eq_false (by omega)
  obtain rfl:=hl2 rfl
  (repeat(first|(refine step_w2 rfl rfl ?_;conv=>whnf)|(refine g_o (op_lenM rfl rfl rfl (ev_ok rfl) (tgt rfl) rfl) ?_;conv=>whnf)|(rw[t2];conv=>whnf)));(first|exact Recast.refl _|exact Frz.recast (Recast.refl _) rfl|(refine Frz.one rfl rfl ?_;skip)|(refine Frz.tup ?_;skip))
end Go.Proofs.YtfpagioknjjacaaGreatDoor
namespace Go.Proofs.YtfpagioknjjacaaGreatDoor
open Go.Sx
set_option linter.unusedSimpArgs false
set_option linter.unusedVariables false
set_option maxRecDepth 100000
set_option maxHeartbeats 4000000
theorem r2_Text (z:Int) (hz:sz z.natAbs≤100000000):CallOK Tryz.prog 249 [zZ z] [] (.val (.string (tZ z))) [] []:=by
 have k1:=r_Text z.natAbs (Nat.lt_of_le_of_lt (tl_sz hz) (by decide))
 have hs:=tN_sizeG z.natAbs
 have h1:(ByteArray.mk #[45]).size=1:=rfl
 have h2:(ByteArray.mk #[45]).size+(tN z.natAbs).size≤9223372036854775807:=by omega
 unfold tZ
 refine callV (Z:=[1]) tabOK mixedOK Tryz.func249 rfl (by kernel_rfl) rfl rfl (by kernel_rfl) rfl ?_
 intro W0 w0 ρ0 hE
 conv=>whnf
 by_cases hn:z<0
 ·have t1:decide (z<0)=true:=decide_eq_true hn
  rw[if_pos hn]
  (repeat((first|refine step_w1 rfl rfl ?_|refine step_oM (by first|omega|decide|(simp only[tl0,dlen,List.length_replicate,List.length_set,List.length_map,List.length_zipWith,List.length_take,List.length_append,List.length_cons,List.length_nil];omega)) ?_|refine g_c (by assumption) ?_|refine g_o (op_loadA rfl (ev_ok rfl) (tgt rfl) rfl (Nat.succ_ne_zero _) rfl) ?_|refine g_o (op_fieldA rfl (ev_ok rfl) (tgt rfl) rfl rfl (Nat.succ_ne_zero _) rfl) ?_|rw[t1]);conv=>whnf));(first|exact Recast.refl _|exact Frz.recast (Recast.refl _) rfl|(refine Frz.one rfl rfl ?_;skip)|(refine Frz.tup ?_;skip))
 ·have t1:decide (z<0)=false:=decide_eq_false hn
  rw[if_neg hn]
  (repeat((first|refine step_w2 rfl rfl ?_|refine g_c (by assumption) ?_|refine g_o (op_loadA rfl (ev_ok rfl) (tgt rfl) rfl (Nat.succ_ne_zero _) rfl) ?_|refine g_o (op_fieldA rfl (ev_ok rfl) (tgt rfl) rfl rfl (Nat.succ_ne_zero _) rfl) ?_|rw[t1]);conv=>whnf));(first|exact Recast.refl _|exact Frz.recast (Recast.refl _) rfl|(refine Frz.one rfl rfl ?_;skip)|(refine Frz.tup ?_;skip))
theorem r3_Text (q:Rat) (h:fs q≤100000000):CallOK Tryz.prog 148 [fF q] [] (.val (.string (tQ q))) [] []:=by
 have n1:=fsz_num q
 have n2:=fsz_den q
 unfold fs at h
 have k1:=r2_Text q.num (by omega)
 have hdl:(td q.den).length≤100000000:=tl_sz (by omega)
 have k2:=r3_Den q (by omega)
 have k3:=r_Text q.den (by omega)
 have hs:=tZ_sizeG q.num
 have hs2:=tN_sizeG q.den
 have h1:(ByteArray.mk #[47]).size=1:=rfl
 have h2:(tZ q.num).size+(ByteArray.mk #[47]).size≤9223372036854775807:=by omega
 have h3:(tZ q.num++(ByteArray.mk #[47])).size+(tN q.den).size≤9223372036854775807:=by rw[ByteArray.size_append];omega
 have hz:=td_len_zero (n:=q.den - 1)
 have hp:=q.den_pos
 unfold tQ
 refine callV (Z:=[1]) tabOK mixedOK Tryz.func148 rfl (by kernel_rfl) rfl rfl (by kernel_rfl) rfl ?_
 intro W0 w0 ρ0 hE
 conv=>whnf
 by_cases hd:q.den=1
 ·have t1:(((td (q.den - 1)).length:Int)==0)=true:=beq_iff_eq.2 (by omega)
  rw[if_pos hd]
  (repeat((first|refine step_w1 rfl rfl ?_|refine g_c (by assumption) ?_|refine g_o (op_lenM rfl rfl rfl (ev_ok rfl) (tgt rfl) rfl) ?_|refine g_o (op_loadA rfl (ev_ok rfl) (tgt rfl) rfl (Nat.succ_ne_zero _) rfl) ?_|refine g_o (op_fieldA rfl (ev_ok rfl) (tgt rfl) rfl rfl (Nat.succ_ne_zero _) rfl) ?_|rw[t1]);conv=>whnf));(first|exact Recast.refl _|exact Frz.recast (Recast.refl _) rfl|(refine Frz.one rfl rfl ?_;skip)|(refine Frz.tup ?_;skip))
 ·have t1:(((td (q.den - 1)).length:Int)==0)=false:=beq_false_of_ne (by omega)
  rw[if_neg hd]
  (repeat((first|refine step_w2 rfl rfl ?_|refine step_i (by kernel_rfl) ?_|refine step_oM (by first|omega|decide|(simp only[tl0,dlen,List.length_replicate,List.length_set,List.length_map,List.length_zipWith,List.length_take,List.length_append,List.length_cons,List.length_nil];omega)) ?_|refine g_c (by assumption) ?_|refine g_o (op_lenM rfl rfl rfl (ev_ok rfl) (tgt rfl) rfl) ?_|refine g_o (op_loadA rfl (ev_ok rfl) (tgt rfl) rfl (Nat.succ_ne_zero _) rfl) ?_|refine g_o (op_fieldA rfl (ev_ok rfl) (tgt rfl) rfl rfl (Nat.succ_ne_zero _) rfl) ?_|rw[t1]);conv=>whnf));(first|exact Recast.refl _|exact Frz.recast (Recast.refl _) rfl|(refine Frz.one rfl rfl ?_;skip)|(refine Frz.tup ?_;skip))
abbrev fFs (a:List Rat):SV:=mvec 3 fF a
abbrev fFblk (a:List Rat):Blk:=⟨81,true,.seq 3 (a.map fF)⟩
theorem take_map_snoc {z:List Rat} {i:Nat} (hi:i<z.length):fFblk (z.take (i+1))=⟨81,true,.seq 3 (List.take i ((z.take i).map fF)++List.take 1 (List.drop 0 [fF (z.getD i 0)]))⟩:=by
 have hl:((z.take i).map fF).length=i:=by rw[List.length_map,List.length_take];omega
 rw[fFblk,take_snoc z i hi,List.map_append,List.take_of_length_le (l:=(z.take i).map fF) (by omega)];rfl
theorem r12_Add (a b:List Rat) (hab:a.length=b.length) (hl:a.length≤2048) (h:∀i,i<a.length→fs (a.getD i 0)+fs (b.getD i 0)≤100000000):CallOK Tryz.prog 198 [fFs a,fFs b] [] (fFs (vadd a b)) [] []:=by
 have hz:(vadd a b).length=a.length:=zip_len rfl hab.symm
 refine callF (Z:=[]) tabOK mixedOK Tryz.func198 rfl (by kernel_rfl) (by first|rfl|(simp[keylessL,keyless,keylessL_map, *];done)) (by first|rfl|(simp[keylessL,keyless,keylessL_map, *];done)) (by kernel_rfl) rfl ?_
 intro w0 ρ0 hE
 conv=>whnf
 skip
 refine SWx_adopt (t:=5) (k:=2001) (s:=3) (blk:=fFblk []) rfl rfl rfl ?_
 refine SW_loopS hE (fun k=>k) [0,1,5,6] [2001] (fun m fr hp=>∃i:Nat,m=a.length - i∧i≤a.length∧fr=[(0,fFs a),(1,fFs b),(5,.slc 2001 3 0 i),(6,.val (.int .i64 (i:Nat)))]∧hp=[(2001,fFblk ((vadd a b).take i))]) a.length ?_ ?_ ?_
 ·kernel_rfl
 ·exact⟨0,rfl,Nat.zero_le _,rfl,rfl⟩
 rintro m _ _ ⟨i,rfl,hi,rfl,rfl⟩
 have hlt0:((((vadd a b).take i)).map fF).length=i:=by rw[List.length_map,List.length_take];omega
 by_cases hlt:i<a.length
 ·have t1:=dlt hlt
  have t2:=winc (i:=i) (by omega)
  have k1:=r3_Add (a.getD i 0) (b.getD i 0) (h i hlt)
  rw[←zip_get (f:=(·+·)) (d3:=0) hlt (by omega)]at k1
  have hib:i<b.length:=by omega
  refine SWx.of hE ?_
  conv=>whnf
  (repeat((first|refine step_w1 rfl rfl ?_|refine step_i (by kernel_rfl) ?_|refine step_oA (by first|omega|decide|(simp only[tl0,dlen,List.length_replicate,List.length_set,List.length_map,List.length_zipWith,List.length_take,List.length_append,List.length_cons,List.length_nil];omega)) ?_|refine g_c (by assumption) ?_|refine g_o (op_lenM rfl rfl rfl (ev_ok rfl) (tgt rfl) rfl) ?_|refine g_o (op_indexN (α:=Rat) (d:=0) rfl (ev_ok rfl) (ev_ok rfl) (tgt rfl) rfl (tgt rfl) rfl (by omega)) ?_|refine g_o (op_loadA rfl (ev_ok rfl) (tgt rfl) rfl (Nat.succ_ne_zero _) rfl) ?_|rw[t1]|rw[t2]);conv=>whnf))
  refine⟨a.length - (i+1),renBy [(24,2001)],[0,1,5,6],[24],by omega,by kernel_rfl,i+1,rfl,hlt,rfl, ?_⟩
  rw[take_map_snoc (by rw[hz];exact hlt)]
  rfl
 ·have t1:=dge hlt
  have hI:i=a.length:=by omega
  subst hI
  have hall:(vadd a b).take a.length=vadd a b:=List.take_of_length_le (by omega)
  rw[hall]
  refine SWx_freezeM 5 2001 (fun _ h=>h) (fun _=>rfl) rfl rfl hz.symm ?_
  refine SWx.of hE ?_
  conv=>whnf
  (repeat(first|(refine step_w2 rfl rfl ?_;conv=>whnf)|(refine g_o (op_lenM rfl rfl rfl (ev_ok rfl) (tgt rfl) rfl) ?_;conv=>whnf)|(rw[t1];conv=>whnf)));(first|exact Recast.refl _|exact Frz.recast (Recast.refl _) rfl|(refine Frz.one rfl rfl ?_;skip)|(refine Frz.tup ?_;skip))
theorem r12_Sub (a b:List Rat) (hab:a.length=b.length) (hl:a.length≤2048) (h:∀i,i<a.length→fs (a.getD i 0)+fs (b.getD i 0)≤100000000):CallOK Tryz.prog 199 [fFs a,fFs b] [] (fFs (vsub a b)) [] []:=by
 have hz:(vsub a b).length=a.length:=zip_len rfl hab.symm
 refine callF (Z:=[]) tabOK mixedOK Tryz.func199 rfl (by kernel_rfl) (by first|rfl|(simp[keylessL,keyless,keylessL_map, *];done)) (by first|rfl|(simp[keylessL,keyless,keylessL_map, *];done)) (by kernel_rfl) rfl ?_
 intro w0 ρ0 hE
 conv=>whnf
 skip
 refine SWx_adopt (t:=5) (k:=2001) (s:=3) (blk:=fFblk []) rfl rfl rfl ?_
 refine SW_loopS hE (fun k=>k) [0,1,5,6] [2001] (fun m fr hp=>∃i:Nat,m=a.length - i∧i≤a.length∧fr=[(0,fFs a),(1,fFs b),(5,.slc 2001 3 0 i),(6,.val (.int .i64 (i:Nat)))]∧hp=[(2001,fFblk ((vsub a b).take i))]) a.length ?_ ?_ ?_
 ·kernel_rfl
 ·exact⟨0,rfl,Nat.zero_le _,rfl,rfl⟩
 rintro m _ _ ⟨i,rfl,hi,rfl,rfl⟩
 have hlt0:((((vsub a b).take i)).map fF).length=i:=by rw[List.length_map,List.length_take];omega
 by_cases hlt:i<a.length
 ·have t1:=dlt hlt
  have t2:=winc (i:=i) (by omega)
  have k1:=r3_Sub (a.getD i 0) (b.getD i 0) (h i hlt)
  rw[←zip_get (f:=(· - ·)) (d3:=0) hlt (by omega)]at k1
  have hib:i<b.length:=by omega
  refine SWx.of hE ?_
  conv=>whnf
  (repeat((first|refine step_w1 rfl rfl ?_|refine step_i (by kernel_rfl) ?_|refine step_oA (by first|omega|decide|(simp only[tl0,dlen,List.length_replicate,List.length_set,List.length_map,List.length_zipWith,List.length_take,List.length_append,List.length_cons,List.length_nil];omega)) ?_|refine g_c (by assumption) ?_|refine g_o (op_lenM rfl rfl rfl (ev_ok rfl) (tgt rfl) rfl) ?_|refine g_o (op_indexN (α:=Rat) (d:=0) rfl (ev_ok rfl) (ev_ok rfl) (tgt rfl) rfl (tgt rfl) rfl (by omega)) ?_|refine g_o (op_loadA rfl (ev_ok rfl) (tgt rfl) rfl (Nat.succ_ne_zero _) rfl) ?_|rw[t1]|rw[t2]);conv=>whnf))
  refine⟨a.length - (i+1),renBy [(24,2001)],[0,1,5,6],[24],by omega,by kernel_rfl,i+1,rfl,hlt,rfl, ?_⟩
  rw[take_map_snoc (by rw[hz];exact hlt)]
  rfl
 ·have t1:=dge hlt
  have hI:i=a.length:=by omega
  subst hI
  have hall:(vsub a b).take a.length=vsub a b:=List.take_of_length_le (by omega)
  rw[hall]
  refine SWx_freezeM 5 2001 (fun _ h=>h) (fun _=>rfl) rfl rfl hz.symm ?_
  refine SWx.of hE ?_
  conv=>whnf
  (repeat(first|(refine step_w2 rfl rfl ?_;conv=>whnf)|(refine g_o (op_lenM rfl rfl rfl (ev_ok rfl) (tgt rfl) rfl) ?_;conv=>whnf)|(rw[t1];conv=>whnf)));(first|exact Recast.refl _|exact Frz.recast (Recast.refl _) rfl|(refine Frz.one rfl rfl ?_;skip)|(refine Frz.tup ?_;skip))
end Go.Proofs.YtfpagioknjjacaaGreatDoor
namespace Go.Proofs.YtfpagioknjjacaaGreatDoor
open Go.Sx
set_option linter.unusedSimpArgs false
set_option linter.unusedVariables false
set_option maxRecDepth 100000
set_option maxHeartbeats 4000000
theorem r12_Scale (c:Rat) (a:List Rat) (hl:a.length≤2048) (h:∀i,i<a.length→fs c+fs (a.getD i 0)≤100000000):CallOK Tryz.prog 200 [fF c,fFs a] [] (fFs (vscale c a)) [] []:=by
 have hz:(vscale c a).length=a.length:=zip_len rfl rfl
 refine callF (Z:=[2]) tabOK mixedOK Tryz.func200 rfl (by kernel_rfl) (by first|rfl|(simp[keylessL,keyless,keylessL_map, *];done)) (by first|rfl|(simp[keylessL,keyless,keylessL_map, *];done)) (by kernel_rfl) rfl ?_
 intro w0 ρ0 hE
 conv=>whnf
 skip
 refine SWx_adopt (t:=5) (k:=2001) (s:=3) (blk:=fFblk []) rfl rfl rfl ?_
 refine SW_loopS hE (fun k=>k) [1,2,5,6] [2001] (fun m fr hp=>∃i:Nat,m=a.length - i∧i≤a.length∧fr=[(1,fFs a),(2,ptrA [zZ c.num,nN (c.den - 1)]),(5,.slc 2001 3 0 i),(6,.val (.int .i64 (i:Nat)))]∧hp=[(2001,fFblk ((vscale c a).take i))]) a.length ?_ ?_ ?_
 ·kernel_rfl
 ·exact⟨0,rfl,Nat.zero_le _,rfl,rfl⟩
 rintro m _ _ ⟨i,rfl,hi,rfl,rfl⟩
 have hlt0:((((vscale c a).take i)).map fF).length=i:=by rw[List.length_map,List.length_take];omega
 by_cases hlt:i<a.length
 ·have t1:=dlt hlt
  have t2:=winc (i:=i) (by omega)
  have k1:=r3_Mul c (a.getD i 0) (h i hlt)
  rw[←get_scale (c:=c) (a:=a) rfl hlt]at k1
  refine SWx.of hE ?_
  conv=>whnf
  (repeat((first|refine step_w1 rfl rfl ?_|refine step_i (by kernel_rfl) ?_|refine step_oA (by first|omega|decide|(simp only[tl0,dlen,List.length_replicate,List.length_set,List.length_map,List.length_zipWith,List.length_take,List.length_append,List.length_cons,List.length_nil];omega)) ?_|refine g_c (by assumption) ?_|refine g_o (op_lenM rfl rfl rfl (ev_ok rfl) (tgt rfl) rfl) ?_|refine g_o (op_indexN (α:=Rat) (d:=0) rfl (ev_ok rfl) (ev_ok rfl) (tgt rfl) rfl (tgt rfl) rfl (by omega)) ?_|refine g_o (op_loadA rfl (ev_ok rfl) (tgt rfl) rfl (Nat.succ_ne_zero _) rfl) ?_|rw[t1]|rw[t2]);conv=>whnf))
  refine⟨a.length - (i+1),renBy [(21,2001)],[1,2,5,6],[21],by omega,by kernel_rfl,i+1,rfl,hlt,rfl, ?_⟩
  rw[take_map_snoc (by rw[hz];exact hlt)]
  rfl
 ·have t1:=dge hlt
  have hI:i=a.length:=by omega
  subst hI
  have hall:(vscale c a).take a.length=vscale c a:=List.take_of_length_le (by omega)
  rw[hall]
  refine SWx_freezeM 5 2001 (fun _ h=>h) (fun _=>rfl) rfl rfl hz.symm ?_
  refine SWx.of hE ?_
  conv=>whnf
  (repeat(first|(refine step_w2 rfl rfl ?_;conv=>whnf)|(refine g_o (op_lenM rfl rfl rfl (ev_ok rfl) (tgt rfl) rfl) ?_;conv=>whnf)|(rw[t1];conv=>whnf)));(first|exact Recast.refl _|exact Frz.recast (Recast.refl _) rfl|(refine Frz.one rfl rfl ?_;skip)|(refine Frz.tup ?_;skip))
abbrev zblkF:Blk:=⟨81,true,.one [.val (.bool false),.val (.slice none 0 0),.val (.slice none 0 0)]⟩
abbrev oblkF (q:Rat):Blk:=⟨81,true,.one [zZ q.num,nN (q.den - 1)]⟩
theorem r12_Dot (a b:List Rat) (B:Nat) (hab:a.length=b.length) (hl:a.length≤2048) (h:∀i,i<a.length→fs (a.getD i 0)+fs (b.getD i 0)≤B) (hB:B+(2+a.length*B)≤100000000):CallOK Tryz.prog 201 [fFs a,fFs b] [] (fF (vdot a b)) [] []:=by
 have k0:=r3_Int 0 (by decide) (by decide)
 rw[show((0:Int):Rat)=0 from rfl]at k0
 have hz:(vmul a b).length=a.length:=zip_len rfl hab.symm
 refine callV (Z:=[]) tabOK mixedOK Tryz.func201 rfl (by kernel_rfl) rfl rfl (by kernel_rfl) rfl ?_
 intro W0 w0 ρ0 hE
 conv=>whnf
 (repeat(first|(refine g_c (by assumption) ?_;conv=>whnf)))
 refine SW_loopN hE (fun k=>k) [0,1,4,5,6] [4,5] (fun m fr hp=>∃(i:Nat) (s:Rat),m=a.length - i∧i≤a.length∧s=((vmul a b).take i).foldl (·+·) 0∧fs s≤2+i*B∧fr=[(0,fFs a),(1,fFs b),(4,.ptr 4 0 0 0),(5,.ptr 5 0 0 0),(6,.val (.int .i64 (i:Nat)))]∧hp=[(4,zblkF),(5,oblkF s)]) a.length ?_ ?_ ?_
 ·kernel_rfl
 ·exact⟨0,0,rfl,Nat.zero_le _,rfl,by rw[fs_zero];omega,rfl,rfl⟩
 rintro m _ _ ⟨i,s,rfl,hi,hs,hfs,rfl,rfl⟩
 conv=>whnf
 by_cases hlt:i<a.length
 ·have t1:=dlt hlt
  have t2:=winc (i:=i) (by omega)
  have hib:i<b.length:=by omega
  have hBi:=h i hlt
  have him:i*B≤a.length*B:=Nat.mul_le_mul_right _ hi
  have hBB:B≤100000000:=by omega
  have k1:=r3_Mul (a.getD i 0) (b.getD i 0) (by omega)
  have hm:=fs_mul (a.getD i 0) (b.getD i 0)
  have k2:=r3_Add s (a.getD i 0*b.getD i 0) (by omega)
  have hs2:s+a.getD i 0*b.getD i 0=((vmul a b).take (i+1)).foldl (·+·) 0:=by
   rw[foldl_take (vmul a b) i (by omega),zip_get (d1:=0) (d2:=0) hlt hib,hs]
  have hfa:=fs_add s (a.getD i 0*b.getD i 0)
  (repeat((first|refine step_w1 rfl rfl ?_|refine step_i (by kernel_rfl) ?_|refine g_c (by assumption) ?_|refine g_o (op_lenM rfl rfl rfl (ev_ok rfl) (tgt rfl) rfl) ?_|refine g_o (op_indexN (α:=Rat) (d:=0) rfl (ev_ok rfl) (ev_ok rfl) (tgt rfl) rfl (tgt rfl) rfl (by omega)) ?_|refine g_o (op_loadA rfl (ev_ok rfl) (tgt rfl) rfl (Nat.succ_ne_zero _) rfl) ?_|rw[t1]|rw[t2]);conv=>whnf))
  refine⟨a.length - (i+1),fun k=>k,[0,1,4,5,6],[4,5],by omega,by kernel_rfl,i+1,s+a.getD i 0*b.getD i 0,rfl,hlt,hs2, ?_,rfl,rfl⟩
  rw[Nat.succ_mul];omega
 ·have t1:=dge hlt
  have hI:i=a.length:=by omega
  subst hI
  have e:vdot a b=s:=by rw[hs,List.take_of_length_le (by omega)];rfl
  rw[e]
  (repeat(first|(refine step_w2 rfl rfl ?_;conv=>whnf)|(refine g_o (op_lenM rfl rfl rfl (ev_ok rfl) (tgt rfl) rfl) ?_;conv=>whnf)|(rw[t1];conv=>whnf)))
  exact Recast.refl _
def jn (l:List Rat):List UInt8:=Lib.join ((l.map tQ).map (·.data.toList)) [32]
theorem jn_snoc (l:List Rat) (q:Rat) (h:l≠[]):jn (l++[q])=jn l++[32]++(tQ q).data.toList:=by
 cases l with
 |nil=>exact absurd rfl h
 |cons x r=>simp[jn,Lib.join_cons,Lib.joinTail]
theorem jn_one (q:Rat):jn ([]++[q])=(tQ q).data.toList:=by simp[jn,Lib.join_one]
theorem jn_len {a:List Rat} {B:Nat} (hl:a.length≤2048) (h:∀i,i<a.length→fs (a.getD i 0)≤B) (hB:B≤100000000) (i:Nat):(jn (a.take i)).length≤140737488355328:=
 tV_join (B:=B) (by rw[List.length_take];omega) (fun k hk=>by
  rw[List.length_take]at hk
  rw[List.getD_eq_getElem?_getD,List.getElem?_take,if_pos (by omega),←List.getD_eq_getElem?_getD]
  exact h k (by omega)) (by omega)
theorem app_l (l:List UInt8) (s:ByteArray):(⟨l.toArray⟩:ByteArray)++s=⟨(l++s.data.toList).toArray⟩:=by
 apply ByteArray.ext
 rw[ByteArray.data_append]
 apply Array.ext'
 simp
theorem size_l (l:List UInt8):(⟨l.toArray⟩:ByteArray).size=l.length:=by show l.toArray.size=_;simp
theorem r12_Text (a:List Rat) (B:Nat) (hl:a.length≤2048) (h:∀i,i<a.length→fs (a.getD i 0)≤B) (hB:B≤100000000):CallOK Tryz.prog 226 [fFs a] [] (.val (.string (tV a))) [] []:=by
 have htv:tV a=⟨((91::jn a)++[93]).toArray⟩:=by
  apply ByteArray.ext
  show(("[".toUTF8++⟨(jn a).toArray⟩:ByteArray)++ "]".toUTF8).data=_
  rw[ByteArray.data_append,ByteArray.data_append]
  apply Array.ext'
  have e1: "[".toByteArray.data.toList=[91]:=by decide+kernel
  have e2: "]".toByteArray.data.toList=[93]:=by decide+kernel
  simp[e1,e2]
 rw[htv]
 refine callV (Z:=[]) tabOK mixedOK Tryz.func226 rfl (by kernel_rfl) rfl rfl (by kernel_rfl) rfl ?_
 intro W0 w0 ρ0 hE
 conv=>whnf
 skip
 refine SW_loopN hE (fun k=>k) [0,3,4] [] (fun m fr hp=>∃i:Nat,m=a.length - i∧i≤a.length∧fr=[(0,fFs a),(3,dS (91::jn (a.take i))),(4,.val (.int .i64 (i:Nat)))]∧hp=[]) a.length ?_ ?_ ?_
 ·kernel_rfl
 ·exact⟨0,rfl,Nat.zero_le _,rfl,rfl⟩
 rintro m _ _ ⟨i,rfl,hi,rfl,rfl⟩
 have hjl:=jn_len hl h hB i
 have hsz:=size_l (91::jn (a.take i))
 rw[List.length_cons]at hsz
 conv=>whnf
 by_cases hlt:i<a.length
 ·have t1:=dlt hlt
  have t2:=winc (i:=i) (by omega)
  have hx:=h i hlt
  have k1:=r3_Text (a.getD i 0) (by omega)
  have hq:=tQ_size (a.getD i 0)
  have hts:=take_snoc a i hlt
  obtain⟨x,hxe⟩:∃x,a.getD i 0=x:=⟨_,rfl⟩
  rw[hxe]at hx k1 hq hts
  by_cases h0:0<i
  ·have t3:decide ((i:Int)>0)=true:=decide_eq_true (by omega)
   have e1:=app_l (91::jn (a.take i)) ⟨#[32]⟩
   have e2:=app_l ((91::jn (a.take i))++[32]) (tQ x)
   have hne:a.take i≠[]:=fun h=>by have:=congrArg List.length h;rw[List.length_take,List.length_nil]at this;omega
   have ej:(91::jn (a.take i))++[32]++(tQ x).data.toList=91::jn (a.take (i+1)):=by rw[hts,jn_snoc _ _ hne];simp
   have h32:(⟨#[32]⟩:ByteArray).size=1:=rfl
   have o1:(⟨(91::jn (a.take i)).toArray⟩:ByteArray).size+(⟨#[32]⟩:ByteArray).size≤9223372036854775807:=by omega
   have hsz2:=size_l ((91::jn (a.take i))++[32])
   rw[List.length_append,List.length_cons,List.length_singleton]at hsz2
   have o2:(⟨((91::jn (a.take i))++[32]).toArray⟩:ByteArray).size+(tQ x).size≤9223372036854775807:=by omega
   have e1':(⟨(91::jn (a.take i)).toArray⟩:ByteArray)++(⟨#[32]⟩:ByteArray)=⟨((91::jn (a.take i))++[32]).toArray⟩:=e1
   rw[ej]at e2
   clear e1 ej hts
   (repeat((first|refine step_w1 rfl rfl ?_|refine step_oM (by first|omega|decide|(simp only[tl0,dlen,List.length_replicate,List.length_set,List.length_map,List.length_zipWith,List.length_take,List.length_append,List.length_cons,List.length_nil];omega)) ?_|refine g_c (by assumption) ?_|refine g_o (op_lenM rfl rfl rfl (ev_ok rfl) (tgt rfl) rfl) ?_|refine g_o (op_indexN (α:=Rat) (d:=0) rfl (ev_ok rfl) (ev_ok rfl) (tgt rfl) rfl (tgt rfl) rfl (by omega)) ?_|refine g_o (op_loadA rfl (ev_ok rfl) (tgt rfl) rfl (Nat.succ_ne_zero _) rfl) ?_|rw[t1]|rw[t3]|rw[hxe]|rw[e1']|rw[e2]|rw[t2]);conv=>whnf))
   exact⟨a.length - (i+1),fun k=>k,[0,3,4],[],by omega,by kernel_rfl,i+1,rfl,hlt,rfl,rfl⟩
  ·have t3:decide ((i:Int)>0)=false:=decide_eq_false (by omega)
   obtain rfl:i=0:=by omega
   have e2:=app_l (91::jn (a.take 0)) (tQ x)
   have ej:(91::jn (a.take 0))++(tQ x).data.toList=91::jn (a.take (0+1)):=by
    rw[hts,List.take_zero,jn_one];rfl
   rw[ej]at e2
   have o2:(⟨(91::jn (a.take 0)).toArray⟩:ByteArray).size+(tQ x).size≤9223372036854775807:=by omega
   clear ej hts
   (repeat((first|refine step_w1 rfl rfl ?_|refine step_w2 rfl rfl ?_|refine step_oM (by first|omega|decide|(simp only[tl0,dlen,List.length_replicate,List.length_set,List.length_map,List.length_zipWith,List.length_take,List.length_append,List.length_cons,List.length_nil];omega)) ?_|refine g_c (by assumption) ?_|refine g_o (op_lenM rfl rfl rfl (ev_ok rfl) (tgt rfl) rfl) ?_|refine g_o (op_indexN (α:=Rat) (d:=0) rfl (ev_ok rfl) (ev_ok rfl) (tgt rfl) rfl (tgt rfl) rfl (by omega)) ?_|refine g_o (op_loadA rfl (ev_ok rfl) (tgt rfl) rfl (Nat.succ_ne_zero _) rfl) ?_|rw[t1]|rw[t3]|rw[hxe]|rw[e2]|rw[t2]|rw[Nat.zero_add]);conv=>whnf))
   exact⟨a.length - (0+1),fun k=>k,[0,3,4],[],by omega,by kernel_rfl,0+1,rfl,hlt,rfl,rfl⟩
 ·have t1:=dge hlt
  have hI:i=a.length:=by omega
  subst hI
  rw[List.take_length]at*
  have e1:(⟨(91::jn a).toArray⟩:ByteArray)++(⟨#[93]⟩:ByteArray)=⟨((91::jn a)++[93]).toArray⟩:=app_l (91::jn a) ⟨#[93]⟩
  have h93:(⟨#[93]⟩:ByteArray).size=1:=rfl
  have o1:(⟨(91::jn a).toArray⟩:ByteArray).size+(⟨#[93]⟩:ByteArray).size≤9223372036854775807:=by omega
  rw[←e1]
  (repeat((first|refine step_w2 rfl rfl ?_|refine step_oM (by first|omega|decide|(simp only[tl0,dlen,List.length_replicate,List.length_set,List.length_map,List.length_zipWith,List.length_take,List.length_append,List.length_cons,List.length_nil];omega)) ?_|refine g_o (op_lenM rfl rfl rfl (ev_ok rfl) (tgt rfl) rfl) ?_|rw[t1]);conv=>whnf));(first|exact Recast.refl _|exact Frz.recast (Recast.refl _) rfl|(refine Frz.one rfl rfl ?_;skip)|(refine Frz.tup ?_;skip))
end Go.Proofs.YtfpagioknjjacaaGreatDoor
namespace Go.Proofs.YtfpagioknjjacaaGreatDoor
open Go.Sx
set_option linter.unusedSimpArgs false
set_option linter.unusedVariables false
set_option maxRecDepth 100000
set_option maxHeartbeats 4000000
theorem r_QRef (q:Int×Int) (h:qOK q):CallOK Tryz.prog 41 [qA q] [] (fF (qV q)) [] []:=by
 have hd:(if q.2<1 then 1 else q.2)≠0:=by have:=h.2;split<;>omega
 have e2:IntKind.i64.wrap (if (1:Int)>q.2 then 1 else q.2)=(if q.2<1 then 1 else q.2):=wrap_i64 (by have:=h.2;split<;>omega) (by have:=h.2;split<;>omega)
 have k1:=r3_Of q.1 (if q.2<1 then 1 else q.2) h.1.1 h.1.2 (by have:=h.2;split<;>omega) (by have:=h.2;split<;>omega) hd
 refine callV (Z:=[1]) tabOK mixedOK Tryz.func41 rfl (by kernel_rfl) rfl rfl (by kernel_rfl) rfl ?_
 intro W0 w0 ρ0 hE
 conv=>whnf
 (repeat((first|refine g_c (by assumption) ?_|refine g_o (op_loadA rfl (ev_ok rfl) (tgt rfl) rfl (Nat.succ_ne_zero _) rfl) ?_|refine g_o (op_fieldA rfl (ev_ok rfl) (tgt rfl) rfl rfl (Nat.succ_ne_zero _) rfl) ?_|rw[e2]);conv=>whnf))
 exact Recast.refl _
end Go.Proofs.YtfpagioknjjacaaGreatDoor
namespace Go.Proofs.YtfpagioknjjacaaGreatDoor
open Go.Sx
set_option linter.unusedSimpArgs false
set_option linter.unusedVariables false
set_option maxRecDepth 100000
set_option maxHeartbeats 4000000
abbrev rM (r c:Nat) (a:List Rat):SV:=.agg [iv c,mvec 1 fFs (rowsL r c a)]
abbrev rC (r c:Nat) (a:List Rat):List SV:=[iv c,mvec 1 fFs (rowsL r c a)]
abbrev rblk (l:List (List Rat)):Blk:=⟨74,true,.seq 1 (l.map fFs)⟩
abbrev zR:Blk:=⟨113,true,.one [iv 0,.val (.slice none 0 0)]⟩
abbrev oR (c i K:Nat):Blk:=⟨113,true,.one [iv c,.slc K 1 0 i]⟩
theorem take_rows {l:List (List Rat)} {i:Nat} (hi:i<l.length):rblk (l.take (i+1))=⟨74,true,.seq 1 (List.take i ((l.take i).map fFs)++List.take 1 (List.drop 0 [fFs (l.getD i [])]))⟩:=by
 have hl:((l.take i).map fFs).length=i:=by rw[List.length_map,List.length_take];omega
 have e:l.take (i+1)=l.take i++[l.getD i []]:=by rw[List.take_add_one,List.getD_eq_getElem?_getD,List.getElem?_eq_getElem hi];rfl
 rw[rblk,e,List.map_append,List.take_of_length_le (l:=(l.take i).map fFs) (by omega)];rfl
theorem row_zip {F:Rat→Rat→Rat} {r c i:Nat} {a b:List Rat} (ha:a.length=r*c) (hb:b.length=r*c) (hi:i<r):rowL (List.zipWith F a b) c i=List.zipWith F (rowL a c i) (rowL b c i):=by
 refine vec_ext (rowL_len hi (zip_len ha hb)) (zip_len (rowL_len hi ha) (rowL_len hi hb)) fun k hk=> ?_
 rw[rowL_get hk,zip_get (d1:=0) (d2:=0) (by rw[rowL_len hi ha];exact hk) (by rw[rowL_len hi hb];exact hk),rowL_get hk,rowL_get hk]
 exact zip_get (by rw[ha];exact idx_lt hi hk) (by rw[hb];exact idx_lt hi hk)
theorem row_fs {r c i A B:Nat} {a b:List Rat} (ha:OKM r c a) (hb:OKM r c b) (sa:Sm A a) (sb:Sm B b) (hi:i<r):∀k,k<(rowL a c i).length→fs ((rowL a c i).getD k 0)+fs ((rowL b c i).getD k 0)≤A+B:=by
 intro k hk
 have h1:=Sm_row sa ha.n hi k hk
 have h2:=Sm_row sb hb.n hi k (by rw[rowL_len hi hb.n];rwa [rowL_len hi ha.n]at hk)
 omega
theorem r13_Add {r c A B:Nat} {a b:List Rat} (ha:OKM r c a) (hb:OKM r c b) (sa:Sm A a) (sb:Sm B b) (h:A+B≤100000000):CallOK Tryz.prog 70 [rM r c a,rM r c b] [] (rM r c (vadd a b)) [] []:=by
 have hr:=ha.r
 have la:=rowsL_len r c a
 have lb:=rowsL_len r c b
 have lz:=rowsL_len r c (vadd a b)
 have lz2:((rowsL r c (vadd a b)).map fFs).length=r:=by rw[List.length_map,lz]
 refine callF (Z:=[2,3]) tabOK mixedOK Tryz.func70 rfl (by kernel_rfl) (by first|rfl|(simp[keylessL,keyless,keylessL_map, *];done)) (by first|rfl|(simp[keylessL,keyless,keylessL_map, *];done)) (by kernel_rfl) rfl ?_
 intro w0 ρ0 hE
 conv=>whnf
 (repeat(first|(refine g_o (op_loadA rfl (ev_ok rfl) (tgt rfl) rfl (Nat.succ_ne_zero _) rfl) ?_;conv=>whnf)|(refine g_o (op_fieldA rfl (ev_ok rfl) (tgt rfl) rfl rfl (Nat.succ_ne_zero _) rfl) ?_;conv=>whnf)))
 refine SWx_adoptB (j:=5) (k:=2001) (s:=1) (p:=1) (blk:=rblk []) rfl rfl rfl rfl rfl ?_
 refine SW_loopS hE (fun k=>k) [2,3,4,5,6] [4,5,2001] (fun m fr hp=>∃i:Nat,m=r - i∧i≤r∧fr=[(2,ptrA (rC r c a)),(3,ptrA (rC r c b)),(4,.ptr 4 0 0 0),(5,.ptr 5 0 0 0),(6,iv (i:Nat))]∧
  hp=[(4,zR),(5,oR c i 2001),(2001,rblk ((rowsL r c (vadd a b)).take i))]) r ?_ ?_ ?_
 ·kernel_rfl
 ·exact⟨0,rfl,Nat.zero_le _,rfl,rfl⟩
 rintro m _ _ ⟨i,rfl,hi,rfl,rfl⟩
 have hlt0:(((rowsL r c (vadd a b)).take i).map fFs).length=i:=by rw[List.length_map,List.length_take];omega
 by_cases hlt:i<r
 ·have t1:decide ((i:Int)<((rowsL r c a).length:Int))=true:=by rw[la];exact dlt hlt
  have t2:=winc (i:=i) (by omega)
  have e1:=rowsL_get (c:=c) (a:=a) hlt
  have e2:=rowsL_get (c:=c) (a:=b) hlt
  have o1:=r12_Add (rowL a c i) (rowL b c i) ((rowL_len hlt ha.n).trans (rowL_len hlt hb.n).symm) (by rw[rowL_len hlt ha.n];exact ha.c) (fun k hk=>Nat.le_trans (row_fs ha hb sa sb hlt k hk) h)
  rw[show vadd (rowL a c i) (rowL b c i)=rowL (vadd a b) c i from(row_zip ha.n hb.n hlt).symm,←rowsL_get (a:=vadd a b) hlt]at o1
  rw[←e1,←e2]at o1
  have e3:=take_rows (l:=rowsL r c (vadd a b)) (i:=i) (by omega)
  refine SWx.of hE ?_
  conv=>whnf
  (repeat((first|refine step_w1 rfl rfl ?_|refine step_i (by kernel_rfl) ?_|refine step_oA (by first|omega|decide|(simp only[tl0,dlen,List.length_replicate,List.length_set,List.length_map,List.length_zipWith,List.length_take,List.length_append,List.length_cons,List.length_nil];omega)) ?_|refine g_c (by assumption) ?_|refine g_o (op_lenM rfl rfl rfl (ev_ok rfl) (tgt rfl) rfl) ?_|refine g_o (op_loadA rfl (ev_ok rfl) (tgt rfl) rfl (Nat.succ_ne_zero _) rfl) ?_|refine g_o (op_indexN (α:=List Rat) (d:=[]) rfl (ev_ok rfl) (ev_ok rfl) (tgt rfl) rfl (tgt rfl) rfl (by omega)) ?_|refine g_o (op_fieldA rfl (ev_ok rfl) (tgt rfl) rfl rfl (Nat.succ_ne_zero _) rfl) ?_|rw[t1]|rw[t2]|rw[Nat.zero_add]);conv=>whnf))
  refine⟨r - (i+1),renBy [(31,2001)],[2,3,4,5,6],[4,5,31],by omega,by kernel_rfl,i+1,rfl,hlt,rfl, ?_⟩
  rw[e3];rfl
 ·have t1:decide ((i:Int)<((rowsL r c a).length:Int))=false:=by rw[la];exact dge hlt
  obtain rfl:i=r:=by omega
  rw[List.take_of_length_le (by omega)]
  refine SWx.of hE ?_
  conv=>whnf
  (repeat((first|refine step_w2 rfl rfl ?_|refine g_o (op_lenM rfl rfl rfl (ev_ok rfl) (tgt rfl) rfl) ?_|refine g_o (op_loadA rfl (ev_ok rfl) (tgt rfl) rfl (Nat.succ_ne_zero _) rfl) ?_|refine g_o (op_fieldA rfl (ev_ok rfl) (tgt rfl) rfl rfl (Nat.succ_ne_zero _) rfl) ?_|rw[t1]);conv=>whnf))
  (first|exact Recast.refl _|exact Frz.recast (Recast.refl _) rfl|(refine Frz.one rfl rfl ?_;(repeat(first|exact FrzC.keyless rfl|exact FrzL.nil|refine FrzL.cons ?_ ?_|refine FrzC.agg ?_|(refine FrzC.seq rfl (by first|rfl|(apply keylessL_map;intro _;rfl)) ?_;(first|rfl|omega|(simp<;>fail)|(simp<;>omega))))))|(refine Frz.tup ?_;skip))
theorem r13_Sub {r c A B:Nat} {a b:List Rat} (ha:OKM r c a) (hb:OKM r c b) (sa:Sm A a) (sb:Sm B b) (h:A+B≤100000000):CallOK Tryz.prog 71 [rM r c a,rM r c b] [] (rM r c (vsub a b)) [] []:=by
 have hr:=ha.r
 have la:=rowsL_len r c a
 have lb:=rowsL_len r c b
 have lz:=rowsL_len r c (vsub a b)
 have lz2:((rowsL r c (vsub a b)).map fFs).length=r:=by rw[List.length_map,lz]
 refine callF (Z:=[2,3]) tabOK mixedOK Tryz.func71 rfl (by kernel_rfl) (by first|rfl|(simp[keylessL,keyless,keylessL_map, *];done)) (by first|rfl|(simp[keylessL,keyless,keylessL_map, *];done)) (by kernel_rfl) rfl ?_
 intro w0 ρ0 hE
 conv=>whnf
 (repeat(first|(refine g_o (op_loadA rfl (ev_ok rfl) (tgt rfl) rfl (Nat.succ_ne_zero _) rfl) ?_;conv=>whnf)|(refine g_o (op_fieldA rfl (ev_ok rfl) (tgt rfl) rfl rfl (Nat.succ_ne_zero _) rfl) ?_;conv=>whnf)))
 refine SWx_adoptB (j:=5) (k:=2001) (s:=1) (p:=1) (blk:=rblk []) rfl rfl rfl rfl rfl ?_
 refine SW_loopS hE (fun k=>k) [2,3,4,5,6] [4,5,2001] (fun m fr hp=>∃i:Nat,m=r - i∧i≤r∧fr=[(2,ptrA (rC r c a)),(3,ptrA (rC r c b)),(4,.ptr 4 0 0 0),(5,.ptr 5 0 0 0),(6,iv (i:Nat))]∧
  hp=[(4,zR),(5,oR c i 2001),(2001,rblk ((rowsL r c (vsub a b)).take i))]) r ?_ ?_ ?_
 ·kernel_rfl
 ·exact⟨0,rfl,Nat.zero_le _,rfl,rfl⟩
 rintro m _ _ ⟨i,rfl,hi,rfl,rfl⟩
 have hlt0:(((rowsL r c (vsub a b)).take i).map fFs).length=i:=by rw[List.length_map,List.length_take];omega
 by_cases hlt:i<r
 ·have t1:decide ((i:Int)<((rowsL r c a).length:Int))=true:=by rw[la];exact dlt hlt
  have t2:=winc (i:=i) (by omega)
  have e1:=rowsL_get (c:=c) (a:=a) hlt
  have e2:=rowsL_get (c:=c) (a:=b) hlt
  have o1:=r12_Sub (rowL a c i) (rowL b c i) ((rowL_len hlt ha.n).trans (rowL_len hlt hb.n).symm) (by rw[rowL_len hlt ha.n];exact ha.c) (fun k hk=>Nat.le_trans (row_fs ha hb sa sb hlt k hk) h)
  rw[show vsub (rowL a c i) (rowL b c i)=rowL (vsub a b) c i from(row_zip ha.n hb.n hlt).symm,←rowsL_get (a:=vsub a b) hlt]at o1
  rw[←e1,←e2]at o1
  have e3:=take_rows (l:=rowsL r c (vsub a b)) (i:=i) (by omega)
  refine SWx.of hE ?_
  conv=>whnf
  (repeat((first|refine step_w1 rfl rfl ?_|refine step_i (by kernel_rfl) ?_|refine step_oA (by first|omega|decide|(simp only[tl0,dlen,List.length_replicate,List.length_set,List.length_map,List.length_zipWith,List.length_take,List.length_append,List.length_cons,List.length_nil];omega)) ?_|refine g_c (by assumption) ?_|refine g_o (op_lenM rfl rfl rfl (ev_ok rfl) (tgt rfl) rfl) ?_|refine g_o (op_loadA rfl (ev_ok rfl) (tgt rfl) rfl (Nat.succ_ne_zero _) rfl) ?_|refine g_o (op_indexN (α:=List Rat) (d:=[]) rfl (ev_ok rfl) (ev_ok rfl) (tgt rfl) rfl (tgt rfl) rfl (by omega)) ?_|refine g_o (op_fieldA rfl (ev_ok rfl) (tgt rfl) rfl rfl (Nat.succ_ne_zero _) rfl) ?_|rw[t1]|rw[t2]|rw[Nat.zero_add]);conv=>whnf))
  refine⟨r - (i+1),renBy [(31,2001)],[2,3,4,5,6],[4,5,31],by omega,by kernel_rfl,i+1,rfl,hlt,rfl, ?_⟩
  rw[e3];rfl
 ·have t1:decide ((i:Int)<((rowsL r c a).length:Int))=false:=by rw[la];exact dge hlt
  obtain rfl:i=r:=by omega
  rw[List.take_of_length_le (by omega)]
  refine SWx.of hE ?_
  conv=>whnf
  (repeat((first|refine step_w2 rfl rfl ?_|refine g_o (op_lenM rfl rfl rfl (ev_ok rfl) (tgt rfl) rfl) ?_|refine g_o (op_loadA rfl (ev_ok rfl) (tgt rfl) rfl (Nat.succ_ne_zero _) rfl) ?_|refine g_o (op_fieldA rfl (ev_ok rfl) (tgt rfl) rfl rfl (Nat.succ_ne_zero _) rfl) ?_|rw[t1]);conv=>whnf))
  (first|exact Recast.refl _|exact Frz.recast (Recast.refl _) rfl|(refine Frz.one rfl rfl ?_;(repeat(first|exact FrzC.keyless rfl|exact FrzL.nil|refine FrzL.cons ?_ ?_|refine FrzC.agg ?_|(refine FrzC.seq rfl (by first|rfl|(apply keylessL_map;intro _;rfl)) ?_;(first|rfl|omega|(simp<;>fail)|(simp<;>omega))))))|(refine Frz.tup ?_;skip))
theorem r13_Scale {r c A C:Nat} {q:Rat} {a:List Rat} (ha:OKM r c a) (hq:fs q≤C) (sa:Sm A a) (h:C+A≤100000000):CallOK Tryz.prog 72 [fF q,rM r c a] [] (rM r c (vscale q a)) [] []:=by
 have hr:=ha.r
 have la:=rowsL_len r c a
 have lz:=rowsL_len r c (vscale q a)
 have lz2:((rowsL r c (vscale q a)).map fFs).length=r:=by rw[List.length_map,lz]
 refine callF (Z:=[2,3]) tabOK mixedOK Tryz.func72 rfl (by kernel_rfl) (by first|rfl|(simp[keylessL,keyless,keylessL_map, *];done)) (by first|rfl|(simp[keylessL,keyless,keylessL_map, *];done)) (by kernel_rfl) rfl ?_
 intro w0 ρ0 hE
 conv=>whnf
 (repeat(first|(refine g_o (op_loadA rfl (ev_ok rfl) (tgt rfl) rfl (Nat.succ_ne_zero _) rfl) ?_;conv=>whnf)|(refine g_o (op_fieldA rfl (ev_ok rfl) (tgt rfl) rfl rfl (Nat.succ_ne_zero _) rfl) ?_;conv=>whnf)))
 refine SWx_adoptB (j:=5) (k:=2001) (s:=1) (p:=1) (blk:=rblk []) rfl rfl rfl rfl rfl ?_
 refine SW_loopS hE (fun k=>k) [2,3,4,5,6] [4,5,2001] (fun m fr hp=>∃i:Nat,m=r - i∧i≤r∧fr=[(2,ptrA [zZ q.num,nN (q.den - 1)]),(3,ptrA (rC r c a)),(4,.ptr 4 0 0 0),(5,.ptr 5 0 0 0),(6,iv (i:Nat))]∧
  hp=[(4,zR),(5,oR c i 2001),(2001,rblk ((rowsL r c (vscale q a)).take i))]) r ?_ ?_ ?_
 ·kernel_rfl
 ·exact⟨0,rfl,Nat.zero_le _,rfl,rfl⟩
 rintro m _ _ ⟨i,rfl,hi,rfl,rfl⟩
 have hlt0:(((rowsL r c (vscale q a)).take i).map fFs).length=i:=by rw[List.length_map,List.length_take];omega
 by_cases hlt:i<r
 ·have t1:decide ((i:Int)<((rowsL r c a).length:Int))=true:=by rw[la];exact dlt hlt
  have t2:=winc (i:=i) (by omega)
  have e1:=rowsL_get (c:=c) (a:=a) hlt
  have o1:=r12_Scale q (rowL a c i) (by rw[rowL_len hlt ha.n];exact ha.c) (fun k hk=>by have:=Sm_row sa ha.n hlt k hk;omega)
  rw[show vscale q (rowL a c i)=rowL (vscale q a) c i from(row_zip ha.n ha.n hlt).symm,←rowsL_get (a:=vscale q a) hlt]at o1
  rw[←e1]at o1
  have e3:=take_rows (l:=rowsL r c (vscale q a)) (i:=i) (by omega)
  refine SWx.of hE ?_
  conv=>whnf
  (repeat((first|refine step_w1 rfl rfl ?_|refine step_i (by kernel_rfl) ?_|refine step_oA (by first|omega|decide|(simp only[tl0,dlen,List.length_replicate,List.length_set,List.length_map,List.length_zipWith,List.length_take,List.length_append,List.length_cons,List.length_nil];omega)) ?_|refine g_c (by assumption) ?_|refine g_o (op_lenM rfl rfl rfl (ev_ok rfl) (tgt rfl) rfl) ?_|refine g_o (op_loadA rfl (ev_ok rfl) (tgt rfl) rfl (Nat.succ_ne_zero _) rfl) ?_|refine g_o (op_indexN (α:=List Rat) (d:=[]) rfl (ev_ok rfl) (ev_ok rfl) (tgt rfl) rfl (tgt rfl) rfl (by omega)) ?_|refine g_o (op_fieldA rfl (ev_ok rfl) (tgt rfl) rfl rfl (Nat.succ_ne_zero _) rfl) ?_|rw[t1]|rw[t2]|rw[Nat.zero_add]);conv=>whnf))
  refine⟨r - (i+1),renBy [(27,2001)],[2,3,4,5,6],[4,5,27],by omega,by kernel_rfl,i+1,rfl,hlt,rfl, ?_⟩
  rw[e3];rfl
 ·have t1:decide ((i:Int)<((rowsL r c a).length:Int))=false:=by rw[la];exact dge hlt
  obtain rfl:i=r:=by omega
  rw[List.take_of_length_le (by omega)]
  refine SWx.of hE ?_
  conv=>whnf
  (repeat((first|refine step_w2 rfl rfl ?_|refine g_o (op_lenM rfl rfl rfl (ev_ok rfl) (tgt rfl) rfl) ?_|refine g_o (op_loadA rfl (ev_ok rfl) (tgt rfl) rfl (Nat.succ_ne_zero _) rfl) ?_|refine g_o (op_fieldA rfl (ev_ok rfl) (tgt rfl) rfl rfl (Nat.succ_ne_zero _) rfl) ?_|rw[t1]);conv=>whnf))
  (first|exact Recast.refl _|exact Frz.recast (Recast.refl _) rfl|(refine Frz.one rfl rfl ?_;(repeat(first|exact FrzC.keyless rfl|exact FrzL.nil|refine FrzL.cons ?_ ?_|refine FrzC.agg ?_|(refine FrzC.seq rfl (by first|rfl|(apply keylessL_map;intro _;rfl)) ?_;(first|rfl|omega|(simp<;>fail)|(simp<;>omega))))))|(refine Frz.tup ?_;skip))
end Go.Proofs.YtfpagioknjjacaaGreatDoor
namespace Go.Proofs.YtfpagioknjjacaaGreatDoor
open Go.Sx
set_option linter.unusedSimpArgs false
set_option linter.unusedVariables false
set_option maxRecDepth 100000
set_option maxHeartbeats 4000000
theorem r_RefM (m:MM) (hm:mOK m) {r c:Nat} (hr:r≤12) (hc:c≤12):CallOK Tryz.prog 64 [mQ m,iv r,iv c] [] (rM r c (someL m.2.2 (r*c))) [] []:=by
 obtain⟨A,B,l⟩:=m
 obtain⟨_,_,hl,hq⟩:=hm
 replace hl:l.length≤maxLen:=hl
 have hz:=someL_len l (r*c)
 have lz:=rowsL_len r c (someL l (r*c))
 have lz2:((rowsL r c (someL l (r*c))).map fFs).length=r:=by rw[List.length_map,lz]
 refine callF (Z:=[3]) tabOK mixedOK Tryz.func64 rfl (by kernel_rfl) (by first|rfl|(simp[keylessL,keyless,keylessL_map, *];done)) (by first|rfl|(simp[keylessL,keyless,keylessL_map, *];done)) (by kernel_rfl) rfl ?_
 intro w0 ρ0 hE
 conv=>whnf
 skip
 refine SWx_adoptB (j:=7) (k:=2001) (s:=1) (p:=1) (blk:=rblk []) rfl rfl rfl rfl rfl ?_
 refine SW_loopS hE (fun k=>k) [1,2,3,6,7,8] [6,7,2001] (fun m fr hp=>∃i:Nat,m=r - i∧i≤r∧fr=[(1,iv r),(2,iv c),(3,ptrA [iel .u8 A,iel .u8 B,mvec 2 qA l]),(6,.ptr 6 0 0 0),(7,.ptr 7 0 0 0),(8,iv (i:Nat))]∧
  hp=[(6,zR),(7,oR c i 2001),(2001,rblk ((rowsL r c (someL l (r*c))).take i))]) r ?_ ?_ ?_
 ·kernel_rfl
 ·exact⟨0,rfl,Nat.zero_le _,rfl,rfl⟩
 rintro m _ _ ⟨i,rfl,hi,rfl,rfl⟩
 have hlt0:(((rowsL r c (someL l (r*c))).take i).map fFs).length=i:=by rw[List.length_map,List.length_take];omega
 by_cases hlt:i<r
 ·have t1:=dlt hlt
  have t2:=winc (i:=i) (by omega)
  have hrl:=rowL_len (c:=c) hlt hz
  have hrl2:=hrl
  rw[List.length_take]at hrl2
  have e3:=take_rows (l:=rowsL r c (someL l (r*c))) (i:=i) (by omega)
  rw[rowsL_get hlt]at e3
  refine SWx.of hE ?_
  conv=>whnf
  (repeat(first|(refine step_w1 rfl rfl ?_;conv=>whnf)|(rw[t1];conv=>whnf)))
  refine SWx_adopt (t:=9) (k:=2002) (s:=3) (blk:=fFblk []) rfl rfl rfl ?_
  refine SW_loopS hE (fun k=>k) [1,2,3,6,7,8,9,10] [6,7,2001,2002] (fun m fr hp=>∃k:Nat,m=c - k∧k≤c∧fr=[(1,iv r),(2,iv c),(3,ptrA [iel .u8 A,iel .u8 B,mvec 2 qA l]),(6,.ptr 6 0 0 0),(7,.ptr 7 0 0 0),(8,iv (i:Nat)),(9,.slc 2002 3 0 k),(10,iv (k:Nat))]∧
   hp=[(6,zR),(7,oR c i 2001),(2001,rblk ((rowsL r c (someL l (r*c))).take i)),(2002,fFblk ((rowL (someL l (r*c)) c i).take k))]) c ?_ ?_ ?_
  ·kernel_rfl
  ·exact⟨0,rfl,Nat.zero_le _,rfl,rfl⟩
  rintro m _ _ ⟨k,rfl,hk,rfl,rfl⟩
  have hlt1:(((rowL (someL l (r*c)) c i).take k).map fF).length=k:=by rw[List.length_map,List.length_take];omega
  by_cases hlk:k<c
  ·have t4:=dlt hlk
   have t5:=winc (i:=k) (by omega)
   obtain⟨w1,w2⟩:=idx_w (i:=i) (k:=k) (c:=c) (by omega) (by omega) (by omega)
   have o1:=r_QRef (l.getD (i*c+k) (0,0)) (qOK_at hq _)
   have hx:=idx_lt hlt hlk
   have hxs:IntKind.i64.wrap ((i:Int)*(c:Int))=((i*c:Nat):Int):=w1
   have e4:=take_map_snoc (z:=rowL (someL l (r*c)) c i) (i:=k) (by omega)
   rw[rowL_get hlk,el,someL_get hx]at e4
   refine SWx.of hE ?_
   conv=>whnf
   by_cases hil:i*c+k<l.length
   ·have t3:=dlt hil
    (repeat((first|refine step_w1 rfl rfl ?_|refine step_oA (by first|omega|decide|(simp only[tl0,dlen,List.length_replicate,List.length_set,List.length_map,List.length_zipWith,List.length_take,List.length_append,List.length_cons,List.length_nil];omega)) ?_|refine g_c (by assumption) ?_|refine g_o (op_lenM rfl rfl rfl (ev_ok rfl) (tgt rfl) rfl) ?_|refine g_o (op_loadA rfl (ev_ok rfl) (tgt rfl) rfl (Nat.succ_ne_zero _) rfl) ?_|refine g_o (op_indexN (α:=Int×Int) (d:=(0,0)) rfl (ev_ok rfl) (ev_ok rfl) (tgt rfl) rfl (tgt rfl) rfl (by omega)) ?_|refine g_o (op_fieldA rfl (ev_ok rfl) (tgt rfl) rfl rfl (Nat.succ_ne_zero _) rfl) ?_|rw[w1]|rw[w2]|rw[t4]|rw[t3]|rw[t5]);conv=>whnf))
    refine⟨c - (k+1),renBy [(47,2002)],[1,2,3,6,7,8,9,10],[6,7,2001,47],by omega,by kernel_rfl,k+1,rfl,hlk,rfl, ?_⟩
    rw[e4];rfl
   ·have t3:=dge hil
    have e5:eQ l (i*c+k)=qV (0,0):=by rw[eQ,List.getD_eq_getElem?_getD,List.getElem?_eq_none (by omega)];rfl
    rw[show l.getD (i*c+k) (0,0)=(0,0)from by rw[List.getD_eq_getElem?_getD,List.getElem?_eq_none (by omega)];rfl]at o1
    rw[e5]at e4
    (repeat((first|refine step_w1 rfl rfl ?_|refine step_w2 rfl rfl ?_|refine step_oA (by first|omega|decide|(simp only[tl0,dlen,List.length_replicate,List.length_set,List.length_map,List.length_zipWith,List.length_take,List.length_append,List.length_cons,List.length_nil];omega)) ?_|refine g_c (by assumption) ?_|refine g_o (op_lenM rfl rfl rfl (ev_ok rfl) (tgt rfl) rfl) ?_|refine g_o (op_loadA rfl (ev_ok rfl) (tgt rfl) rfl (Nat.succ_ne_zero _) rfl) ?_|refine g_o (op_fieldA rfl (ev_ok rfl) (tgt rfl) rfl rfl (Nat.succ_ne_zero _) rfl) ?_|rw[w1]|rw[w2]|rw[t4]|rw[t3]|rw[t5]);conv=>whnf))
    refine⟨c - (k+1),renBy [(47,2002)],[1,2,3,6,7,8,9,10],[6,7,2001,47],by omega,by kernel_rfl,k+1,rfl,hlk,rfl, ?_⟩
    rw[e4];rfl
  ·have t4:=dge hlk
   obtain rfl:k=c:=by omega
   rw[List.take_of_length_le (l:=rowL (someL l (r*k)) k i) (by omega)]
   refine SWx_freezeM 9 2002 (fun _ h=>h) (fun _=>rfl) rfl rfl hrl.symm ?_
   refine SWx.of hE ?_
   conv=>whnf
   (repeat((first|refine step_w2 rfl rfl ?_|refine step_oA (by first|omega|decide|(simp only[tl0,dlen,List.length_replicate,List.length_set,List.length_map,List.length_zipWith,List.length_take,List.length_append,List.length_cons,List.length_nil];omega)) ?_|rw[t4]|rw[t2]|rw[Nat.zero_add]);conv=>whnf))
   refine⟨r - (i+1),renBy [(52,2001)],[1,2,3,6,7,8],[6,7,52],by omega,by kernel_rfl,i+1,rfl,hlt,rfl, ?_⟩
   rw[e3];rfl
 ·have t1:=dge hlt
  obtain rfl:i=r:=by omega
  rw[List.take_of_length_le (by omega)]
  refine SWx.of hE ?_
  conv=>whnf
  (repeat(first|(refine step_w2 rfl rfl ?_;conv=>whnf)|(rw[t1];conv=>whnf)))
  (first|exact Recast.refl _|exact Frz.recast (Recast.refl _) rfl|(refine Frz.one rfl rfl ?_;(repeat(first|exact FrzC.keyless rfl|exact FrzL.nil|refine FrzL.cons ?_ ?_|refine FrzC.agg ?_|(refine FrzC.seq rfl (by first|rfl|(apply keylessL_map;intro _;rfl)) ?_;(first|rfl|omega|(simp<;>fail)|(simp<;>omega))))))|(refine Frz.tup ?_;skip))
theorem r13_Turn {r c:Nat} {a:List Rat} (ha:OKM r c a):CallOK Tryz.prog 74 [rM r c a] [] (rM c r (mturn r c a)) [] []:=by
 have hr:=ha.r
 have hc:=ha.c
 have la:=rowsL_len r c a
 have lz:=rowsL_len c r (mturn r c a)
 have lz2:((rowsL c r (mturn r c a)).map fFs).length=c:=by rw[List.length_map,lz]
 have hz:(mturn r c a).length=c*r:=mk_len ..
 refine callF (Z:=[1]) tabOK mixedOK Tryz.func74 rfl (by kernel_rfl) (by first|rfl|(simp[keylessL,keyless,keylessL_map, *];done)) (by first|rfl|(simp[keylessL,keyless,keylessL_map, *];done)) (by kernel_rfl) rfl ?_
 intro w0 ρ0 hE
 conv=>whnf
 (repeat((first|refine g_o (op_lenM rfl rfl rfl (ev_ok rfl) (tgt rfl) rfl) ?_|refine g_o (op_loadA rfl (ev_ok rfl) (tgt rfl) rfl (Nat.succ_ne_zero _) rfl) ?_|refine g_o (op_fieldA rfl (ev_ok rfl) (tgt rfl) rfl rfl (Nat.succ_ne_zero _) rfl) ?_|rw[la]);conv=>whnf))
 refine SWx_adoptB (j:=3) (k:=2001) (s:=1) (p:=1) (blk:=rblk []) rfl rfl rfl rfl rfl ?_
 refine SW_loopS hE (fun k=>k) [1,2,3,4] [2,3,2001] (fun m fr hp=>∃i:Nat,m=c - i∧i≤c∧fr=[(1,ptrA (rC r c a)),(2,.ptr 2 0 0 0),(3,.ptr 3 0 0 0),(4,iv (i:Nat))]∧
  hp=[(2,zR),(3,oR r i 2001),(2001,rblk ((rowsL c r (mturn r c a)).take i))]) c ?_ ?_ ?_
 ·kernel_rfl
 ·exact⟨0,rfl,Nat.zero_le _,rfl,rfl⟩
 rintro m _ _ ⟨i,rfl,hi,rfl,rfl⟩
 have hlt0:(((rowsL c r (mturn r c a)).take i).map fFs).length=i:=by rw[List.length_map,List.length_take];omega
 by_cases hlt:i<c
 ·have t1:=dlt hlt
  have t2:=winc (i:=i) (by omega)
  have hrl:=rowL_len (c:=r) hlt hz
  have hrl2:=hrl
  rw[List.length_take]at hrl2
  have e3:=take_rows (l:=rowsL c r (mturn r c a)) (i:=i) (by omega)
  rw[rowsL_get hlt]at e3
  refine SWx.of hE ?_
  conv=>whnf
  (repeat((first|refine step_w1 rfl rfl ?_|refine g_o (op_loadA rfl (ev_ok rfl) (tgt rfl) rfl (Nat.succ_ne_zero _) rfl) ?_|refine g_o (op_fieldA rfl (ev_ok rfl) (tgt rfl) rfl rfl (Nat.succ_ne_zero _) rfl) ?_|rw[t1]);conv=>whnf))
  refine SWx_adopt (t:=5) (k:=2002) (s:=3) (blk:=fFblk []) rfl rfl rfl ?_
  refine SW_loopS hE (fun k=>k) [1,2,3,4,5,6] [2,3,2001,2002] (fun m fr hp=>∃k:Nat,m=r - k∧k≤r∧fr=[(1,ptrA (rC r c a)),(2,.ptr 2 0 0 0),(3,.ptr 3 0 0 0),(4,iv (i:Nat)),(5,.slc 2002 3 0 k),(6,iv (k:Nat))]∧
   hp=[(2,zR),(3,oR r i 2001),(2001,rblk ((rowsL c r (mturn r c a)).take i)),(2002,fFblk ((rowL (mturn r c a) r i).take k))]) r ?_ ?_ ?_
  ·kernel_rfl
  ·exact⟨0,rfl,Nat.zero_le _,rfl,rfl⟩
  rintro m _ _ ⟨k,rfl,hk,rfl,rfl⟩
  have hlt1:(((rowL (mturn r c a) r i).take k).map fF).length=k:=by rw[List.length_map,List.length_take];omega
  by_cases hlk:k<r
  ·have t4:decide ((k:Int)<((rowsL r c a).length:Int))=true:=by rw[la];exact dlt hlk
   have t5:=winc (i:=k) (by omega)
   have e5:=rowsL_get (c:=c) (a:=a) hlk
   have hl5:((rowsL r c a).getD k []).length=c:=by rw[e5];exact rowL_len hlk ha.n
   have e4:=take_map_snoc (z:=rowL (mturn r c a) r i) (i:=k) (by omega)
   rw[rowL_get hlk,mk_el hlt hlk,←rowL_get hlt,←e5]at e4
   refine SWx.of hE ?_
   conv=>whnf
   (repeat((first|refine step_w1 rfl rfl ?_|refine step_oA (by first|omega|decide|(simp only[tl0,dlen,List.length_replicate,List.length_set,List.length_map,List.length_zipWith,List.length_take,List.length_append,List.length_cons,List.length_nil];omega)) ?_|refine g_o (op_lenM rfl rfl rfl (ev_ok rfl) (tgt rfl) rfl) ?_|refine g_o (op_indexN (α:=Rat) (d:=0) rfl (ev_ok rfl) (ev_ok rfl) (tgt rfl) rfl (tgt rfl) rfl (by omega)) ?_|refine g_o (op_loadA rfl (ev_ok rfl) (tgt rfl) rfl (Nat.succ_ne_zero _) rfl) ?_|refine g_o (op_indexN (α:=List Rat) (d:=[]) rfl (ev_ok rfl) (ev_ok rfl) (tgt rfl) rfl (tgt rfl) rfl (by omega)) ?_|refine g_o (op_fieldA rfl (ev_ok rfl) (tgt rfl) rfl rfl (Nat.succ_ne_zero _) rfl) ?_|rw[t4]|rw[t5]);conv=>whnf))
   refine⟨r - (k+1),renBy [(34,2002)],[1,2,3,4,5,6],[2,3,2001,34],by omega,by kernel_rfl,k+1,rfl,hlk,rfl, ?_⟩
   rw[e4];rfl
  ·have t4:decide ((k:Int)<((rowsL r c a).length:Int))=false:=by rw[la];exact dge hlk
   obtain rfl:k=r:=by omega
   rw[List.take_of_length_le (l:=rowL (mturn k c a) k i) (by omega)]
   refine SWx_freezeM 5 2002 (fun _ h=>h) (fun _=>rfl) rfl rfl hrl.symm ?_
   refine SWx.of hE ?_
   conv=>whnf
   (repeat((first|refine step_w2 rfl rfl ?_|refine step_oA (by first|omega|decide|(simp only[tl0,dlen,List.length_replicate,List.length_set,List.length_map,List.length_zipWith,List.length_take,List.length_append,List.length_cons,List.length_nil];omega)) ?_|refine g_o (op_lenM rfl rfl rfl (ev_ok rfl) (tgt rfl) rfl) ?_|refine g_o (op_loadA rfl (ev_ok rfl) (tgt rfl) rfl (Nat.succ_ne_zero _) rfl) ?_|refine g_o (op_fieldA rfl (ev_ok rfl) (tgt rfl) rfl rfl (Nat.succ_ne_zero _) rfl) ?_|rw[t4]|rw[t2]|rw[Nat.zero_add]);conv=>whnf))
   refine⟨c - (i+1),renBy [(39,2001)],[1,2,3,4],[2,3,39],by omega,by kernel_rfl,i+1,rfl,hlt,rfl, ?_⟩
   rw[e3];rfl
 ·have t1:=dge hlt
  obtain rfl:i=c:=by omega
  rw[List.take_of_length_le (by omega)]
  refine SWx.of hE ?_
  conv=>whnf
  (repeat((first|refine step_w2 rfl rfl ?_|refine g_o (op_loadA rfl (ev_ok rfl) (tgt rfl) rfl (Nat.succ_ne_zero _) rfl) ?_|refine g_o (op_fieldA rfl (ev_ok rfl) (tgt rfl) rfl rfl (Nat.succ_ne_zero _) rfl) ?_|rw[t1]);conv=>whnf))
  (first|exact Recast.refl _|exact Frz.recast (Recast.refl _) rfl|(refine Frz.one rfl rfl ?_;(repeat(first|exact FrzC.keyless rfl|exact FrzL.nil|refine FrzL.cons ?_ ?_|refine FrzC.agg ?_|(refine FrzC.seq rfl (by first|rfl|(apply keylessL_map;intro _;rfl)) ?_;(first|rfl|omega|(simp<;>fail)|(simp<;>omega))))))|(refine Frz.tup ?_;skip))
theorem dot_turn {r s t i k:Nat} {a b:List Rat} (ha:a.length=r*s) (hi:i<r) (hk:k<t):vdot (rowL a s i) (rowL (mturn s t b) s k)=sumR s fun p=>el a s i p*el b t p k:=by
 rw[vdot_sum (rowL_len hi ha) (rowL_len hk (mk_len ..))]
 exact sum_congr s fun p hp=>by rw[rowL_get hp,rowL_get hp,mk_el hk hp]
theorem Sm_turn {r c B:Nat} {a:List Rat} (ha:a.length=r*c) (sa:Sm B a):Sm B (mturn r c a):=Sm_mk fun _ _ hi hk=>el_sm sa ha hk hi
theorem r13_Mul {r s t A B:Nat} (S:Nat) {a b:List Rat} (ha:OKM r s a) (hb:OKM s t b) (sa:Sm A a) (sb:Sm B b) (hS:s≤S) (h:A+B+(2+S*(A+B))≤100000000):CallOK Tryz.prog 73 [rM r s a,rM s t b] [] (rM r t (mmul r s t a b)) [] []:=by
 have hr:=ha.r
 have ht:=hb.c
 have k1:=r13_Turn hb
 have la:=rowsL_len r s a
 have lb:=rowsL_len t s (mturn s t b)
 have lz:=rowsL_len r t (mmul r s t a b)
 have lz2:((rowsL r t (mmul r s t a b)).map fFs).length=r:=by rw[List.length_map,lz]
 have hz:(mmul r s t a b).length=r*t:=mk_len ..
 refine callF (Z:=[2,3]) tabOK mixedOK Tryz.func73 rfl (by kernel_rfl) (by first|rfl|(simp[keylessL,keyless,keylessL_map, *];done)) (by first|rfl|(simp[keylessL,keyless,keylessL_map, *];done)) (by kernel_rfl) rfl ?_
 intro w0 ρ0 hE
 conv=>whnf
 (repeat(first|(refine g_c (by assumption) ?_;conv=>whnf)|(refine g_o (op_loadA rfl (ev_ok rfl) (tgt rfl) rfl (Nat.succ_ne_zero _) rfl) ?_;conv=>whnf)|(refine g_o (op_fieldA rfl (ev_ok rfl) (tgt rfl) rfl rfl (Nat.succ_ne_zero _) rfl) ?_;conv=>whnf)))
 refine SWx_adoptB (j:=5) (k:=2001) (s:=1) (p:=1) (blk:=rblk []) rfl rfl rfl rfl rfl ?_
 refine SW_loopS hE (fun k=>k) [2,3,4,5,6,7] [4,5,6,2001] (fun m fr hp=>∃i:Nat,m=r - i∧i≤r∧fr=[(2,ptrA (rC r s a)),(3,ptrA (rC s t b)),(4,.ptr 4 0 0 0),(5,.ptr 5 0 0 0),(6,.ptr 6 0 0 0),(7,iv (i:Nat))]∧
  hp=[(4,zR),(5,oR t i 2001),(6,⟨113,true,.one (rC t s (mturn s t b))⟩),(2001,rblk ((rowsL r t (mmul r s t a b)).take i))]) r ?_ ?_ ?_
 ·kernel_rfl
 ·exact⟨0,rfl,Nat.zero_le _,rfl,rfl⟩
 rintro m _ _ ⟨i,rfl,hi,rfl,rfl⟩
 have hlt0:(((rowsL r t (mmul r s t a b)).take i).map fFs).length=i:=by rw[List.length_map,List.length_take];omega
 by_cases hlt:i<r
 ·have t1:decide ((i:Int)<((rowsL r s a).length:Int))=true:=by rw[la];exact dlt hlt
  have t2:=winc (i:=i) (by omega)
  have hrl:=rowL_len (c:=t) hlt hz
  have hrl2:=hrl
  rw[List.length_take]at hrl2
  have e3:=take_rows (l:=rowsL r t (mmul r s t a b)) (i:=i) (by omega)
  rw[rowsL_get hlt]at e3
  refine SWx.of hE ?_
  conv=>whnf
  (repeat((first|refine step_w1 rfl rfl ?_|refine g_o (op_lenM rfl rfl rfl (ev_ok rfl) (tgt rfl) rfl) ?_|refine g_o (op_loadA rfl (ev_ok rfl) (tgt rfl) rfl (Nat.succ_ne_zero _) rfl) ?_|refine g_o (op_fieldA rfl (ev_ok rfl) (tgt rfl) rfl rfl (Nat.succ_ne_zero _) rfl) ?_|rw[t1]);conv=>whnf))
  refine SWx_adopt (t:=8) (k:=2002) (s:=3) (blk:=fFblk []) rfl rfl rfl ?_
  refine SW_loopS hE (fun k=>k) [2,3,4,5,6,7,8,9] [4,5,6,2001,2002] (fun m fr hp=>∃k:Nat,m=t - k∧k≤t∧fr=[(2,ptrA (rC r s a)),(3,ptrA (rC s t b)),(4,.ptr 4 0 0 0),(5,.ptr 5 0 0 0),(6,.ptr 6 0 0 0),(7,iv (i:Nat)),(8,.slc 2002 3 0 k),(9,iv (k:Nat))]∧
   hp=[(4,zR),(5,oR t i 2001),(6,⟨113,true,.one (rC t s (mturn s t b))⟩),(2001,rblk ((rowsL r t (mmul r s t a b)).take i)),(2002,fFblk ((rowL (mmul r s t a b) t i).take k))]) t ?_ ?_ ?_
  ·kernel_rfl
  ·exact⟨0,rfl,Nat.zero_le _,rfl,rfl⟩
  rintro m _ _ ⟨k,rfl,hk,rfl,rfl⟩
  have hlt1:(((rowL (mmul r s t a b) t i).take k).map fF).length=k:=by rw[List.length_map,List.length_take];omega
  by_cases hlk:k<t
  ·have t4:=dlt hlk
   have t5:=winc (i:=k) (by omega)
   have e5:=rowsL_get (c:=s) (a:=a) hlt
   have e6:=rowsL_get (c:=s) (a:=mturn s t b) hlk
   have h1:=rowL_len hlt ha.n
   have h2:=rowL_len (a:=mturn s t b) hlk (mk_len ..)
   have s1:=Sm_row sa ha.n hlt
   have s2:=Sm_row (Sm_turn hb.n sb) (mk_len ..) hlk
   have hS2:=Nat.mul_le_mul_right (A+B) hS
   have o1:=r12_Dot (rowL a s i) (rowL (mturn s t b) s k) (A+B) (h1.trans h2.symm) (by rw[h1];exact ha.c) (fun p hp=>by have:=s1 p hp;have:=s2 p (by omega);omega) (by rw[h1];omega)
   rw[dot_turn ha.n hlt hlk,←e5,←e6]at o1
   have e4:=take_map_snoc (z:=rowL (mmul r s t a b) t i) (i:=k) (by omega)
   rw[rowL_get hlk,mk_el hlt hlk]at e4
   clear s1 s2 hS2 h1 h2
   refine SWx.of hE ?_
   conv=>whnf
   (repeat((first|refine step_w1 rfl rfl ?_|refine step_i (by kernel_rfl) ?_|refine step_oA (by first|omega|decide|(simp only[tl0,dlen,List.length_replicate,List.length_set,List.length_map,List.length_zipWith,List.length_take,List.length_append,List.length_cons,List.length_nil];omega)) ?_|refine g_c (by assumption) ?_|refine g_o (op_loadA rfl (ev_ok rfl) (tgt rfl) rfl (Nat.succ_ne_zero _) rfl) ?_|refine g_o (op_indexN (α:=List Rat) (d:=[]) rfl (ev_ok rfl) (ev_ok rfl) (tgt rfl) rfl (tgt rfl) rfl (by omega)) ?_|refine g_o (op_fieldA rfl (ev_ok rfl) (tgt rfl) rfl rfl (Nat.succ_ne_zero _) rfl) ?_|rw[t4]|rw[t5]|rw[Nat.zero_add]);conv=>whnf))
   refine⟨t - (k+1),renBy [(41,2002)],[2,3,4,5,6,7,8,9],[4,5,6,2001,41],by omega,by kernel_rfl,k+1,rfl,hlk,rfl, ?_⟩
   rw[e4];rfl
  ·have t4:=dge hlk
   obtain rfl:k=t:=by omega
   rw[List.take_of_length_le (l:=rowL (mmul r s k a b) k i) (by omega)]
   refine SWx_freezeM 8 2002 (fun _ h=>h) (fun _=>rfl) rfl rfl hrl.symm ?_
   refine SWx.of hE ?_
   conv=>whnf
   (repeat((first|refine step_w2 rfl rfl ?_|refine step_oA (by first|omega|decide|(simp only[tl0,dlen,List.length_replicate,List.length_set,List.length_map,List.length_zipWith,List.length_take,List.length_append,List.length_cons,List.length_nil];omega)) ?_|refine g_o (op_loadA rfl (ev_ok rfl) (tgt rfl) rfl (Nat.succ_ne_zero _) rfl) ?_|refine g_o (op_fieldA rfl (ev_ok rfl) (tgt rfl) rfl rfl (Nat.succ_ne_zero _) rfl) ?_|rw[t4]|rw[t2]|rw[Nat.zero_add]);conv=>whnf))
   refine⟨r - (i+1),renBy [(46,2001)],[2,3,4,5,6,7],[4,5,6,46],by omega,by kernel_rfl,i+1,rfl,hlt,rfl, ?_⟩
   rw[e3];rfl
 ·have t1:decide ((i:Int)<((rowsL r s a).length:Int))=false:=by rw[la];exact dge hlt
  obtain rfl:i=r:=by omega
  rw[List.take_of_length_le (by omega)]
  refine SWx.of hE ?_
  conv=>whnf
  (repeat((first|refine step_w2 rfl rfl ?_|refine g_o (op_lenM rfl rfl rfl (ev_ok rfl) (tgt rfl) rfl) ?_|refine g_o (op_loadA rfl (ev_ok rfl) (tgt rfl) rfl (Nat.succ_ne_zero _) rfl) ?_|refine g_o (op_fieldA rfl (ev_ok rfl) (tgt rfl) rfl rfl (Nat.succ_ne_zero _) rfl) ?_|rw[t1]);conv=>whnf))
  (first|exact Recast.refl _|exact Frz.recast (Recast.refl _) rfl|(refine Frz.one rfl rfl ?_;(repeat(first|exact FrzC.keyless rfl|exact FrzL.nil|refine FrzL.cons ?_ ?_|refine FrzC.agg ?_|(refine FrzC.seq rfl (by first|rfl|(apply keylessL_map;intro _;rfl)) ?_;(first|rfl|omega|(simp<;>fail)|(simp<;>omega))))))|(refine Frz.tup ?_;skip))
def jS (l:List ByteArray):List UInt8:=Lib.join (l.map (·.data.toList)) [32]
theorem jS_snoc (l:List ByteArray) (s:ByteArray) (h:l≠[]):jS (l++[s])=jS l++[32]++s.data.toList:=by
 cases l with
 |nil=>exact absurd rfl h
 |cons x r=>simp[jS,Lib.join_cons,Lib.joinTail]
theorem r13_Text {r c B:Nat} {a:List Rat} (ha:OKM r c a) (sa:Sm B a) (hB:B≤1000000):CallOK Tryz.prog 116 [rM r c a] [] (.val (.string (tM r c a))) [] []:=by
 have hr:=ha.r
 have la:=rowsL_len r c a
 have hT:((rowsL r c a).map tV).length=r:=by rw[List.length_map,la]
 have hjl:∀i,(jS (((rowsL r c a).map tV).take i)).length≤140737488355328:=by
  intro i
  refine Nat.le_trans (join_size _ (2+2048*(2*B+5)) ?_) ?_
  ·intro x hx
   obtain⟨s,hs,rfl⟩:=List.mem_map.1 hx
   obtain⟨l,hl,rfl⟩:=List.mem_map.1 (List.mem_of_mem_take hs)
   obtain⟨h1,h2⟩:=rows_sm ha.n sa hl
   refine Nat.le_trans (tV_size h2) ?_
   have:=Nat.mul_le_mul_right (2*B+5) (show l.length≤2048 by rw[h1];exact ha.c)
   omega
  ·rw[List.length_map,List.length_take]
   have:=Nat.mul_le_mul_right (2+2048*(2*B+5)+1) (show min i ((rowsL r c a).map tV).length≤2048 by omega)
   omega
 rw[show tM r c a=⟨(jS ((rowsL r c a).map tV)).toArray⟩from rfl]
 refine callV (Z:=[1]) tabOK mixedOK Tryz.func116 rfl (by kernel_rfl) rfl rfl (by kernel_rfl) rfl ?_
 intro W0 w0 ρ0 hE
 conv=>whnf
 skip
 refine SW_loopN hE (fun k=>k) [1,3,4] [] (fun m fr hp=>∃i:Nat,m=r - i∧i≤r∧fr=[(1,ptrA (rC r c a)),(3,dS (jS (((rowsL r c a).map tV).take i))),(4,iv (i:Nat))]∧hp=[]) r ?_ ?_ ?_
 ·kernel_rfl
 ·exact⟨0,rfl,Nat.zero_le _,rfl,rfl⟩
 rintro m _ _ ⟨i,rfl,hi,rfl,rfl⟩
 have hj:=hjl i
 have hsz:=size_l (jS (((rowsL r c a).map tV).take i))
 conv=>whnf
 by_cases hlt:i<r
 ·have t1:decide ((i:Int)<((rowsL r c a).length:Int))=true:=by rw[la];exact dlt hlt
  have t2:=winc (i:=i) (by omega)
  have e5:=rowsL_get (c:=c) (a:=a) hlt
  have k1:=r12_Text (rowL a c i) B (by rw[rowL_len hlt ha.n];exact ha.c) (Sm_row sa ha.n hlt) (by omega)
  have hq:=tV_size (Sm_row sa ha.n hlt)
  rw[rowL_len hlt ha.n]at hq
  have hq2:=Nat.mul_le_mul_right (2*B+5) ha.c
  have hq3:(tV (rowL a c i)).data.toList.length=(tV (rowL a c i)).size:=Array.length_toList
  have hts:((rowsL r c a).map tV).take (i+1)=((rowsL r c a).map tV).take i++[tV (rowL a c i)]:=by
   rw[List.take_add_one,List.getElem?_map,List.getElem?_eq_getElem (by omega)]
   rw[List.getD_eq_getElem?_getD,List.getElem?_eq_getElem (by omega)]at e5
   rw[←e5];rfl
  rw[←e5]at k1 hts hq3 hq
  obtain⟨x,hxe⟩:∃x,(rowsL r c a).getD i []=x:=⟨_,rfl⟩
  rw[hxe]at k1 hts hq3 hq
  clear e5
  by_cases h0:0<i
  ·have t3:decide ((i:Int)>0)=true:=decide_eq_true (by omega)
   have e1:(⟨(jS (((rowsL r c a).map tV).take i)).toArray⟩:ByteArray)++(⟨#[32]⟩:ByteArray)=⟨(jS (((rowsL r c a).map tV).take i)++[32]).toArray⟩:=app_l _ ⟨#[32]⟩
   have e2:=app_l (jS (((rowsL r c a).map tV).take i)++[32]) (tV x)
   have hne:((rowsL r c a).map tV).take i≠[]:=fun h=>by have:=congrArg List.length h;rw[List.length_take,List.length_nil]at this;omega
   have ej:jS (((rowsL r c a).map tV).take i)++[32]++(tV x).data.toList=jS (((rowsL r c a).map tV).take (i+1)):=by rw[hts,jS_snoc _ _ hne]
   have h32:(⟨#[32]⟩:ByteArray).size=1:=rfl
   have o1:(⟨(jS (((rowsL r c a).map tV).take i)).toArray⟩:ByteArray).size+(⟨#[32]⟩:ByteArray).size≤9223372036854775807:=by omega
   have hsz2:=size_l (jS (((rowsL r c a).map tV).take i)++[32])
   rw[List.length_append,List.length_singleton]at hsz2
   have o2:(⟨(jS (((rowsL r c a).map tV).take i)++[32]).toArray⟩:ByteArray).size+(tV x).size≤9223372036854775807:=by omega
   rw[ej]at e2
   clear ej hts hq hq2 hq3
   (repeat((first|refine step_w1 rfl rfl ?_|refine step_oM (by first|omega|decide|(simp only[tl0,dlen,List.length_replicate,List.length_set,List.length_map,List.length_zipWith,List.length_take,List.length_append,List.length_cons,List.length_nil];omega)) ?_|refine g_c (by assumption) ?_|refine g_o (op_lenM rfl rfl rfl (ev_ok rfl) (tgt rfl) rfl) ?_|refine g_o (op_loadA rfl (ev_ok rfl) (tgt rfl) rfl (Nat.succ_ne_zero _) rfl) ?_|refine g_o (op_indexN (α:=List Rat) (d:=[]) rfl (ev_ok rfl) (ev_ok rfl) (tgt rfl) rfl (tgt rfl) rfl (by omega)) ?_|refine g_o (op_fieldA rfl (ev_ok rfl) (tgt rfl) rfl rfl (Nat.succ_ne_zero _) rfl) ?_|rw[t1]|rw[t3]|rw[hxe]|rw[e1]|rw[e2]|rw[t2]);conv=>whnf))
   exact⟨r - (i+1),fun k=>k,[1,3,4],[],by omega,by kernel_rfl,i+1,rfl,hlt,rfl,rfl⟩
  ·have t3:decide ((i:Int)>0)=false:=decide_eq_false (by omega)
   obtain rfl:i=0:=by omega
   have e2:=app_l (jS (((rowsL r c a).map tV).take 0)) (tV x)
   have ej:jS (((rowsL r c a).map tV).take 0)++(tV x).data.toList=jS (((rowsL r c a).map tV).take (0+1)):=by
    rw[hts,List.take_zero];simp[jS,Lib.join_one,Lib.join_nil]
   rw[ej]at e2
   have o2:(⟨(jS (((rowsL r c a).map tV).take 0)).toArray⟩:ByteArray).size+(tV x).size≤9223372036854775807:=by omega
   clear ej hts hq hq2 hq3
   (repeat((first|refine step_w1 rfl rfl ?_|refine step_w2 rfl rfl ?_|refine step_oM (by first|omega|decide|(simp only[tl0,dlen,List.length_replicate,List.length_set,List.length_map,List.length_zipWith,List.length_take,List.length_append,List.length_cons,List.length_nil];omega)) ?_|refine g_c (by assumption) ?_|refine g_o (op_lenM rfl rfl rfl (ev_ok rfl) (tgt rfl) rfl) ?_|refine g_o (op_loadA rfl (ev_ok rfl) (tgt rfl) rfl (Nat.succ_ne_zero _) rfl) ?_|refine g_o (op_indexN (α:=List Rat) (d:=[]) rfl (ev_ok rfl) (ev_ok rfl) (tgt rfl) rfl (tgt rfl) rfl (by omega)) ?_|refine g_o (op_fieldA rfl (ev_ok rfl) (tgt rfl) rfl rfl (Nat.succ_ne_zero _) rfl) ?_|rw[t1]|rw[t3]|rw[hxe]|rw[e2]|rw[t2]|rw[Nat.zero_add]);conv=>whnf))
   exact⟨r - (0+1),fun k=>k,[1,3,4],[],by omega,by kernel_rfl,0+1,rfl,hlt,rfl,rfl⟩
 ·have t1:decide ((i:Int)<((rowsL r c a).length:Int))=false:=by rw[la];exact dge hlt
  obtain rfl:i=r:=by omega
  rw[List.take_of_length_le (by omega)]
  (repeat((first|refine step_w2 rfl rfl ?_|refine g_o (op_lenM rfl rfl rfl (ev_ok rfl) (tgt rfl) rfl) ?_|refine g_o (op_loadA rfl (ev_ok rfl) (tgt rfl) rfl (Nat.succ_ne_zero _) rfl) ?_|refine g_o (op_fieldA rfl (ev_ok rfl) (tgt rfl) rfl rfl (Nat.succ_ne_zero _) rfl) ?_|rw[t1]);conv=>whnf));(first|exact Recast.refl _|exact Frz.recast (Recast.refl _) rfl|(refine Frz.one rfl rfl ?_;skip)|(refine Frz.tup ?_;skip))
theorem r13_is {r c B:Nat} {a:List Rat} (ha:OKM r c a) (sa:Sm B a) (hB:B≤1000000):CallOK Tryz.prog 68 [mA r c a,iv 0,rM r c a] [] (.val (.bool true)) [] []:=by
 have k1:=m_Text ha sa hB
 have k2:=r13_Text ha sa hB
 have la:=rowsL_len r c a
 have hrc:=Nat.mul_le_mul ha.r ha.c
 have t1:IntKind.i64.wrap ((r:Int)*(c:Int))=((r*c:Nat):Int):=by rw[←Int.natCast_mul,wrap_i64 (by omega) (by omega)]
 have e1:((a.length:Int)==((r*c:Nat):Int))=true:=by rw[ha.n];exact beq_self_eq_true _
 refine callV (Z:=[3,5]) tabOK mixedOK Tryz.func68 rfl (by kernel_rfl) rfl rfl (by kernel_rfl) rfl ?_
 intro W0 w0 ρ0 hE
 conv=>whnf
 (repeat((first|refine step_w1 rfl rfl ?_|refine step_i (by kernel_rfl) ?_|refine g_c (by assumption) ?_|refine g_o (op_pickT rfl (ev_ok rfl) (ev_ok rfl)) ?_|rw[beq_self_eq_true]|refine g_o (op_lenM rfl rfl rfl (ev_ok rfl) (tgt rfl) rfl) ?_|refine g_o (op_loadA rfl (ev_ok rfl) (tgt rfl) rfl (Nat.succ_ne_zero _) rfl) ?_|refine g_o (op_fieldA rfl (ev_ok rfl) (tgt rfl) rfl rfl (Nat.succ_ne_zero _) rfl) ?_|rw[la]|rw[t1]|rw[e1]);conv=>whnf));(first|exact Recast.refl _|exact Frz.recast (Recast.refl _) rfl|(refine Frz.one rfl rfl ?_;skip)|(refine Frz.tup ?_;skip))
end Go.Proofs.YtfpagioknjjacaaGreatDoor
namespace Go.Proofs.YtfpagioknjjacaaGreatDoor
open Go.Sx
set_option linter.unusedSimpArgs false
set_option linter.unusedVariables false
set_option maxRecDepth 100000
set_option maxHeartbeats 4000000
abbrev m4:List Rat:=ofInts [1,2,3,4]
theorem l_works13:CallOK Tryz.prog 21 [] [] (.val (.bool true)) [] []:=by
 have h4:OKM 2 2 m4:=⟨by decide,by decide,rfl⟩
 have s4:Sm 20 m4:=by unfold Sm;decide+kernel
 have st:Sm 20 (mturn 2 2 m4):=by unfold Sm;decide+kernel
 have sp:Sm 20 (mmul 2 2 2 m4 m4):=by unfold Sm;decide+kernel
 have s1:Sm 20 (ofInts [1, -1]):=by unfold Sm;decide+kernel
 have s2:Sm 20 (ofInts [1,0]):=by unfold Sm;decide+kernel
 have s3:Sm 20 (ofInts [0,1]):=by unfold Sm;decide+kernel
 have o1:=m_Of 2 2 [1,2,3,4] (by decide) (by decide) rfl (by decide)
 have o2:=m_Turn h4
 have o3:=m_Mul 2 h4 h4 s4 s4 (by decide) (by decide)
 have v1:=v_Of [1, -1] (by decide) (by decide)
 have v2:=v_Of [1,0] (by decide) (by decide)
 have v3:=v_Of [0,1] (by decide) (by decide)
 have o4:=m_Apply 2 h4 (v:=ofInts [1, -1]) rfl s4 s1 (by decide) (by decide)
 have o5:=m_Form 2 h4 (v:=ofInts [1,0]) (w:=ofInts [0,1]) rfl rfl s4 s2 s3 (by decide) (by decide) (by decide) (by decide)
 have t1:=m_Text h4 s4 (by decide)
 have t2:=m_Text (r:=2) (c:=2) (B:=20) (a:=mturn 2 2 m4) ⟨by decide,by decide,rfl⟩ st (by decide)
 have t3:=m_Text (r:=2) (c:=2) (B:=20) (a:=mmul 2 2 2 m4 m4) ⟨by decide,by decide,rfl⟩ sp (by decide)
 have t4:=t_VecG (mapply 2 2 m4 (ofInts [1, -1])) 20 (by decide) (by decide+kernel) (by decide)
 have o6:=c_fInt 2 (by decide) (by decide)
 have o7:=m_OfE 2 2 [1] (by decide) (by decide) (by decide)
 have o8:=(m_OfE (-1) 2049 [] (by decide) (by decide) (by decide)).wk (args:=[iv (-1),iv 2049,.val (.slice none 0 0)]) (by repeat(first|exact WkL.nil|refine WkL.cons ?_ ?_|exact Wk.nil|exact Wk.refl|refine Wk.agg ?_))
 have o9:=(m_OfE 2049 0 [] (by decide) (by decide) (by decide)).wk (args:=[iv 2049,iv 0,.val (.slice none 0 0)]) (by repeat(first|exact WkL.nil|refine WkL.cons ?_ ?_|exact Wk.nil|exact Wk.refl|refine Wk.agg ?_))
 have o10:=(m_Of 0 3 [] (by decide) (by decide) rfl (by decide)).wk (args:=[iv 0,iv 3,.val (.slice none 0 0)]) (by repeat(first|exact WkL.nil|refine WkL.cons ?_ ?_|exact Wk.nil|exact Wk.refl|refine Wk.agg ?_))
 have o11:=m_Part h4 [1,0] [1] (by decide) (by decide) (by decide) (by decide)
 have t5:=m_Text (a:=mpart 2 m4 [1,0] [1]) (r:=2) (c:=1) (B:=20) ⟨by decide,by decide,rfl⟩ (by unfold Sm;decide+kernel) (by decide)
 have o12:=m_Sum h4 (by decide+kernel)
 have o13:=c_fInt 10 (by decide) (by decide)
 have o14:=m_Symmetric h4
 have o15:=m_Symmetric (r:=0) (c:=3) (a:=[]) ⟨by decide,by decide,rfl⟩
 have e1:sameF 2 2 2 2 m4 (mturn 2 2 m4)=false:=by decide+kernel
 have e2:sameF 0 3 3 0 [] (mturn 0 3 [])=false:=by decide+kernel
 replace o14:CallOK Tryz.prog 88 [mA 2 2 m4] [] (.val (.bool (sameF 2 2 2 2 m4 (mturn 2 2 m4)))) [] []:=o14
 replace o15:CallOK Tryz.prog 88 [mA 0 3 []] [] (.val (.bool (sameF 0 3 3 0 [] (mturn 0 3 [])))) [] []:=o15
 rw[e1]at o14
 rw[e2]at o15
 have q1:(!(tM 2 2 m4).toList==(ByteArray.mk #[91,49,32,50,93,32,91,51,32,52,93]).toList)=false:=by decide+kernel
 have q2:(!(tM 2 2 (mturn 2 2 m4)).toList==(ByteArray.mk #[91,49,32,51,93,32,91,50,32,52,93]).toList)=false:=by decide+kernel
 have q3:(!(tM 2 2 (mmul 2 2 2 m4 m4)).toList==(ByteArray.mk #[91,55,32,49,48,93,32,91,49,53,32,50,50,93]).toList)=false:=by decide+kernel
 have q4:(!(tV (mapply 2 2 m4 (ofInts [1, -1]))).toList==(ByteArray.mk #[91,45,49,32,45,49,93]).toList)=false:=by decide+kernel
 have q5:(!decide (mform 2 2 m4 (ofInts [1,0]) (ofInts [0,1])=((2:Int):Rat)))=false:=by decide+kernel
 have q6:((tM 2 1 (mpart 2 m4 [1,0] [1])).toList==(ByteArray.mk #[91,52,93,32,91,50,93]).toList)=true:=by decide+kernel
 have q7:decide (List.foldl (·+·) 0 m4=((10:Int):Rat))=true:=by decide+kernel
 refine callV (Z:=[22,39,46,48,97,115,116]) tabOK mixedOK Tryz.func21 rfl (by kernel_rfl) rfl rfl (by kernel_rfl) rfl ?_
 intro W0 w0 ρ0 hE
 conv=>whnf
 (repeat((first|refine step_w1 rfl rfl ?_|refine step_w2 rfl rfl ?_|refine step_i (by kernel_rfl) ?_|refine g_c (by assumption) ?_|refine g_o (op_pickT rfl (ev_ok rfl) (ev_ok rfl)) ?_|refine g_o (op_pickF rfl (ev_ok rfl) (ev_ok rfl)) ?_|rw[beq_self_eq_true]|rw[bne_self_eq_false]|refine⟨_,op_eqAgg tabOK goodOK rfl (ev_ok rfl) (ev_ok rfl) rfl rfl rfl rfl (q_same _ _) q_guard, ?_⟩|refine⟨_,op_neAgg tabOK goodOK rfl (ev_ok rfl) (ev_ok rfl) rfl rfl rfl rfl (q_same _ _) q_guard, ?_⟩|rw[q1]|rw[q2]|rw[q3]|rw[q4]|rw[q5]|rw[q6]|rw[q7]);conv=>whnf));(first|exact Recast.refl _|exact Frz.recast (Recast.refl _) rfl|(refine Frz.one rfl rfl ?_;skip)|(refine Frz.tup ?_;skip))
end Go.Proofs.YtfpagioknjjacaaGreatDoor
namespace Go.Proofs.YtfpagioknjjacaaGreatDoor
open Go.Sx
set_option linter.unusedSimpArgs false
set_option linter.unusedVariables false
set_option maxRecDepth 100000
set_option maxHeartbeats 8000000
theorem side_le (x:Int):(x % 7).toNat≤6:=by omega
theorem OKM_zip {F:Rat→Rat→Rat} {r c:Nat} {a b:List Rat} (ha:OKM r c a) (hb:OKM r c b):OKM r c (List.zipWith F a b):=⟨ha.r,ha.c,zip_len ha.n hb.n⟩
theorem OKM_mk {r c:Nat} {F:Nat→Nat→Rat} (hr:r≤2048) (hc:c≤2048):OKM r c (mk r c F):=⟨hr,hc,mk_len ..⟩
theorem c_fewL (ms:List MM) (h:ms.length<1000) (hl:∀m∈ms,mOK m):CallOK Tryz.prog 61 [mvec 3 mQ ms] [] (.val (.bool (ms.all fun m=>decide (m.2.2.length≤40)))) [] []:=c_few ms h fun m hm=>(hl m hm).2.2.1
theorem c_MPlays (c:Int×Int) (a b:MM) (hc:qOK c) (ha:mOK a) (hb:mOK b):CallOK Tryz.prog 8 [qA c,mQ a,mQ b] [] (.val (.bool true)) [] []:=by
 have kw:=l_works13
 have kf:=c_fewL [a,b] (by simp) (by intro m hm;simp only[List.mem_cons,List.not_mem_nil,or_false]at hm;rcases hm with rfl|rfl<;>assumption)
 cases hF:[a,b].all fun m=>decide (m.2.2.length≤40)
 ·rw[hF]at kf
  refine callV (Z:=[3,4,5,29]) tabOK mixedOK Tryz.func8 rfl (by kernel_rfl) rfl rfl (by kernel_rfl) rfl ?_
  intro W0 w0 ρ0 hE
  conv=>whnf
  (repeat(first|(refine step_w1 rfl rfl ?_;conv=>whnf)|(refine g_c (by assumption) ?_;conv=>whnf)|(refine g_o (op_loadA rfl (ev_ok rfl) (tgt rfl) rfl (Nat.succ_ne_zero _) rfl) ?_;conv=>whnf)));(first|exact Recast.refl _|exact Frz.recast (Recast.refl _) rfl|(refine Frz.one rfl rfl ?_;skip)|(refine Frz.tup ?_;skip))
 rw[hF]at kf
 have ks:=c_Sides a ha
 have kt:=c_Sides b hb
 have n6:=side_le a.1
 have k6:=side_le a.2.1
 have p6:=side_le b.2.1
 generalize (a.1 % 7).toNat=n at*
 generalize (a.2.1 % 7).toNat=k at*
 generalize (b.1 % 7).toNat=q at*
 generalize (b.2.1 % 7).toNat=p at*
 have x1:=c_Some a ha (r:=n) (c:=k) (by omega) (by omega)
 have x2:=r_RefM a ha (r:=n) (c:=k) (by omega) (by omega)
 have y1:=c_Some b hb (r:=n) (c:=k) (by omega) (by omega)
 have y2:=r_RefM b hb (r:=n) (c:=k) (by omega) (by omega)
 have z1:=c_Some b hb (r:=k) (c:=p) (by omega) (by omega)
 have z2:=r_RefM b hb (r:=k) (c:=p) (by omega) (by omega)
 have hx:=OKM_some a.2.2 (r:=n) (c:=k) (by omega) (by omega)
 have hy:=OKM_some b.2.2 (r:=n) (c:=k) (by omega) (by omega)
 have hz:=OKM_some b.2.2 (r:=k) (c:=p) (by omega) (by omega)
 have sx:=Sm_some ha.2.2.2 (n*k)
 have sy:=Sm_some hb.2.2.2 (n*k)
 have sz:=Sm_some hb.2.2.2 (k*p)
 have c1:=c_QOf c hc
 have c2:=r_QRef c hc
 have fc:=fs_qV hc
 generalize someL a.2.2 (n*k)=x at*
 generalize someL b.2.2 (n*k)=y at*
 generalize someL b.2.2 (k*p)=z at*
 generalize qV c=u at*
 have o0:=m_Check0 hx
 have o1:=m_Add hx hy sx sy (by decide)
 have o2:=m_Sub hx hy sx sy (by decide)
 have o3:=m_Scale hx fc sx (by decide)
 have o4:=m_Mul 6 hx hz sx sz (by omega) (by decide)
 have o5:=m_Turn hx
 have r1:=r13_Add hx hy sx sy (by decide)
 have r2:=r13_Sub hx hy sx sy (by decide)
 have r3:=r13_Scale hx fc sx (by decide)
 have r4:=r13_Mul 6 hx hz sx sz (by omega) (by decide)
 have r5:=r13_Turn hx
 have i0:=r13_is hx sx (by decide)
 have i1:=r13_is (a:=vadd x y) (OKM_zip (F:=(·+·)) hx hy) (Sm_zip fs_add sx sy (hx.n.trans hy.n.symm)) (by decide)
 have i2:=r13_is (a:=vsub x y) (OKM_zip (F:=(· - ·)) hx hy) (Sm_zip fs_sub sx sy (hx.n.trans hy.n.symm)) (by decide)
 have i3:=r13_is (a:=vscale u x) (OKM_zip (F:=fun x _=>u*x) hx hx) (Sm_scale fc sx) (by decide)
 have i4:=r13_is (a:=mmul n k p x z) (OKM_mk (by omega) (by omega)) (Sm_mul hx.n hz.n sx sz k6) (by decide)
 have i5:=r13_is (a:=mturn n k x) (OKM_mk (by omega) (by omega)) (Sm_turn hx.n sx) (by decide)
 clear hx hy hz sx sy sz fc hF n6 k6 p6 ha hb hc
 generalize vadd x y=v1 at*
 generalize vsub x y=v2 at*
 generalize vscale u x=v3 at*
 generalize mmul n k p x z=v4 at*
 generalize mturn n k x=v5 at*
 refine callV (Z:=[3,4,5,29]) tabOK mixedOK Tryz.func8 rfl (by kernel_rfl) rfl rfl (by kernel_rfl) rfl ?_
 intro W0 w0 ρ0 hE
 conv=>whnf
 (repeat((first|refine step_w1 rfl rfl ?_|refine step_w2 rfl rfl ?_|refine step_i (by kernel_rfl) ?_|refine g_c (by assumption) ?_|refine g_o (op_pickT rfl (ev_ok rfl) (ev_ok rfl)) ?_|refine g_o (op_loadA rfl (ev_ok rfl) (tgt rfl) rfl (Nat.succ_ne_zero _) rfl) ?_);conv=>whnf));(first|exact Recast.refl _|exact Frz.recast (Recast.refl _) rfl|(refine Frz.one rfl rfl ?_;skip)|(refine Frz.tup ?_;skip))
end Go.Proofs.YtfpagioknjjacaaGreatDoor
namespace Go.Proofs.YtfpagioknjjacaaGreatDoor
open Go.Sx
set_option linter.unusedSimpArgs false
set_option linter.unusedVariables false
set_option maxRecDepth 100000
set_option maxHeartbeats 8000000
theorem l_mulM {r s t A B:Nat} (S:Nat) {a b:List Rat} (ha:OKM r s a) (hb:OKM s t b) (sa:Sm A a) (sb:Sm B b) (hS:s≤S) (h:A+B+(2+S*(A+B))≤1073741824):
  CallOK Tryz.prog 84 [mA r s a,mA s t b] [] (mA r t (mmul r s t a b)) [] []:=by
 have k1:=m_Mul S ha hb sa sb hS h
 refine callV (Z:=[]) tabOK mixedOK Tryz.func84 rfl (by kernel_rfl) rfl rfl (by kernel_rfl) rfl ?_
 intro W0 w0 ρ0 hE
 conv=>whnf
 (repeat(first|(refine g_c (by assumption) ?_;conv=>whnf)));(first|exact Recast.refl _|exact Frz.recast (Recast.refl _) rfl|(refine Frz.one rfl rfl ?_;skip)|(refine Frz.tup ?_;skip))
theorem l_addM {r c A B:Nat} {a b:List Rat} (ha:OKM r c a) (hb:OKM r c b) (sa:Sm A a) (sb:Sm B b) (h:A+B≤1073741824):CallOK Tryz.prog 85 [mA r c a,mA r c b] [] (mA r c (vadd a b)) [] []:=by
 have k1:=m_Add ha hb sa sb h
 refine callV (Z:=[]) tabOK mixedOK Tryz.func85 rfl (by kernel_rfl) rfl rfl (by kernel_rfl) rfl ?_
 intro W0 w0 ρ0 hE
 conv=>whnf
 (repeat(first|(refine g_c (by assumption) ?_;conv=>whnf)));(first|exact Recast.refl _|exact Frz.recast (Recast.refl _) rfl|(refine Frz.one rfl rfl ?_;skip)|(refine Frz.tup ?_;skip))
theorem l_turnM {r c:Nat} {a:List Rat} (ha:OKM r c a):CallOK Tryz.prog 86 [mA r c a] [] (mA c r (mturn r c a)) [] []:=by
 have k1:=m_Turn ha
 refine callV (Z:=[]) tabOK mixedOK Tryz.func86 rfl (by kernel_rfl) rfl rfl (by kernel_rfl) rfl ?_
 intro W0 w0 ρ0 hE
 conv=>whnf
 (repeat(first|(refine g_c (by assumption) ?_;conv=>whnf)));(first|exact Recast.refl _|exact Frz.recast (Recast.refl _) rfl|(refine Frz.one rfl rfl ?_;skip)|(refine Frz.tup ?_;skip))
theorem madd_mk {r c:Nat} {a b:List Rat} (ha:a.length=r*c) (hb:b.length=r*c):vadd a b=mk r c fun i k=>el a c i k+el b c i k:=(zip_mk ha hb).symm
theorem mscale_mk {r c:Nat} {q:Rat} {a:List Rat} (ha:a.length=r*c):vscale q a=mk r c fun i k=>q*el a c i k:=(zip_mk (F:=fun x _=>q*x) ha ha).symm
theorem u8_mod (x:Int) (h:0≤x∧x<256) (m:Int) (hm:0<m∧m<256):IntKind.u8.wrap (x.tmod m)=x.tmod m∧IntKind.i64.wrap (x.tmod m)=((x % m).toNat:Nat):=by
 have h1:=Int.emod_nonneg x (show m≠0 by omega)
 have h2:=Int.emod_lt_of_pos x hm.1
 rw[Int.tmod_eq_emod_of_nonneg h.1]
 constructor
 ·exact wrap_u8 h1 (by omega)
 ·rw[wrap_i64 (by omega) (by omega)];omega
theorem OKM_mul {r s t:Nat} {a b:List Rat} (ha:OKM r s a) (hb:OKM s t b):OKM r t (mmul r s t a b):=OKM_mk ha.r hb.c
theorem OKM_turn {r c:Nat} {a:List Rat} (ha:OKM r c a):OKM c r (mturn r c a):=OKM_mk ha.c ha.r
theorem Sm_one (n:Nat):Sm 10 (mone n):=Sm_mk fun i k _ _=>by unfold delta;split<;>decide+kernel
theorem c_Ring (c:Int×Int) (a b d:MM) (v:List (Int×Int)) (n k p:Int) (hc:qOK c) (ha:mOK a) (hb:mOK b) (hd:mOK d) (hv:v.length≤maxLen∧∀q∈v,qOK q) (hn:0≤n∧n<256) (hk:0≤k∧k<256) (hp:0≤p∧p<256):
  CallOK Tryz.prog 10 [qA c,mQ a,mQ b,mQ d,mvec 2 qA v,iel .u8 n,iel .u8 k,iel .u8 p] [] (.val (.bool true)) [] []:=by
 have kw:=l_works13
 have kf:=c_fewL [a,b,d] (by simp) (by intro m hm;simp only[List.mem_cons,List.not_mem_nil,or_false]at hm;rcases hm with rfl|rfl|rfl<;>assumption)
 cases hF:[a,b,d].all fun m=>decide (m.2.2.length≤40)
 ·rw[hF]at kf
  refine callV (Z:=[8,9,10,11,41]) tabOK mixedOK Tryz.func10 rfl (by kernel_rfl) rfl rfl (by kernel_rfl) rfl ?_
  intro W0 w0 ρ0 hE
  conv=>whnf
  (repeat((first|refine step_w1 rfl rfl ?_|refine step_w2 rfl rfl ?_|refine g_c (by assumption) ?_|refine g_o (op_pickT rfl (ev_ok rfl) (ev_ok rfl)) ?_|refine g_o (op_loadA rfl (ev_ok rfl) (tgt rfl) rfl (Nat.succ_ne_zero _) rfl) ?_);conv=>whnf));(first|exact Recast.refl _|exact Frz.recast (Recast.refl _) rfl|(refine Frz.one rfl rfl ?_;skip)|(refine Frz.tup ?_;skip))
 rw[hF]at kf
 by_cases hl:v.length>20
 ·have t1:decide ((v.length:Int)>20)=true:=decide_eq_true (by omega)
  refine callV (Z:=[8,9,10,11,41]) tabOK mixedOK Tryz.func10 rfl (by kernel_rfl) rfl rfl (by kernel_rfl) rfl ?_
  intro W0 w0 ρ0 hE
  conv=>whnf
  (repeat((first|refine step_w1 rfl rfl ?_|refine g_c (by assumption) ?_|refine g_o (op_pickF rfl (ev_ok rfl) (ev_ok rfl)) ?_|refine g_o (op_lenM rfl rfl rfl (ev_ok rfl) (tgt rfl) rfl) ?_|refine g_o (op_loadA rfl (ev_ok rfl) (tgt rfl) rfl (Nat.succ_ne_zero _) rfl) ?_|rw[t1]);conv=>whnf));(first|exact Recast.refl _|exact Frz.recast (Recast.refl _) rfl|(refine Frz.one rfl rfl ?_;skip)|(refine Frz.tup ?_;skip))
 have t1:decide ((v.length:Int)>20)=false:=decide_eq_false (by omega)
 obtain⟨e1,e2⟩:=u8_mod n hn 5 (by decide)
 obtain⟨e3,e4⟩:=u8_mod k hk 5 (by decide)
 obtain⟨e5,e6⟩:=u8_mod p hp 5 (by decide)
 obtain⟨e7,e8⟩:=u8_mod d.2.1 hd.2.1 5 (by decide)
 have r4:(n % 5).toNat≤4:=by omega
 have s4:(k % 5).toNat≤4:=by omega
 have t4:(p % 5).toNat≤4:=by omega
 have u4:(d.2.1 % 5).toNat≤4:=by omega
 generalize (n % 5).toNat=r at*
 generalize (k % 5).toNat=s at*
 generalize (p % 5).toNat=t at*
 generalize (d.2.1 % 5).toNat=u at*
 have x1:=c_Some a ha (r:=r) (c:=s) (by omega) (by omega)
 have y1:=c_Some b hb (r:=s) (c:=t) (by omega) (by omega)
 have z1:=c_Some d hd (r:=t) (c:=u) (by omega) (by omega)
 have w1:=c_Some d hd (r:=s) (c:=t) (by omega) (by omega)
 have v1:=c_vec v hv.1 hv.2 (n:=t) (by omega)
 have hx:=OKM_some a.2.2 (r:=r) (c:=s) (by omega) (by omega)
 have hy:=OKM_some b.2.2 (r:=s) (c:=t) (by omega) (by omega)
 have hz:=OKM_some d.2.2 (r:=t) (c:=u) (by omega) (by omega)
 have hw:=OKM_some d.2.2 (r:=s) (c:=t) (by omega) (by omega)
 have sx:=Sm_some ha.2.2.2 (r*s)
 have sy:=Sm_some hb.2.2.2 (s*t)
 have sz:=Sm_some hd.2.2.2 (t*u)
 have sw:=Sm_some hd.2.2.2 (s*t)
 have sv:=Sm_some hv.2 t
 have lv:=someL_len v t
 have c1:=c_QOf c hc
 have fc:=fs_qV hc
 generalize someL a.2.2 (r*s)=x at*
 generalize someL b.2.2 (s*t)=y at*
 generalize someL d.2.2 (t*u)=z at*
 generalize someL d.2.2 (s*t)=w at*
 generalize someL v t=g at*
 generalize qV c=q at*
 have o1:=m_One s (by omega)
 have h1:OKM s s (mone s):=OKM_mk (by omega) (by omega)
 have m1:=l_mulM 4 hx hy sx sy s4 (by decide)
 have hxy:=OKM_mul hx hy
 have sxy:Sm 1042 (mmul r s t x y):=Sm_mul hx.n hy.n sx sy s4
 have m2:=l_mulM 4 hxy hz sxy sz t4 (by decide)
 have m3:=l_mulM 4 hy hz sy sz t4 (by decide)
 have hyz:=OKM_mul hy hz
 have syz:Sm 1042 (mmul s t u y z):=Sm_mul hy.n hz.n sy sz t4
 have m4:=l_mulM 4 hx hyz sx syz s4 (by decide)
 have e10:mmul r t u (mmul r s t x y) z=mmul r s u x (mmul s t u y z):=mul_assocM x y z
 rw[e10]at m2
 have q1:=m_SameT (OKM_mul hx hyz) rfl
 have a1:=l_addM hy hw sy sw (by decide)
 have hyw:OKM s t (vadd y w):=OKM_zip hy hw
 have syw:Sm 260 (vadd y w):=Sm_zip fs_add sy sw (hy.n.trans hw.n.symm)
 have m5:=l_mulM 4 hx hyw sx syw s4 (by decide)
 have m6:=l_mulM 4 hx hw sx sw s4 (by decide)
 have hxw:=OKM_mul hx hw
 have sxw:Sm 1042 (mmul r s t x w):=Sm_mul hx.n hw.n sx sw s4
 have a2:=l_addM hxy hxw sxy sxw (by decide)
 have e11:mmul r s t x (vadd y w)=vadd (mmul r s t x y) (mmul r s t x w):=by
  rw[madd_mk hy.n hw.n,mul_addM,madd_mk hxy.n hxw.n]
 rw[e11]at m5
 have q2:=m_SameT (a:=vadd (mmul r s t x y) (mmul r s t x w)) (OKM_zip hxy hxw) rfl
 have m7:=l_mulM 4 hx h1 sx (Sm_one s) s4 (by decide)
 have m8:=l_mulM 4 h1 hy (Sm_one s) sy s4 (by decide)
 rw[mul_oneM hx.n]at m7
 rw[one_mulM hy.n]at m8
 have q3:=m_SameT hx rfl
 have q4:=m_SameT hy rfl
 have u1:=l_turnM hxy
 have u2:=l_turnM hy
 have u3:=l_turnM hx
 have m9:=l_mulM 4 (OKM_turn hy) (OKM_turn hx) (Sm_turn hy.n sy) (Sm_turn hx.n sx) s4 (by decide)
 rw[turn_mulM x y]at u1
 have q5:=m_SameT (OKM_mul (OKM_turn hy) (OKM_turn hx)) rfl
 have u4':=l_turnM (OKM_turn hx)
 rw[turn_turnM hx.n]at u4'
 have a3:=l_addM hx hx sx sx (by decide)
 have hxx:OKM r s (vadd x x):=OKM_zip hx hx
 have sxx:Sm 260 (vadd x x):=Sm_zip fs_add sx sx rfl
 have m10:=l_mulM 4 hxx hy sxx sy s4 (by decide)
 have a4:=l_addM hxy hxy sxy sxy (by decide)
 have e12:mmul r s t (vadd x x) y=vadd (mmul r s t x y) (mmul r s t x y):=by
  rw[madd_mk hx.n hx.n,add_mulM,madd_mk hxy.n hxy.n]
 rw[e12]at m10
 have q6:=m_SameT (a:=vadd (mmul r s t x y) (mmul r s t x y)) (OKM_zip hxy hxy) rfl
 have p1:=m_Scale hx fc sx (by decide)
 have p2:=m_Scale hxy fc sxy (by decide)
 have hqx:OKM r s (vscale q x):=OKM_zip hx hx
 have sqx:Sm 260 (vscale q x):=Sm_scale fc sx
 have m11:=l_mulM 4 hqx hy sqx sy s4 (by decide)
 have e13:mmul r s t (vscale q x) y=vscale q (mmul r s t x y):=by
  rw[mscale_mk hx.n,scale_mulM,mscale_mk hxy.n]
 rw[e13]at m11
 have q7:=m_SameT (a:=vscale q (mmul r s t x y)) (OKM_zip hxy hxy) rfl
 have ap1:=m_Apply 4 hy lv sy sv t4 (by decide)
 have ap2:=m_Apply 4 hx (v:=mapply s t y g) mapply_len sx (Sm_apply hy.n lv sy sv t4) s4 (by decide)
 have ap3:=m_Apply 4 hxy lv sxy sv t4 (by decide)
 rw[mul_applyM x y g]at ap3
 have q8:=s_same (a:=mapply r s x (mapply s t y g)) (n:=r) mapply_len mapply_len (by omega) rfl
 have lr:(mapply r s x (mapply s t y g)).length=r:=mapply_len
 have f1:(((mapply r s x (mapply s t y g)).length:Int)==(r:Int))=true:=by rw[lr];exact beq_self_eq_true _
 clear hx hy hz hw sx sy sz sw sv lv fc hF r4 s4 t4 u4 ha hb hc hd hv hn hk hp h1 hxy sxy hyz syz hyw syw hxw sxw hxx sxx hqx sqx lr e10 e11 e12 e13
 generalize vscale q (mmul r s t x y)=b1 at*
 generalize vadd (mmul r s t x y) (mmul r s t x y)=b2 at*
 generalize vadd (mmul r s t x y) (mmul r s t x w)=b3 at*
 generalize mapply r s x (mapply s t y g)=b4 at*
 generalize mapply s t y g=b5 at*
 generalize vscale q x=b6 at*
 generalize mmul t s r (mturn s t y) (mturn r s x)=b7 at*
 generalize mturn r s x=b8 at*
 generalize mturn s t y=b9 at*
 generalize mmul r s u x (mmul s t u y z)=b10 at*
 generalize mmul s t u y z=b11 at*
 generalize mmul r s t x y=b12 at*
 generalize mmul r s t x w=b13 at*
 generalize vadd y w=b14 at*
 generalize vadd x x=b15 at*
 generalize mone s=b16 at*
 refine callV (Z:=[8,9,10,11,41]) tabOK mixedOK Tryz.func10 rfl (by kernel_rfl) rfl rfl (by kernel_rfl) rfl ?_
 intro W0 w0 ρ0 hE
 conv=>whnf
 (repeat((first|refine step_w1 rfl rfl ?_|refine step_w2 rfl rfl ?_|refine step_i (by kernel_rfl) ?_|refine And.intro (by first|decide|omega|(simp only[tl0,dlen,List.length_replicate,List.length_set,List.length_map,List.length_zipWith,List.length_take,List.length_append,List.length_cons,List.length_nil];omega)) ?_|refine g_c (by assumption) ?_|refine g_o (op_pickT rfl (ev_ok rfl) (ev_ok rfl)) ?_|refine g_o (op_pickF rfl (ev_ok rfl) (ev_ok rfl)) ?_|rw[beq_self_eq_true]|rw[bne_self_eq_false]|refine g_o (op_lenM rfl rfl rfl (ev_ok rfl) (tgt rfl) rfl) ?_|refine g_o (op_loadA rfl (ev_ok rfl) (tgt rfl) rfl (Nat.succ_ne_zero _) rfl) ?_|refine g_o (op_fieldA rfl (ev_ok rfl) (tgt rfl) rfl rfl (Nat.succ_ne_zero _) rfl) ?_|rw[t1]|rw[e2]|rw[e4]|rw[e6]|rw[e8]|rw[f1]);conv=>whnf));(first|exact Recast.refl _|exact Frz.recast (Recast.refl _) rfl|(refine Frz.one rfl rfl ?_;skip)|(refine Frz.tup ?_;skip))
end Go.Proofs.YtfpagioknjjacaaGreatDoor
namespace Go.Proofs.YtfpagioknjjacaaGreatDoor
open Go.Sx
set_option linter.unusedSimpArgs false
set_option linter.unusedVariables false
set_option maxRecDepth 100000
set_option maxHeartbeats 8000000
def symK (l:List (Int×Int)) (n i:Nat):Nat→Nat→List Rat→List Rat
 |0,_,a=>a
 |m+1,t,a=>symK l n i m (t+1) (if t<l.length then(a.set (i*n+(n - (m+1))) (qV (l.getD t (0,0)))).set ((n - (m+1))*n+i) (qV (l.getD t (0,0)))else a)
def symO (l:List (Int×Int)) (n:Nat):Nat→Nat→List Rat→List Rat
 |0,_,a=>a
 |m+1,t,a=>symO l n m (t+(m+1)) (symK l n (n - (m+1)) (m+1) t a)
def symL (l:List (Int×Int)) (n:Nat):List Rat:=symO l n n 0 (List.replicate (n*n) 0)
def SymOK (n:Nat) (a:List Rat):Prop:=a.length=n*n∧SymM n a∧Sm 130 a
theorem symK_ok {l:List (Int×Int)} {n i:Nat} (hq:∀q∈l,qOK q) (hi:i<n):∀m t a,m≤n→SymOK n a→SymOK n (symK l n i m t a)
 |0,_,a,_,h=>h
 |m+1,t,a,hm,h=>by
  rw[symK]
  refine symK_ok hq hi m (t+1) _ (by omega) ?_
  by_cases ht:t<l.length
  ·rw[if_pos ht]
   obtain⟨h1,h2,h3⟩:=h
   have fq:fs (qV (l.getD t (0,0)))≤130:=fs_qV (qOK_at hq t)
   exact⟨by rw[List.length_set,List.length_set,h1],SymM_set h1 h2 hi (by omega),Sm_set (Sm_set h3 fq) fq⟩
  ·rw[if_neg ht];exact h
theorem symO_ok {l:List (Int×Int)} {n:Nat} (hq:∀q∈l,qOK q):∀m t a,m≤n→SymOK n a→SymOK n (symO l n m t a)
 |0,_,a,_,h=>h
 |m+1,t,a,hm,h=>by
  rw[symO]
  exact symO_ok hq m _ _ (by omega) (symK_ok hq (by omega) (m+1) t a hm h)
theorem symL_ok {l:List (Int×Int)} (n:Nat) (hq:∀q∈l,qOK q):SymOK n (symL l n):=
 symO_ok hq n 0 _ (Nat.le_refl _) ⟨by simp,(fun i k hi hk=>by rw[el,el,get_zero (idx_lt hi hk),get_zero (idx_lt hk hi)]),Sm_le (by decide) (Sm_zero _)⟩
theorem c_Symm (l:List (Int×Int)) (hl:l.length≤maxLen) (hq:∀q∈l,qOK q) {n:Nat} (hn:n≤12):CallOK Tryz.prog 91 [iv n,mvec 2 qA l] [] (mA n n (symL l n)) [] []:=by
 have hnn:n*n≤12*12:=Nat.mul_le_mul hn hn
 have t0:IntKind.i64.wrap ((n:Int)*(n:Int))=((n*n:Nat):Int):=by rw[←Int.natCast_mul,wrap_i64 (by omega) (by omega)]
 have hlen:=(symL_ok n hq).1
 refine callF (Z:=[]) tabOK mixedOK Tryz.func91 rfl (by kernel_rfl) (by first|rfl|(simp[keylessL,keyless,keylessL_map, *];done)) (by first|rfl|(simp[keylessL,keyless,keylessL_map, *];done)) (by kernel_rfl) rfl ?_
 intro w0 ρ0 hE
 conv=>whnf
 (repeat(first|(refine And.intro (by first|decide|omega|(simp only[tl0,dlen,List.length_replicate,List.length_set,List.length_map,List.length_zipWith,List.length_take,List.length_append,List.length_cons,List.length_nil];omega)) ?_;conv=>whnf)|(rw[t0];conv=>whnf)|(rw[Int.toNat_natCast];conv=>whnf)))
 refine SW_loopN hE (fun k=>k) [0,1,4,5,6,7] [4,5,14] (fun m fr hp=>∃(i t:Nat) (a:List Rat),m=n - i∧i≤n∧t≤i*12∧a.length=n*n∧symO l n (n - i) t a=symL l n∧
  fr=[(0,iv n),(1,mvec 2 qA l),(4,.ptr 4 0 0 0),(5,.ptr 5 0 0 0),(6,iv (t:Nat)),(7,iv (i:Nat))]∧hp=[(4,zM),(5,bM n n 14),(14,fblk a)]) n ?_ ?_ ?_
 ·kernel_rfl
 ·exact⟨0,0,_,rfl,Nat.zero_le _,Nat.zero_le _,by simp,rfl,rfl,rfl⟩
 rintro m _ _ ⟨i,t,a,rfl,hi,ht,ha,hS,rfl,rfl⟩
 conv=>whnf
 by_cases hlt:i<n
 ·have t1:=dlt hlt
  have t2:=winc (i:=i) (by omega)
  have e1:n - i=(n - (i+1))+1:=by omega
  have e2:n - ((n - (i+1))+1)=i:=by omega
  rw[e1,symO,e2,←e1]at hS
  (repeat(first|(refine step_w1 rfl rfl ?_;conv=>whnf)|(rw[t1];conv=>whnf)))
  refine SW_loopN hE (fun k=>k) [0,1,4,5,6,7,8] [4,5,14] (fun m fr hp=>∃(k t:Nat) (a:List Rat),m=n - k∧i≤k∧k≤n∧t≤i*12+k∧a.length=n*n∧symO l n (n - (i+1)) (t+(n - k)) (symK l n i (n - k) t a)=symL l n∧
   fr=[(0,iv n),(1,mvec 2 qA l),(4,.ptr 4 0 0 0),(5,.ptr 5 0 0 0),(6,iv (t:Nat)),(7,iv (i:Nat)),(8,iv (k:Nat))]∧hp=[(4,zM),(5,bM n n 14),(14,fblk a)]) (n - i) ?_ ?_ ?_
  ·kernel_rfl
  ·exact⟨i,t,a,rfl,Nat.le_refl _,hi,by omega,ha,hS,rfl,rfl⟩
  clear hS ht ha
  rintro m _ _ ⟨k,t,a,rfl,hik,hk,ht,ha,hS,rfl,rfl⟩
  conv=>whnf
  by_cases hlk:k<n
  ·have t3:=dlt hlk
   have t4:=winc (i:=k) (by omega)
   have t5:=winc (i:=t) (by omega)
   have e3:n - k=(n - (k+1))+1:=by omega
   have e4:n - ((n - (k+1))+1)=k:=by omega
   have e5:t+(n - k)=t+1+(n - (k+1)):=by omega
   rw[e5,e3,symK,e4]at hS
   by_cases htl:t<l.length
   ·have t6:=dlt htl
    have o1:=c_QOf (l.getD t (0,0)) (qOK_at hq t)
    rw[if_pos htl]at hS
    obtain⟨w1,w2⟩:=idx_w (i:=i) (k:=k) (c:=n) (by omega) (by omega) (by omega)
    obtain⟨w3,w4⟩:=idx_w (i:=k) (k:=i) (c:=n) (by omega) (by omega) (by omega)
    have b1:=idx_lt hlt hlk
    have b2:=idx_lt hlk hlt
    (repeat((first|refine step_w1 rfl rfl ?_|refine step_i (by kernel_rfl) ?_|refine And.intro (by first|decide|omega|(simp only[tl0,dlen,List.length_replicate,List.length_set,List.length_map,List.length_zipWith,List.length_take,List.length_append,List.length_cons,List.length_nil];omega)) ?_|refine g_c (by assumption) ?_|refine g_o (op_lenM rfl rfl rfl (ev_ok rfl) (tgt rfl) rfl) ?_|refine g_o (op_loadA rfl (ev_ok rfl) (tgt rfl) rfl (Nat.succ_ne_zero _) rfl) ?_|refine g_o (op_indexN (α:=Int×Int) (d:=(0,0)) rfl (ev_ok rfl) (ev_ok rfl) (tgt rfl) rfl (tgt rfl) rfl (by omega)) ?_|rw[t3]|rw[t6]|rw[w1]|rw[w2]|rw[w3]|rw[w4]|rw[t5]|rw[t4]|rw[Int.toNat_natCast]|rw[Nat.zero_add]);conv=>whnf))
    refine⟨n - (k+1),fun k=>k,[0,1,4,5,6,7,8],[4,5,14],by omega,by kernel_rfl,k+1,t+1,_,rfl,by omega,hlk,by omega, ?_,hS,rfl,rfl⟩
    rw[List.length_set,List.length_set,ha]
   ·have t6:=dge htl
    rw[if_neg htl]at hS
    (repeat((first|refine step_w1 rfl rfl ?_|refine step_w2 rfl rfl ?_|refine g_o (op_lenM rfl rfl rfl (ev_ok rfl) (tgt rfl) rfl) ?_|rw[t3]|rw[t6]|rw[t5]|rw[t4]);conv=>whnf))
    exact⟨n - (k+1),fun k=>k,[0,1,4,5,6,7,8],[4,5,14],by omega,by kernel_rfl,k+1,t+1,a,rfl,by omega,hlk,by omega,ha,hS,rfl,rfl⟩
  ·have t3:=dge hlk
   obtain rfl:k=n:=by omega
   rw[Nat.sub_self,symK]at hS
   (repeat(first|(refine step_w2 rfl rfl ?_;conv=>whnf)|(rw[t3];conv=>whnf)|(rw[t2];conv=>whnf)))
   exact⟨k - (i+1),fun k=>k,[0,1,4,5,6,7],[4,5,14],by omega,by kernel_rfl,i+1,t,a,rfl,hlt,by omega,ha,hS,rfl,rfl⟩
 ·have t1:=dge hlt
  obtain rfl:i=n:=by omega
  rw[Nat.sub_self,symO]at hS
  subst hS
  (repeat(first|(refine step_w2 rfl rfl ?_;conv=>whnf)|(rw[t1];conv=>whnf)))
  (first|exact Recast.refl _|exact Frz.recast (Recast.refl _) rfl|(refine Frz.one rfl rfl ?_;(repeat(first|exact FrzC.keyless rfl|exact FrzL.nil|refine FrzL.cons ?_ ?_|(refine FrzC.fracs rfl ?_;(first|rfl|omega|(simp<;>fail)|(simp<;>omega)))|refine FrzC.agg ?_)))|(refine Frz.tup ?_;skip))
theorem c_MOf (m:MM) (hm:mOK m):CallOK Tryz.prog 15 [mQ m] [] (mA ((m.1 % 7).toNat:Nat) ((m.2.1 % 7).toNat:Nat) (someL m.2.2 ((m.1 % 7).toNat*(m.2.1 % 7).toNat))) [] []:=by
 obtain⟨e1,e2⟩:=u8_mod m.1 hm.1 7 (by decide)
 obtain⟨e3,e4⟩:=u8_mod m.2.1 hm.2.1 7 (by decide)
 have h1:=side_le m.1
 have h2:=side_le m.2.1
 generalize hr:(m.1 % 7).toNat=r at*
 generalize hc:(m.2.1 % 7).toNat=c at*
 have k1:=c_Some m hm (r:=r) (c:=c) (by omega) (by omega)
 refine callV (Z:=[]) tabOK mixedOK Tryz.func15 rfl (by kernel_rfl) rfl rfl (by kernel_rfl) rfl ?_
 intro W0 w0 ρ0 hE
 conv=>whnf
 (repeat((first|refine And.intro (by first|decide|omega|(simp only[tl0,dlen,List.length_replicate,List.length_set,List.length_map,List.length_zipWith,List.length_take,List.length_append,List.length_cons,List.length_nil];omega)) ?_|refine g_c (by assumption) ?_|rw[e2]|rw[e4]);conv=>whnf));(first|exact Recast.refl _|exact Frz.recast (Recast.refl _) rfl|(refine Frz.one rfl rfl ?_;skip)|(refine Frz.tup ?_;skip))
end Go.Proofs.YtfpagioknjjacaaGreatDoor
namespace Go.Proofs.YtfpagioknjjacaaGreatDoor
open Go.Sx
set_option linter.unusedSimpArgs false
set_option linter.unusedVariables false
set_option maxRecDepth 100000
set_option maxHeartbeats 8000000
theorem same_turn {r c:Nat} {a T:List Rat}:sameF r c c r a T=(((r:Int)==(c:Int))&&sameF c r r c T a):=by
 unfold sameF
 by_cases h:r=c
 ·subst h
  simp[eq_comm]
 ·have h1:((r:Int)==(c:Int))=false:=by rw[beq_eq_false_iff_ne];omega
  rw[h1];rfl
theorem same_sym {n:Nat} {a:List Rat} (h:mturn n n a=a):sameF n n n n a (mturn n n a)=true:=by simp[sameF,h]
theorem c_Forms (a:MM) (v w l:List (Int×Int)) (ha:mOK a) (hv:v.length≤maxLen∧∀q∈v,qOK q) (hw:w.length≤maxLen∧∀q∈w,qOK q) (hl:l.length≤maxLen∧∀q∈l,qOK q):
  CallOK Tryz.prog 11 [mQ a,mvec 2 qA v,mvec 2 qA w,mvec 2 qA l] [] (.val (.bool true)) [] []:=by
 have kw:=l_works13
 have kf:=c_fewL [a] (by simp) (by intro m hm;simp only[List.mem_cons,List.not_mem_nil,or_false]at hm;obtain rfl:=hm;assumption)
 cases hF:[a].all fun m=>decide (m.2.2.length≤40)
 ·rw[hF]at kf
  refine callV (Z:=[4,32]) tabOK mixedOK Tryz.func11 rfl (by kernel_rfl) rfl rfl (by kernel_rfl) rfl ?_
  intro W0 w0 ρ0 hE
  conv=>whnf
  (repeat((first|refine step_w1 rfl rfl ?_|refine step_w2 rfl rfl ?_|refine g_c (by assumption) ?_|refine g_o (op_pickT rfl (ev_ok rfl) (ev_ok rfl)) ?_|refine g_o (op_loadA rfl (ev_ok rfl) (tgt rfl) rfl (Nat.succ_ne_zero _) rfl) ?_);conv=>whnf));(first|exact Recast.refl _|exact Frz.recast (Recast.refl _) rfl|(refine Frz.one rfl rfl ?_;skip)|(refine Frz.tup ?_;skip))
 rw[hF]at kf
 by_cases hl1:v.length>20
 ·have t1:decide ((v.length:Int)>20)=true:=decide_eq_true (by omega)
  refine callV (Z:=[4,32]) tabOK mixedOK Tryz.func11 rfl (by kernel_rfl) rfl rfl (by kernel_rfl) rfl ?_
  intro W0 w0 ρ0 hE
  conv=>whnf
  (repeat((first|refine step_w1 rfl rfl ?_|refine step_w2 rfl rfl ?_|refine g_c (by assumption) ?_|refine g_o (op_pickT rfl (ev_ok rfl) (ev_ok rfl)) ?_|refine g_o (op_pickF rfl (ev_ok rfl) (ev_ok rfl)) ?_|refine g_o (op_lenM rfl rfl rfl (ev_ok rfl) (tgt rfl) rfl) ?_|refine g_o (op_loadA rfl (ev_ok rfl) (tgt rfl) rfl (Nat.succ_ne_zero _) rfl) ?_|rw[t1]);conv=>whnf));(first|exact Recast.refl _|exact Frz.recast (Recast.refl _) rfl|(refine Frz.one rfl rfl ?_;skip)|(refine Frz.tup ?_;skip))
 have t1:decide ((v.length:Int)>20)=false:=decide_eq_false (by omega)
 by_cases hl2:w.length>20
 ·have t2:decide ((w.length:Int)>20)=true:=decide_eq_true (by omega)
  refine callV (Z:=[4,32]) tabOK mixedOK Tryz.func11 rfl (by kernel_rfl) rfl rfl (by kernel_rfl) rfl ?_
  intro W0 w0 ρ0 hE
  conv=>whnf
  (repeat((first|refine step_w1 rfl rfl ?_|refine step_w2 rfl rfl ?_|refine g_c (by assumption) ?_|refine g_o (op_pickT rfl (ev_ok rfl) (ev_ok rfl)) ?_|refine g_o (op_pickF rfl (ev_ok rfl) (ev_ok rfl)) ?_|refine g_o (op_lenM rfl rfl rfl (ev_ok rfl) (tgt rfl) rfl) ?_|refine g_o (op_loadA rfl (ev_ok rfl) (tgt rfl) rfl (Nat.succ_ne_zero _) rfl) ?_|rw[t1]|rw[t2]);conv=>whnf));(first|exact Recast.refl _|exact Frz.recast (Recast.refl _) rfl|(refine Frz.one rfl rfl ?_;skip)|(refine Frz.tup ?_;skip))
 have t2:decide ((w.length:Int)>20)=false:=decide_eq_false (by omega)
 by_cases hl3:l.length>40
 ·have t3:decide ((l.length:Int)>40)=true:=decide_eq_true (by omega)
  refine callV (Z:=[4,32]) tabOK mixedOK Tryz.func11 rfl (by kernel_rfl) rfl rfl (by kernel_rfl) rfl ?_
  intro W0 w0 ρ0 hE
  conv=>whnf
  (repeat((first|refine step_w1 rfl rfl ?_|refine g_c (by assumption) ?_|refine g_o (op_pickF rfl (ev_ok rfl) (ev_ok rfl)) ?_|refine g_o (op_lenM rfl rfl rfl (ev_ok rfl) (tgt rfl) rfl) ?_|refine g_o (op_loadA rfl (ev_ok rfl) (tgt rfl) rfl (Nat.succ_ne_zero _) rfl) ?_|rw[t1]|rw[t2]|rw[t3]);conv=>whnf));(first|exact Recast.refl _|exact Frz.recast (Recast.refl _) rfl|(refine Frz.one rfl rfl ?_;skip)|(refine Frz.tup ?_;skip))
 have t3:decide ((l.length:Int)>40)=false:=decide_eq_false (by omega)
 have ks:=c_Sides a ha
 have km:=c_MOf a ha
 have n6:=side_le a.1
 have k6:=side_le a.2.1
 generalize (a.1 % 7).toNat=n at*
 generalize (a.2.1 % 7).toNat=k at*
 have v1:=c_vec v hv.1 hv.2 (n:=n) (by omega)
 have v2:=c_vec w hw.1 hw.2 (n:=k) (by omega)
 have v3:=c_vec w hw.1 hw.2 (n:=n) (by omega)
 have ky:=c_Symm l hl.1 hl.2 (n:=n) (by omega)
 have hx:=OKM_some a.2.2 (r:=n) (c:=k) (by omega) (by omega)
 have sx:=Sm_some ha.2.2.2 (n*k)
 have l1:=someL_len v n
 have l2:=someL_len w k
 have l3:=someL_len w n
 have s1:=Sm_some hv.2 n
 have s2:=Sm_some hw.2 k
 have s3:=Sm_some hw.2 n
 obtain⟨y1,y2,y3⟩:=symL_ok n hl.2
 generalize someL a.2.2 (n*k)=X at*
 generalize someL v n=vx at*
 generalize someL w k=vy at*
 generalize someL w n=z at*
 generalize symL l n=S at*
 have hy:OKM n n S:=⟨by omega,by omega,y1⟩
 have o1:=m_Form 6 hx l1 l2 sx s1 s2 k6 n6 (by decide) (by decide)
 have u1:=l_turnM hx
 have hT:=OKM_turn hx
 have sT:=Sm_turn hx.n sx
 have o2:=m_Form 6 hT l2 l1 sT s2 s1 n6 k6 (by decide) (by decide)
 rw[←form_turn l1 l2]at o2
 have o3:=m_Symmetric hx
 have o4:=m_Same k n n k (mturn n k X) X (by have:=hT.small;omega) (by have:=hx.small;omega)
 have g1:=l_mulM 6 hT hx sT sx n6 (by decide)
 have hG:=OKM_mul hT hx
 have sG:Sm 1562 (mmul k n k (mturn n k X) X):=Sm_mul hT.n hx.n sT sx n6
 have o5:=m_Form 6 hG l2 l2 sG s2 s2 k6 k6 (by decide) (by decide)
 rw[gram_form l2]at o5
 have o6:=m_Apply 6 hx l2 sx s2 k6 (by decide)
 have sA:Sm 1562 (mapply n k X vy):=Sm_apply hx.n l2 sx s2 k6
 have lA:(mapply n k X vy).length=n:=mapply_len
 have hs:fsL (vmul (mapply n k X vy) (mapply n k X vy))≤_:=fsL_Sm (Sm_zip fs_mul sA sA rfl)
 rw[zip_len lA lA]at hs
 have hs2:=Nat.mul_le_mul_right (1562+1562) n6
 have o7:=v_Dot (mapply n k X vy) (mapply n k X vy) rfl (by omega) (Fit_Sm sA sA rfl (by decide)) (by omega)
 have o8:=m_Symmetric hG
 rw[same_sym gram_sym]at o8
 have hsg:=sign_lt (self_nonneg lA)
 have o9:=c_fSign (vdot (mapply n k X vy) (mapply n k X vy))
 have o10:=m_Form 6 hy l1 l3 y3 s1 s3 n6 n6 (by decide) (by decide)
 have o11:=m_Form 6 hy l3 l1 y3 s3 s1 n6 n6 (by decide) (by decide)
 rw[sym_form y1 y2 l3 l1]at o11
 have o12:=m_Symmetric hy
 rw[same_sym (sym_turn y1 y2)]at o12
 have e1:((sameF n k k n X (mturn n k X)) != (((n:Int)==(k:Int))&&sameF k n n k (mturn n k X) X))=false:=by rw[same_turn];exact bne_self_eq_false _
 clear hx sx l1 l2 l3 s1 s2 s3 y1 y2 y3 hy hT sT hG sG sA lA hs hs2 n6 k6 hF ha hv hw hl
 generalize mform n k X vx vy=f1 at*
 generalize mform n n S vx z=f2 at*
 generalize vdot (mapply n k X vy) (mapply n k X vy)=f3 at*
 generalize sameF n k k n X (mturn n k X)=b1 at*
 generalize sameF k n n k (mturn n k X) X=b2 at*
 generalize mmul k n k (mturn n k X) X=G at*
 generalize mapply n k X vy=A at*
 generalize mturn n k X=T at*
 have q1:(!decide (f1=f1))=false:=by rw[decide_eq_true rfl];rfl
 have q2:decide (f2=f2)=true:=decide_eq_true rfl
 have q3:(!decide (f3=f3))=false:=by rw[decide_eq_true rfl];rfl
 refine callV (Z:=[4,32]) tabOK mixedOK Tryz.func11 rfl (by kernel_rfl) rfl rfl (by kernel_rfl) rfl ?_
 intro W0 w0 ρ0 hE
 conv=>whnf
 cases hnk:((n:Int)==(k:Int))
 ·rw[hnk]at e1
  replace e1:(b1 != false)=false:=e1
  (repeat((first|refine step_w1 rfl rfl ?_|refine step_w2 rfl rfl ?_|refine step_i (by kernel_rfl) ?_|refine g_c (by assumption) ?_|refine g_o (op_pickT rfl (ev_ok rfl) (ev_ok rfl)) ?_|refine g_o (op_pickF rfl (ev_ok rfl) (ev_ok rfl)) ?_|rw[beq_self_eq_true]|rw[bne_self_eq_false]|refine g_o (op_lenM rfl rfl rfl (ev_ok rfl) (tgt rfl) rfl) ?_|refine g_o (op_loadA rfl (ev_ok rfl) (tgt rfl) rfl (Nat.succ_ne_zero _) rfl) ?_|refine⟨_,op_eqAgg tabOK goodOK rfl (ev_ok rfl) (ev_ok rfl) rfl rfl rfl rfl (q_same _ _) q_guard, ?_⟩|refine⟨_,op_neAgg tabOK goodOK rfl (ev_ok rfl) (ev_ok rfl) rfl rfl rfl rfl (q_same _ _) q_guard, ?_⟩|rw[t1]|rw[t2]|rw[t3]|rw[q1]|rw[hnk]|rw[e1]|rw[q3]|rw[hsg]|rw[q2]);conv=>whnf));(first|exact Recast.refl _|exact Frz.recast (Recast.refl _) rfl|(refine Frz.one rfl rfl ?_;skip)|(refine Frz.tup ?_;skip))
 ·rw[hnk]at e1
  replace e1:(b1 != b2)=false:=e1
  (repeat((first|refine step_w1 rfl rfl ?_|refine step_w2 rfl rfl ?_|refine step_i (by kernel_rfl) ?_|refine g_c (by assumption) ?_|refine g_o (op_pickT rfl (ev_ok rfl) (ev_ok rfl)) ?_|refine g_o (op_pickF rfl (ev_ok rfl) (ev_ok rfl)) ?_|rw[beq_self_eq_true]|rw[bne_self_eq_false]|refine g_o (op_lenM rfl rfl rfl (ev_ok rfl) (tgt rfl) rfl) ?_|refine g_o (op_loadA rfl (ev_ok rfl) (tgt rfl) rfl (Nat.succ_ne_zero _) rfl) ?_|refine⟨_,op_eqAgg tabOK goodOK rfl (ev_ok rfl) (ev_ok rfl) rfl rfl rfl rfl (q_same _ _) q_guard, ?_⟩|refine⟨_,op_neAgg tabOK goodOK rfl (ev_ok rfl) (ev_ok rfl) rfl rfl rfl rfl (q_same _ _) q_guard, ?_⟩|rw[t1]|rw[t2]|rw[t3]|rw[q1]|rw[hnk]|rw[e1]|rw[q3]|rw[hsg]|rw[q2]);conv=>whnf));(first|exact Recast.refl _|exact Frz.recast (Recast.refl _) rfl|(refine Frz.one rfl rfl ?_;skip)|(refine Frz.tup ?_;skip))
end Go.Proofs.YtfpagioknjjacaaGreatDoor
namespace Go.Proofs.YtfpagioknjjacaaGreatDoor
open Go.Sx
set_option linter.unusedSimpArgs false
set_option linter.unusedVariables false
set_option maxRecDepth 100000
set_option maxHeartbeats 40000000
theorem rowF_get {r c i p:Nat} {a:List Rat} (hp:p<c):(rowF r c a i).getD p 0=el a c i p:=by simp[rowF,List.getD_eq_getElem?_getD,hp]
theorem colF_get {r c i p:Nat} {a:List Rat} (hi:i<r):(colF r c a p).getD i 0=el a c i p:=by simp[colF,List.getD_eq_getElem?_getD,hi]
theorem fs_take {X:List Rat} {B:Nat} (h:Sm B X):∀i,i≤X.length→fs ((X.take i).foldl (·+·) 0)≤2+i*B
 |0,_=>by rw[List.take_zero,List.foldl_nil,fs_zero];omega
 |i+1,hi=>by
  rw[foldl_take X i (by omega)]
  have h1:=fs_take h i (by omega)
  have h2:=h i (by omega)
  have:=fs_add ((X.take i).foldl (·+·) 0) (X.getD i 0)
  rw[Nat.succ_mul];omega
theorem q_eq {a b:Rat} (h:a=b):eqTy tab good 10 52 (fracCells a) (fracCells b)=some true:=by rw[q_same,decide_eq_true h]
abbrev fblk1 (q:Rat):Blk:=⟨52,true,.one [.frac q]⟩
abbrev mblk (r c:Nat) (a:List Rat):Blk:=⟨38,true,.one (mC r c a)⟩
theorem c_MApply (a:MM) (v w:List (Int×Int)) (ha:mOK a) (hv:v.length≤maxLen∧∀q∈v,qOK q) (hw:w.length≤maxLen∧∀q∈w,qOK q):
  CallOK Tryz.prog 9 [mQ a,mvec 2 qA v,mvec 2 qA w] [] (.val (.bool true)) [] []:=by
 have kw:=l_works13
 have kf:=c_fewL [a] (by simp) (by intro m hm;simp only[List.mem_cons,List.not_mem_nil,or_false]at hm;obtain rfl:=hm;assumption)
 cases hF:[a].all fun m=>decide (m.2.2.length≤40)
 ·rw[hF]at kf
  refine callV (Z:=[3,31]) tabOK mixedOK Tryz.func9 rfl (by kernel_rfl) rfl rfl (by kernel_rfl) rfl ?_
  intro W0 w0 ρ0 hE
  conv=>whnf
  (repeat((first|refine step_w1 rfl rfl ?_|refine step_w2 rfl rfl ?_|refine g_c (by assumption) ?_|refine g_o (op_pickT rfl (ev_ok rfl) (ev_ok rfl)) ?_|refine g_o (op_loadA rfl (ev_ok rfl) (tgt rfl) rfl (Nat.succ_ne_zero _) rfl) ?_);conv=>whnf));(first|exact Recast.refl _|exact Frz.recast (Recast.refl _) rfl|(refine Frz.one rfl rfl ?_;skip)|(refine Frz.tup ?_;skip))
 rw[hF]at kf
 by_cases hl1:v.length>20
 ·have t1:decide ((v.length:Int)>20)=true:=decide_eq_true (by omega)
  refine callV (Z:=[3,31]) tabOK mixedOK Tryz.func9 rfl (by kernel_rfl) rfl rfl (by kernel_rfl) rfl ?_
  intro W0 w0 ρ0 hE
  conv=>whnf
  (repeat((first|refine step_w1 rfl rfl ?_|refine step_w2 rfl rfl ?_|refine g_c (by assumption) ?_|refine g_o (op_pickT rfl (ev_ok rfl) (ev_ok rfl)) ?_|refine g_o (op_pickF rfl (ev_ok rfl) (ev_ok rfl)) ?_|refine g_o (op_lenM rfl rfl rfl (ev_ok rfl) (tgt rfl) rfl) ?_|refine g_o (op_loadA rfl (ev_ok rfl) (tgt rfl) rfl (Nat.succ_ne_zero _) rfl) ?_|rw[t1]);conv=>whnf));(first|exact Recast.refl _|exact Frz.recast (Recast.refl _) rfl|(refine Frz.one rfl rfl ?_;skip)|(refine Frz.tup ?_;skip))
 have t1:decide ((v.length:Int)>20)=false:=decide_eq_false (by omega)
 by_cases hl2:w.length>20
 ·have t2:decide ((w.length:Int)>20)=true:=decide_eq_true (by omega)
  refine callV (Z:=[3,31]) tabOK mixedOK Tryz.func9 rfl (by kernel_rfl) rfl rfl (by kernel_rfl) rfl ?_
  intro W0 w0 ρ0 hE
  conv=>whnf
  (repeat((first|refine step_w1 rfl rfl ?_|refine g_c (by assumption) ?_|refine g_o (op_pickF rfl (ev_ok rfl) (ev_ok rfl)) ?_|refine tst_tt t2 ?_|refine g_o (op_lenM rfl rfl rfl (ev_ok rfl) (tgt rfl) rfl) ?_|refine g_o (op_loadA rfl (ev_ok rfl) (tgt rfl) rfl (Nat.succ_ne_zero _) rfl) ?_|rw[t1]);conv=>whnf));(first|exact Recast.refl _|exact Frz.recast (Recast.refl _) rfl|(refine Frz.one rfl rfl ?_;skip)|(refine Frz.tup ?_;skip))
 have t2:decide ((w.length:Int)>20)=false:=decide_eq_false (by omega)
 have ks:=c_Sides a ha
 have km:=c_MOf a ha
 have n6:=side_le a.1
 have k6:=side_le a.2.1
 generalize (a.1 % 7).toNat=n at*
 generalize (a.2.1 % 7).toNat=k at*
 have v1:=c_vec v hv.1 hv.2 (n:=k) (by omega)
 have v2:=c_vec w hw.1 hw.2 (n:=n) (by omega)
 have hX:=OKM_some a.2.2 (r:=n) (c:=k) (by omega) (by omega)
 have sX:=Sm_some ha.2.2.2 (n*k)
 have l1:=someL_len v k
 have l2:=someL_len w n
 have s1:=Sm_some hv.2 k
 have s2:=Sm_some hw.2 n
 generalize someL a.2.2 (n*k)=X at*
 generalize someL v k=x at*
 generalize someL w n=y at*
 clear hF ha hv hw
 have hXl:=hX.n
 have hnk:n*k≤6*6:=Nat.mul_le_mul n6 k6
 have o1:=m_Apply 6 hX l1 sX s1 k6 (by decide)
 have o2:=m_Form 6 hX l2 l1 sX s2 s1 k6 n6 (by decide) (by decide)
 have lA:(mapply n k X x).length=n:=mapply_len
 have f0:mform n k X y x=sumR n fun i=>y.getD i 0*(mapply n k X x).getD i 0:=vdot_sum l2 lA
 have gA:∀i,i<n→(mapply n k X x).getD i 0=sumR k fun p=>el X k i p*x.getD p 0:=fun i hi=>mapply_get hi
 generalize mform n k X y x=F at*
 generalize mapply n k X x=A at*
 have q0:((A.length:Int) != (n:Int))=false:=by rw[lA];exact bne_self_eq_false _
 have hw1:∀p,p≤36→2+p*130≤5000:=fun p hp=>by omega
 refine callV (Z:=[3,31]) tabOK mixedOK Tryz.func9 rfl (by kernel_rfl) rfl rfl (by kernel_rfl) rfl ?_
 intro W0 w0 ρ0 hE
 conv=>whnf
 (repeat((first|refine step_w1 rfl rfl ?_|refine g_c (by assumption) ?_|refine g_o (op_pickF rfl (ev_ok rfl) (ev_ok rfl)) ?_|rw[bne_self_eq_false]|refine tst_ff t2 ?_|refine tst_ff q0 ?_|refine g_o (op_lenM rfl rfl rfl (ev_ok rfl) (tgt rfl) rfl) ?_|refine g_o (op_loadA rfl (ev_ok rfl) (tgt rfl) rfl (Nat.succ_ne_zero _) rfl) ?_|rw[t1]|rw[t2]|rw[q0]);conv=>whnf))
 refine SW_loopN hE (fun k=>k) [7,8,9,10,11,12,14,16,17,18] [9,14,16,17] (fun m fr hp=>∃(i:Nat) (T U:Rat),m=n - i∧i≤n∧T=sumR i (fun i=>y.getD i 0*A.getD i 0)∧fs T≤2+i*2000∧U=(X.take (i*k)).foldl (·+·) 0∧
  fr=[(7,iv n),(8,iv k),(9,.ptr 9 0 0 0),(10,fvec x),(11,fvec y),(12,fvec A),(14,.ptr 14 0 0 0),(16,.ptr 16 0 0 0),(17,.ptr 17 0 0 0),(18,iv (i:Nat))]∧
  hp=[(9,mblk n k X),(14,fblk1 F),(16,fblk1 T),(17,fblk1 U)]) n ?_ ?_ ?_
 ·kernel_rfl
 ·exact⟨0,0,0,rfl,Nat.zero_le _,rfl,by rw[fs_zero];omega,by rw[Nat.zero_mul,List.take_zero];rfl,rfl,rfl⟩
 rintro m _ _ ⟨i,T,U,rfl,hi,hT,fT,hU,rfl,rfl⟩
 clear o1 o2 ks km v1 v2 kf
 conv=>whnf
 by_cases hlt:i<n
 ·have t3:=dlt hlt
  have t4:=winc (i:=i) (by omega)
  have o3:=m_Row hX hlt
  have lR:(rowF n k X i).length=k:=by simp[rowF]
  have gR:∀p,p<k→(rowF n k X i).getD p 0=el X k i p:=fun p hp=>rowF_get hp
  generalize rowF n k X i=R at*
  have q1:((R.length:Int) != (k:Int))=false:=by rw[lR];exact bne_self_eq_false _
  have hik:(i+1)*k≤n*k:=Nat.mul_le_mul_right k hlt
  rw[Nat.succ_mul]at hik
  (repeat((first|refine step_w1 rfl rfl ?_|refine g_c (by assumption) ?_|refine g_o (op_pickF rfl (ev_ok rfl) (ev_ok rfl)) ?_|rw[bne_self_eq_false]|refine tst_tt t3 ?_|refine tst_ff q1 ?_|refine g_o (op_lenM rfl rfl rfl (ev_ok rfl) (tgt rfl) rfl) ?_|rw[t3]|rw[q1]);conv=>whnf))
  refine SW_loopN hE (fun k=>k) [7,8,9,10,11,12,14,16,17,18,19,21,22] [9,14,16,17,21] (fun m fr hp=>∃(p:Nat) (S U:Rat),m=k - p∧p≤k∧S=sumR p (fun p=>el X k i p*x.getD p 0)∧fs S≤2+p*260∧U=(X.take (i*k+p)).foldl (·+·) 0∧
   fr=[(7,iv n),(8,iv k),(9,.ptr 9 0 0 0),(10,fvec x),(11,fvec y),(12,fvec A),(14,.ptr 14 0 0 0),(16,.ptr 16 0 0 0),(17,.ptr 17 0 0 0),(18,iv (i:Nat)),(19,fvec R),(21,.ptr 21 0 0 0),(22,iv (p:Nat))]∧
   hp=[(9,mblk n k X),(14,fblk1 F),(16,fblk1 T),(17,fblk1 U),(21,fblk1 S)]) k ?_ ?_ ?_
  ·kernel_rfl
  ·exact⟨0,0,U,rfl,Nat.zero_le _,rfl,by rw[fs_zero];omega,by rw[hU];rfl,rfl,rfl⟩
  clear hU o3
  rintro m _ _ ⟨p,S,U,rfl,hp,hS,fS,hU,rfl,rfl⟩
  conv=>whnf
  by_cases hlp:p<k
  ·have t5:=dlt hlp
   have t6:=winc (i:=p) (by omega)
   obtain⟨w1,w2⟩:=idx_w (i:=i) (k:=p) (c:=k) (by omega) (by omega) (by omega)
   have hix:=idx_lt hlt hlp
   have o4:=m_At n k X hX hlt hlp
   have o5:=m_Col hX (i:=p) hlp
   have lC:(colF n k X p).length=n:=by simp[colF]
   have gC:=colF_get (c:=k) (p:=p) (a:=X) hlt
   have gR:=gR p hlp
   have fV:=el_sm sX hXl hlt hlp
   have fx:=s1 p (by omega)
   have e3:sumR (p+1) (fun p=>el X k i p*x.getD p 0)=S+el X k i p*x.getD p 0:=by rw[hS];rfl
   have e4:(X.take (i*k+(p+1))).foldl (·+·) 0=U+el X k i p:=by rw[hU];exact foldl_take X (i*k+p) (by omega) 0
   have fU:fs U≤2+(i*k+p)*130:=by rw[hU];exact fs_take sX _ (by omega)
   have fU2:=hw1 (i*k+p) (by omega)
   generalize colF n k X p=C at*
   have fVY:=fs_mul (el X k i p) (x.getD p 0)
   have o6:=f_Mul (el X k i p) (x.getD p 0) (by omega)
   have o7:=f_Add S (el X k i p*x.getD p 0) (by omega)
   have o8:=f_Add U (el X k i p) (by omega)
   have q2:((C.length:Int) != (n:Int))=false:=by rw[lC];exact bne_self_eq_false _
   have fS1:=fs_add S (el X k i p*x.getD p 0)
   have hl36:i*k+p<X.length:=by omega
   have hlx:p<x.length:=by omega
   have hlR:p<R.length:=by omega
   have hlC:i<C.length:=by omega
   clear gA f0 hT fT hXl hik hnk hw1 lA lR lC l1 l2 hS hU
   (repeat((first|refine step_w1 rfl rfl ?_|refine step_w2 rfl rfl ?_|refine step_i (by kernel_rfl) ?_|refine g_c (by assumption) ?_|refine g_o (op_pickF rfl (ev_ok rfl) (ev_ok rfl)) ?_|rw[bne_self_eq_false]|refine tst_tt t5 ?_|refine g_o (op_lenM rfl rfl rfl (ev_ok rfl) (tgt rfl) rfl) ?_|refine g_o (op_indexN (α:=Rat) (d:=0) rfl (ev_ok rfl) (ev_ok rfl) (tgt rfl) rfl (tgt rfl) rfl (by omega)) ?_|refine g_o (op_loadA rfl (ev_ok rfl) (tgt rfl) rfl (Nat.succ_ne_zero _) rfl) ?_|refine g_o (op_indexM (α:=Rat) (d:=0) rfl (ev_ok rfl) (ev_ok rfl) (tgt rfl) rfl (tgt rfl) rfl (by omega)) ?_|refine⟨_,op_neAgg tabOK goodOK rfl (ev_ok rfl) (ev_ok rfl) rfl rfl rfl rfl (q_eq (rfl)) q_guard, ?_⟩|refine⟨_,op_neAgg tabOK goodOK rfl (ev_ok rfl) (ev_ok rfl) rfl rfl rfl rfl (q_eq (gR)) q_guard, ?_⟩|refine⟨_,op_neAgg tabOK goodOK rfl (ev_ok rfl) (ev_ok rfl) rfl rfl rfl rfl (q_eq (gC)) q_guard, ?_⟩|rw[t5]|rw[q2]|rw[t6]|rw[w1]|rw[w2]|rw[Int.toNat_natCast]|rw[Nat.zero_add]);conv=>whnf))
   refine⟨k - (p+1),fun k=>k,[7,8,9,10,11,12,14,16,17,18,19,21,22],[9,14,16,17,21],by omega,by kernel_rfl,p+1,_,_,rfl,hlp,e3.symm, ?_,e4.symm,rfl,rfl⟩
   rw[Nat.succ_mul];clear o6 o7 o8 o4 o5;omega
  ·have t5:=dge hlp
   obtain rfl:p=k:=by omega
   have e3:A.getD i 0=S:=by rw[gA i hlt,hS]
   have e4:sumR (i+1) (fun i=>y.getD i 0*A.getD i 0)=T+y.getD i 0*S:=by rw[←e3,hT];rfl
   have fy:=s2 i (by omega)
   have b1:=Nat.mul_le_mul_right 260 k6
   have b2:=Nat.mul_le_mul_right 2000 (show i≤6 by omega)
   have fYS:=fs_mul (y.getD i 0) S
   have o6:=f_Mul (y.getD i 0) S (by omega)
   have o7:=f_Add T (y.getD i 0*S) (by omega)
   have fT1:=fs_add T (y.getD i 0*S)
   have hlA:i<A.length:=by omega
   have hly:i<y.length:=by omega
   (repeat((first|refine step_w2 rfl rfl ?_|refine step_i (by kernel_rfl) ?_|refine g_c (by assumption) ?_|refine tst_ff t5 ?_|refine g_o (op_indexN (α:=Rat) (d:=0) rfl (ev_ok rfl) (ev_ok rfl) (tgt rfl) rfl (tgt rfl) rfl (by omega)) ?_|refine g_o (op_loadA rfl (ev_ok rfl) (tgt rfl) rfl (Nat.succ_ne_zero _) rfl) ?_|refine⟨_,op_neAgg tabOK goodOK rfl (ev_ok rfl) (ev_ok rfl) rfl rfl rfl rfl (q_eq (e3)) q_guard, ?_⟩|rw[t5]|rw[t4]);conv=>whnf))
   refine⟨n - (i+1),fun k=>k,[7,8,9,10,11,12,14,16,17,18],[9,14,16,17],by omega,by kernel_rfl,i+1,_,U,rfl,hlt,e4.symm, ?_, ?_,rfl,rfl⟩
   ·rw[Nat.succ_mul];omega
   ·rw[hU,Nat.succ_mul]
 ·have t3:=dge hlt
  obtain rfl:i=n:=by omega
  rw[←hXl,List.take_length]at hU
  rw[←f0]at hT
  subst hT
  have hsX:=fsL_Sm sX
  rw[hXl]at hsX
  have o3:=m_Sum hX (by omega)
  rw[←hU]at o3
  have o4:=m_Outer (v:=y) (w:=x) (by omega) (by omega) s2 s1 (by decide)
  rw[l1,l2]at o4
  have lO:(mouter y x).length=i*k:=by rw[mk_len,l1,l2]
  have gO:∀p,p<i*k→(mouter y x).getD p 0=y.getD (p/k) 0*x.getD (p % k) 0:=fun p hp=>by
   rw[mk_at (by rw[l1,l2];exact hp),l1]
  generalize mouter y x=O at*
  have t4:IntKind.i64.wrap ((i:Int)*(k:Int))=((i*k:Nat):Int):=by rw[←Int.natCast_mul,wrap_i64 (by omega) (by omega)]
  have q1:((O.length:Int) != ((i*k:Nat):Int))=false:=by rw[lO];exact bne_self_eq_false _
  (repeat((first|refine step_w1 rfl rfl ?_|refine step_i (by kernel_rfl) ?_|refine g_c (by assumption) ?_|refine g_o (op_pickF rfl (ev_ok rfl) (ev_ok rfl)) ?_|rw[bne_self_eq_false]|refine tst_ff t3 ?_|refine tst_ff q1 ?_|refine g_o (op_lenM rfl rfl rfl (ev_ok rfl) (tgt rfl) rfl) ?_|refine⟨_,op_neAgg tabOK goodOK rfl (ev_ok rfl) (ev_ok rfl) rfl rfl rfl rfl (q_eq (rfl)) q_guard, ?_⟩|rw[t3]|rw[q1]|rw[t4]|rw[Nat.zero_add]);conv=>whnf))
  refine SW_loopN hE (fun k=>k) [8,10,11,27,29] [27] (fun m fr hp=>∃p:Nat,m=O.length - p∧p≤O.length∧
   fr=[(8,iv k),(10,fvec x),(11,fvec y),(27,.ptr 27 0 0 0),(29,iv (p:Nat))]∧hp=[(27,mblk i k O)]) O.length ?_ ?_ ?_
  ·kernel_rfl
  ·exact⟨0,rfl,Nat.zero_le _,rfl,rfl⟩
  clear o3 o4 hsX
  rintro m _ _ ⟨p,rfl,hp,rfl,rfl⟩
  conv=>whnf
  by_cases hlp:p<O.length
  ·have t5:=dlt hlp
   have t6:=winc (i:=p) (by omega)
   obtain⟨d1,d2,d3⟩:=idx_split (r:=i) (c:=k) (p:=p) (by omega)
   have e0:∀d:Nat,d<7→IntKind.i64.wrap ((d:Nat):Int)=((d:Nat):Int):=fun d hd=>wrap_i64 (by omega) (by omega)
   have e1:IntKind.i64.wrap ((p:Int).tdiv (k:Int))=((p/k:Nat):Int):=e0 (p/k) (by omega)
   have e2:IntKind.i64.wrap ((p:Int).tmod (k:Int))=((p % k:Nat):Int):=e0 (p % k) (by omega)
   have fy:=s2 (p/k) (by omega)
   have fx:=s1 (p % k) (by omega)
   have o6:=f_Mul (y.getD (p/k) 0) (x.getD (p % k) 0) (by omega)
   rw[←gO p (by omega)]at o6
   have hly:p/k<y.length:=by omega
   have hlx:p % k<x.length:=by omega
   (repeat((first|refine step_w2 rfl rfl ?_|refine step_i (by kernel_rfl) ?_|refine step_oN (by first|omega|decide|(simp only[tl0,dlen,List.length_replicate,List.length_set,List.length_map,List.length_zipWith,List.length_take,List.length_append,List.length_cons,List.length_nil];omega)) ?_|refine g_c (by assumption) ?_|refine tst_tt t5 ?_|refine g_o (op_lenM rfl rfl rfl (ev_ok rfl) (tgt rfl) rfl) ?_|refine g_o (op_indexN (α:=Rat) (d:=0) rfl (ev_ok rfl) (ev_ok rfl) (tgt rfl) rfl (tgt rfl) rfl (by omega)) ?_|refine g_o (op_loadA rfl (ev_ok rfl) (tgt rfl) rfl (Nat.succ_ne_zero _) rfl) ?_|refine⟨_,op_neAgg tabOK goodOK rfl (ev_ok rfl) (ev_ok rfl) rfl rfl rfl rfl (q_eq (rfl)) q_guard, ?_⟩|rw[t5]|rw[t6]|rw[e1]|rw[Nat.zero_add]);conv=>whnf))
   exact⟨O.length - (p+1),fun k=>k,[8,10,11,27,29],[27],by omega,by kernel_rfl,p+1,rfl,hlp,rfl,rfl⟩
  ·have t5:=dge hlp
   (repeat(first|(refine g_c (by assumption) ?_;conv=>whnf)|(refine tst_ff t5 ?_;conv=>whnf)|(refine g_o (op_lenM rfl rfl rfl (ev_ok rfl) (tgt rfl) rfl) ?_;conv=>whnf)));(first|exact Recast.refl _|exact Frz.recast (Recast.refl _) rfl|(refine Frz.one rfl rfl ?_;skip)|(refine Frz.tup ?_;skip))
end Go.Proofs.YtfpagioknjjacaaGreatDoor
namespace Go.Sx
set_option linter.unusedSimpArgs false
set_option linter.unusedVariables false
section
variable {P:Program} {o:Oper} {ft:List (Nat×SV)} {fk:List (Nat×Blk)}
theorem op_makeF {t e:TypeId} {x y:Operand} {ti te:TI} {kl kc:IntKind} {n:Nat} (ho:o.op= .makeSlice t x y) (hx:EvOK ft x (.val (.int kl n))) (hy:EvOK ft y (.val (.int kc n)))
  (ht:TOK P t ti) (hk:ti.kind= .slc e) (he:TOK P e te) (hz:te.zero=[.frac 0]) (hs:te.size=5) (hb:(te.bytes:Int)*n≤281474976710656∧(n:Int)≤9223372036854775807):
  OpOK P o ft fk (fvec (List.replicate n 0)) [] []:=
 ok_value fun ρ a w hp=>by
  have e1:=of_has_val (hx ρ a hp.hft)
  have e2:=of_has_val (hy ρ a hp.hft)
  have hu:=ht.kind;rw[hk]at hu
  obtain⟨i,z,i1,i2,i3,i4,i5,i6,i7,_⟩:=he.info
  have hrun:=run_make (P:=P) (w:=w) t e i z hu i1 i4 kl kc n n (Int.natCast_nonneg _) (Int.le_refl _) (by rw[i3];exact hb.1) hb.2
  have hzc:z.cells.toList=fracCells 0:=by rw[i5,hz];rfl
  have hcells:madeCells z.cells (n*i.size)=((List.replicate n (fracCells 0)).flatten).toArray:=by
   have:=madeCells_flat z.cells te.size i7 n
   rw[i2]
   apply Array.ext'
   rw[this,hzc]
  have hz2:HasZ ρ (List.replicate n (SV.frac 0)) (List.replicate n (fracCells 0)):=by
   clear hrun hcells hb hx hy e1 e2
   induction n with
   |zero=>simp[HasZ]
   |succ n ih=>simp only[List.replicate_succ,HasZ];exact⟨_,_,rfl,rfl,ih⟩
  have hkl:keylessL (List.replicate n (SV.frac 0))=true:=by
   rw[←List.map_replicate (f:=SV.frac)]
   exact keylessL_map (fun _=>rfl) _
  obtain⟨ρ',hpost⟩:=vec_new (w:=w) (e:=e) (s:=5) (n:=n) hp.imm hz2 hkl (fun x hx=>by rw[(List.mem_replicate.1 hx).2];rfl) (by simp)
  refine⟨_,_,ρ', ?_,by rw[fvec,mvec,List.map_replicate];exact hpost⟩
  simp only[execOp,ho,e1,e2,Sem.run_bind,hrun,Result.andThen_ok,Sem.run_pure,hcells,Int.toNat_natCast]
end
end Go.Sx
namespace Go.Proofs.YtfpagioknjjacaaGreatDoor
open Go.Sx
set_option linter.unusedSimpArgs false
set_option linter.unusedVariables false
set_option maxRecDepth 100000
set_option maxHeartbeats 8000000
abbrev all2 (r c s t:Int) (a b:List Rat):Int:=allF [(r,c,a),(s,t,b)]
theorem m_eachE0 (g:FuncId) (r c s t:Int) (a b:List Rat) (ha:a.length<1099511627776) (hb:b.length<1099511627776) (h:all2 r c s t a b≠0):
  CallOK Tryz.prog 103 [mA r c a,mA s t b,.clo g [] []] [] (.tup [mA 0 0 [],iv (all2 r c s t a b)]) [] []:=by
 have k0:=m_all [((r:Int),(c:Int),a),((s:Int),(t:Int),b)] (by simp) (by
  intro m hm
  simp only[List.mem_cons,List.not_mem_nil,or_false]at hm
  rcases hm with rfl|rfl
  ·exact ha
  ·exact hb)
 have t1:(all2 r c s t a b==0)=false:=beq_false_of_ne h
 have t2:(all2 r c s t a b != 0)=true:=bne_iff_ne.2 h
 refine callF (Z:=[3,4,5,11]) tabOK mixedOK Tryz.func103 rfl (by kernel_rfl) (by first|rfl|(simp[keylessL,keyless,keylessL_map, *];done)) (by first|rfl|(simp[keylessL,keyless,keylessL_map, *];done)) (by kernel_rfl) rfl ?_
 intro w0 ρ0 hE
 conv=>whnf
 (repeat(first|(refine g_c (by assumption) ?_;conv=>whnf)|(refine tst_tt t2 ?_;conv=>whnf)|(refine g_o (op_loadA rfl (ev_ok rfl) (tgt rfl) rfl (Nat.succ_ne_zero _) rfl) ?_;conv=>whnf)));(first|exact Recast.refl _|exact Frz.recast (Recast.refl _) rfl|(refine Frz.one rfl rfl ?_;skip)|(refine Frz.tup ?_;(repeat(first|exact FrzC.keyless rfl|exact FrzL.nil|refine FrzL.cons ?_ ?_|exact FrzC.nilS|refine FrzC.agg ?_))))
theorem m_eachE0S (g:FuncId) {r c s t:Nat} {a b:List Rat} (ha:OKM r c a) (hb:OKM s t b) (h:r≠s∨c≠t):
  CallOK Tryz.prog 103 [mA r c a,mA s t b,.clo g [] []] [] (.tup [mA 0 0 [],iv 1]) [] []:=by
 have k0:=m_all2 ha hb
 refine callF (Z:=[3,4,5,11]) tabOK mixedOK Tryz.func103 rfl (by kernel_rfl) (by first|rfl|(simp[keylessL,keyless,keylessL_map, *];done)) (by first|rfl|(simp[keylessL,keyless,keylessL_map, *];done)) (by kernel_rfl) rfl ?_
 intro w0 ρ0 hE
 conv=>whnf
 by_cases h1:r=s
 ·have t1:((r:Int) != (s:Int))=false:=by rw[h1];exact bne_self_eq_false _
  have t2:((c:Int) != (t:Int))=true:=bne_iff_ne.2 (by omega)
  (repeat((first|refine step_w1 rfl rfl ?_|refine step_w2 rfl rfl ?_|refine g_c (by assumption) ?_|refine g_o (op_pickF rfl (ev_ok rfl) (ev_ok rfl)) ?_|rw[bne_self_eq_false]|refine tst_tt t2 ?_|refine g_o (op_loadA rfl (ev_ok rfl) (tgt rfl) rfl (Nat.succ_ne_zero _) rfl) ?_|refine g_o (op_fieldA rfl (ev_ok rfl) (tgt rfl) rfl rfl (Nat.succ_ne_zero _) rfl) ?_|rw[t1]);conv=>whnf));(first|exact Recast.refl _|exact Frz.recast (Recast.refl _) rfl|(refine Frz.one rfl rfl ?_;skip)|(refine Frz.tup ?_;(repeat(first|exact FrzC.keyless rfl|exact FrzL.nil|refine FrzL.cons ?_ ?_|exact FrzC.nilS|refine FrzC.agg ?_))))
 ·have t1:((r:Int) != (s:Int))=true:=bne_iff_ne.2 (by omega)
  (repeat((first|refine step_w1 rfl rfl ?_|refine step_w2 rfl rfl ?_|refine g_c (by assumption) ?_|refine g_o (op_pickT rfl (ev_ok rfl) (ev_ok rfl)) ?_|rw[bne_self_eq_false]|refine g_o (op_loadA rfl (ev_ok rfl) (tgt rfl) rfl (Nat.succ_ne_zero _) rfl) ?_|refine g_o (op_fieldA rfl (ev_ok rfl) (tgt rfl) rfl rfl (Nat.succ_ne_zero _) rfl) ?_|rw[t1]);conv=>whnf));(first|exact Recast.refl _|exact Frz.recast (Recast.refl _) rfl|(refine Frz.one rfl rfl ?_;skip)|(refine Frz.tup ?_;(repeat(first|exact FrzC.keyless rfl|exact FrzL.nil|refine FrzL.cons ?_ ?_|exact FrzC.nilS|refine FrzC.agg ?_))))
theorem m_eachE1 (g:FuncId) (p:Pred) (r c s t:Int) (a b:List Rat) (ha:a.length<1099511627776) (hb:b.length<1099511627776) (h:all2 r c s t a b≠0):
  CallOK Tryz.prog 103 [mA r c a,mA s t b,.clo g [] [.atom p]] [] (.tup [mA 0 0 [],iv (all2 r c s t a b)]) [] []:=by
 have k0:=m_all [((r:Int),(c:Int),a),((s:Int),(t:Int),b)] (by simp) (by
  intro m hm
  simp only[List.mem_cons,List.not_mem_nil,or_false]at hm
  rcases hm with rfl|rfl
  ·exact ha
  ·exact hb)
 have t1:(all2 r c s t a b==0)=false:=beq_false_of_ne h
 have t2:(all2 r c s t a b != 0)=true:=bne_iff_ne.2 h
 refine callF (Z:=[3,4,5,11]) tabOK mixedOK Tryz.func103 rfl (by kernel_rfl) (by first|rfl|(simp[keylessL,keyless,keylessL_map, *];done)) (by first|rfl|(simp[keylessL,keyless,keylessL_map, *];done)) (by kernel_rfl) rfl ?_
 intro w0 ρ0 hE
 conv=>whnf
 (repeat(first|(refine g_c (by assumption) ?_;conv=>whnf)|(refine tst_tt t2 ?_;conv=>whnf)|(refine g_o (op_loadA rfl (ev_ok rfl) (tgt rfl) rfl (Nat.succ_ne_zero _) rfl) ?_;conv=>whnf)));(first|exact Recast.refl _|exact Frz.recast (Recast.refl _) rfl|(refine Frz.one rfl rfl ?_;skip)|(refine Frz.tup ?_;(repeat(first|exact FrzC.keyless rfl|exact FrzL.nil|refine FrzL.cons ?_ ?_|exact FrzC.nilS|refine FrzC.agg ?_))))
theorem m_AddE (r c s t:Int) (a b:List Rat) (ha:a.length<1099511627776) (hb:b.length<1099511627776) (h:all2 r c s t a b≠0):
  CallOK Tryz.prog 17 [mA r c a,mA s t b] [] (.tup [mA 0 0 [],iv (all2 r c s t a b)]) [] []:=by
 have k1:=m_eachE0 80 r c s t a b ha hb h
 refine callV (Z:=[]) tabOK mixedOK Tryz.func17 rfl (by kernel_rfl) rfl rfl (by kernel_rfl) rfl ?_
 intro W0 w0 ρ0 hE
 conv=>whnf
 (repeat(first|(refine g_c (by assumption) ?_;conv=>whnf)));(first|exact Recast.refl _|exact Frz.recast (Recast.refl _) rfl|(refine Frz.one rfl rfl ?_;skip)|(refine Frz.tup ?_;skip))
theorem m_AddS {r c s t:Nat} {a b:List Rat} (ha:OKM r c a) (hb:OKM s t b) (h:r≠s∨c≠t):CallOK Tryz.prog 17 [mA r c a,mA s t b] [] (.tup [mA 0 0 [],iv 1]) [] []:=by
 have k1:=m_eachE0S 80 ha hb h
 refine callV (Z:=[]) tabOK mixedOK Tryz.func17 rfl (by kernel_rfl) rfl rfl (by kernel_rfl) rfl ?_
 intro W0 w0 ρ0 hE
 conv=>whnf
 (repeat(first|(refine g_c (by assumption) ?_;conv=>whnf)));(first|exact Recast.refl _|exact Frz.recast (Recast.refl _) rfl|(refine Frz.one rfl rfl ?_;skip)|(refine Frz.tup ?_;skip))
theorem m_SubE (r c s t:Int) (a b:List Rat) (ha:a.length<1099511627776) (hb:b.length<1099511627776) (h:all2 r c s t a b≠0):
  CallOK Tryz.prog 65 [mA r c a,mA s t b] [] (.tup [mA 0 0 [],iv (all2 r c s t a b)]) [] []:=by
 have k1:=m_eachE0 142 r c s t a b ha hb h
 refine callV (Z:=[]) tabOK mixedOK Tryz.func65 rfl (by kernel_rfl) rfl rfl (by kernel_rfl) rfl ?_
 intro W0 w0 ρ0 hE
 conv=>whnf
 (repeat(first|(refine g_c (by assumption) ?_;conv=>whnf)));(first|exact Recast.refl _|exact Frz.recast (Recast.refl _) rfl|(refine Frz.one rfl rfl ?_;skip)|(refine Frz.tup ?_;skip))
theorem m_SubS {r c s t:Nat} {a b:List Rat} (ha:OKM r c a) (hb:OKM s t b) (h:r≠s∨c≠t):CallOK Tryz.prog 65 [mA r c a,mA s t b] [] (.tup [mA 0 0 [],iv 1]) [] []:=by
 have k1:=m_eachE0S 142 ha hb h
 refine callV (Z:=[]) tabOK mixedOK Tryz.func65 rfl (by kernel_rfl) rfl rfl (by kernel_rfl) rfl ?_
 intro W0 w0 ρ0 hE
 conv=>whnf
 (repeat(first|(refine g_c (by assumption) ?_;conv=>whnf)));(first|exact Recast.refl _|exact Frz.recast (Recast.refl _) rfl|(refine Frz.one rfl rfl ?_;skip)|(refine Frz.tup ?_;skip))
theorem m_ScaleE (q:Rat) (r c:Int) (a:List Rat) (ha:a.length<1099511627776) (h:checkF r c a.length≠0):
  CallOK Tryz.prog 66 [.frac q,mA r c a] [] (.tup [mA 0 0 [],iv (checkF r c a.length)]) [] []:=by
 have e:all2 r c r c a a=checkF r c a.length:=by rw[all2,allF,if_pos h]
 have k1:=m_eachE1 194 (ptrP [.frac q]) r c r c a a ha ha (by rw[e];exact h)
 rw[e]at k1
 refine callV (Z:=[2]) tabOK mixedOK Tryz.func66 rfl (by kernel_rfl) rfl rfl (by kernel_rfl) rfl ?_
 intro W0 w0 ρ0 hE
 conv=>whnf
 (repeat(first|(refine g_c (by assumption) ?_;conv=>whnf)|(refine g_o (op_makeFunc rfl rfl rfl) ?_;conv=>whnf)));(first|exact Recast.refl _|exact Frz.recast (Recast.refl _) rfl|(refine Frz.one rfl rfl ?_;skip)|(refine Frz.tup ?_;skip))
theorem m_MulE (r c s t:Int) (a b:List Rat) (ha:a.length<1099511627776) (hb:b.length<1099511627776) (h:all2 r c s t a b≠0):
  CallOK Tryz.prog 67 [mA r c a,mA s t b] [] (.tup [mA 0 0 [],iv (all2 r c s t a b)]) [] []:=by
 have k0:=m_all [((r:Int),(c:Int),a),((s:Int),(t:Int),b)] (by simp) (by
  intro m hm
  simp only[List.mem_cons,List.not_mem_nil,or_false]at hm
  rcases hm with rfl|rfl
  ·exact ha
  ·exact hb)
 have t2:(all2 r c s t a b != 0)=true:=bne_iff_ne.2 h
 refine callF (Z:=[2,3,9]) tabOK mixedOK Tryz.func67 rfl (by kernel_rfl) (by first|rfl|(simp[keylessL,keyless,keylessL_map, *];done)) (by first|rfl|(simp[keylessL,keyless,keylessL_map, *];done)) (by kernel_rfl) rfl ?_
 intro w0 ρ0 hE
 conv=>whnf
 (repeat(first|(refine g_c (by assumption) ?_;conv=>whnf)|(refine tst_tt t2 ?_;conv=>whnf)|(refine g_o (op_loadA rfl (ev_ok rfl) (tgt rfl) rfl (Nat.succ_ne_zero _) rfl) ?_;conv=>whnf)));(first|exact Recast.refl _|exact Frz.recast (Recast.refl _) rfl|(refine Frz.one rfl rfl ?_;skip)|(refine Frz.tup ?_;(repeat(first|exact FrzC.keyless rfl|exact FrzL.nil|refine FrzL.cons ?_ ?_|exact FrzC.nilS|refine FrzC.agg ?_))))
theorem m_MulS {r c s t:Nat} {a b:List Rat} (ha:OKM r c a) (hb:OKM s t b) (h:c≠s):CallOK Tryz.prog 67 [mA r c a,mA s t b] [] (.tup [mA 0 0 [],iv 1]) [] []:=by
 have k0:=m_all2 ha hb
 have t2:((c:Int) != (s:Int))=true:=bne_iff_ne.2 (by omega)
 refine callF (Z:=[2,3,9]) tabOK mixedOK Tryz.func67 rfl (by kernel_rfl) (by first|rfl|(simp[keylessL,keyless,keylessL_map, *];done)) (by first|rfl|(simp[keylessL,keyless,keylessL_map, *];done)) (by kernel_rfl) rfl ?_
 intro w0 ρ0 hE
 conv=>whnf
 (repeat((first|refine step_w2 rfl rfl ?_|refine g_c (by assumption) ?_|rw[bne_self_eq_false]|refine tst_tt t2 ?_|refine g_o (op_loadA rfl (ev_ok rfl) (tgt rfl) rfl (Nat.succ_ne_zero _) rfl) ?_|refine g_o (op_fieldA rfl (ev_ok rfl) (tgt rfl) rfl rfl (Nat.succ_ne_zero _) rfl) ?_);conv=>whnf));(first|exact Recast.refl _|exact Frz.recast (Recast.refl _) rfl|(refine Frz.one rfl rfl ?_;skip)|(refine Frz.tup ?_;(repeat(first|exact FrzC.keyless rfl|exact FrzL.nil|refine FrzL.cons ?_ ?_|exact FrzC.nilS|refine FrzC.agg ?_))))
theorem m_TurnE (r c:Int) (a:List Rat) (ha:a.length<1099511627776) (h:checkF r c a.length≠0):CallOK Tryz.prog 16 [mA r c a] [] (.tup [mA 0 0 [],iv (checkF r c a.length)]) [] []:=by
 have k0:=m_Check r c a ha
 have t1:(checkF r c a.length != 0)=true:=bne_iff_ne.2 h
 refine callF (Z:=[1]) tabOK mixedOK Tryz.func16 rfl (by kernel_rfl) (by first|rfl|(simp[keylessL,keyless,keylessL_map, *];done)) (by first|rfl|(simp[keylessL,keyless,keylessL_map, *];done)) (by kernel_rfl) rfl ?_
 intro w0 ρ0 hE
 conv=>whnf
 (repeat(first|(refine g_c (by assumption) ?_;conv=>whnf)|(refine tst_tt t1 ?_;conv=>whnf)|(refine g_o (op_loadA rfl (ev_ok rfl) (tgt rfl) rfl (Nat.succ_ne_zero _) rfl) ?_;conv=>whnf)));(first|exact Recast.refl _|exact Frz.recast (Recast.refl _) rfl|(refine Frz.one rfl rfl ?_;skip)|(refine Frz.tup ?_;(repeat(first|exact FrzC.keyless rfl|exact FrzL.nil|refine FrzL.cons ?_ ?_|exact FrzC.nilS|refine FrzC.agg ?_))))
theorem m_PartC (r c:Int) (a:List Rat) (ha:a.length<1099511627776) (h:checkF r c a.length≠0) (x y:List Int):CallOK Tryz.prog 95 [mA r c a,ivec .i64 x,ivec .i64 y] [] (.tup [mA 0 0 [],iv (checkF r c a.length)]) [] []:=by
 have k0:=m_Check r c a ha
 have t1:(checkF r c a.length != 0)=true:=bne_iff_ne.2 h
 refine callF (Z:=[3,4,5]) tabOK mixedOK Tryz.func95 rfl (by kernel_rfl) (by first|rfl|(simp[keylessL,keyless,keylessL_map, *];done)) (by first|rfl|(simp[keylessL,keyless,keylessL_map, *];done)) (by kernel_rfl) rfl ?_
 intro w0 ρ0 hE
 conv=>whnf
 (repeat(first|(refine g_c (by assumption) ?_;conv=>whnf)|(refine tst_tt t1 ?_;conv=>whnf)|(refine g_o (op_loadA rfl (ev_ok rfl) (tgt rfl) rfl (Nat.succ_ne_zero _) rfl) ?_;conv=>whnf)));(first|exact Recast.refl _|exact Frz.recast (Recast.refl _) rfl|(refine Frz.one rfl rfl ?_;skip)|(refine Frz.tup ?_;(repeat(first|exact FrzC.keyless rfl|exact FrzL.nil|refine FrzL.cons ?_ ?_|exact FrzC.nilS|refine FrzC.agg ?_))))
theorem m_TextE (r c:Int) (a:List Rat) (ha:a.length<1099511627776) (h:checkF r c a.length≠0):CallOK Tryz.prog 110 [mA r c a] [] (.val (.string ⟨#[]⟩)) [] []:=by
 have k0:=m_Check r c a ha
 have t1:(checkF r c a.length != 0)=true:=bne_iff_ne.2 h
 refine callV (Z:=[1]) tabOK mixedOK Tryz.func110 rfl (by kernel_rfl) rfl rfl (by kernel_rfl) rfl ?_
 intro W0 w0 ρ0 hE
 conv=>whnf
 (repeat(first|(refine g_c (by assumption) ?_;conv=>whnf)|(refine tst_tt t1 ?_;conv=>whnf)|(refine g_o (op_loadA rfl (ev_ok rfl) (tgt rfl) rfl (Nat.succ_ne_zero _) rfl) ?_;conv=>whnf)));(first|exact Recast.refl _|exact Frz.recast (Recast.refl _) rfl|(refine Frz.one rfl rfl ?_;skip)|(refine Frz.tup ?_;skip))
theorem m_SumE (r c:Int) (a:List Rat) (ha:a.length<1099511627776) (h:checkF r c a.length≠0):CallOK Tryz.prog 83 [mA r c a] [] (.frac 0) [] []:=by
 have k0:=m_Check r c a ha
 have t1:(checkF r c a.length != 0)=true:=bne_iff_ne.2 h
 refine callV (Z:=[]) tabOK mixedOK Tryz.func83 rfl (by kernel_rfl) rfl rfl (by kernel_rfl) rfl ?_
 intro W0 w0 ρ0 hE
 conv=>whnf
 (repeat(first|(refine g_c (by assumption) ?_;conv=>whnf)|(refine tst_tt t1 ?_;conv=>whnf)));(first|exact Recast.refl _|exact Frz.recast (Recast.refl _) rfl|(refine Frz.one rfl rfl ?_;skip)|(refine Frz.tup ?_;skip))
theorem m_SymmetricE (r c:Int) (a:List Rat) (ha:a.length<1099511627776) (h:checkF r c a.length≠0):CallOK Tryz.prog 88 [mA r c a] [] (.val (.bool false)) [] []:=by
 have k0:=m_TurnE r c a ha h
 have t1:(checkF r c a.length==0)=false:=beq_false_of_ne h
 refine callV (Z:=[]) tabOK mixedOK Tryz.func88 rfl (by kernel_rfl) rfl rfl (by kernel_rfl) rfl ?_
 intro W0 w0 ρ0 hE
 conv=>whnf
 (repeat((first|refine g_c (by assumption) ?_|refine g_o (op_pickF rfl (ev_ok rfl) (ev_ok rfl)) ?_|refine tst_ff t1 ?_|rw[t1]);conv=>whnf));(first|exact Recast.refl _|exact Frz.recast (Recast.refl _) rfl|(refine Frz.one rfl rfl ?_;skip)|(refine Frz.tup ?_;skip))
theorem m_FormE (r c:Int) (a v w:List Rat) (ha:a.length<1099511627776) (h:checkF r c a.length≠0):CallOK Tryz.prog 77 [mA r c a,fvec v,fvec w] [] (.tup [.frac 0,iv (checkF r c a.length)]) [] []:=by
 have k0:=m_Check r c a ha
 have t1:(checkF r c a.length != 0)=true:=bne_iff_ne.2 h
 refine callV (Z:=[3,20]) tabOK mixedOK Tryz.func77 rfl (by kernel_rfl) rfl rfl (by kernel_rfl) rfl ?_
 intro W0 w0 ρ0 hE
 conv=>whnf
 (repeat(first|(refine g_c (by assumption) ?_;conv=>whnf)|(refine tst_tt t1 ?_;conv=>whnf)|(refine g_o (op_loadA rfl (ev_ok rfl) (tgt rfl) rfl (Nat.succ_ne_zero _) rfl) ?_;conv=>whnf)));(first|exact Recast.refl _|exact Frz.recast (Recast.refl _) rfl|(refine Frz.one rfl rfl ?_;skip)|(refine Frz.tup ?_;skip))
theorem m_ApplyE (r c:Int) (a v:List Rat) (ha:a.length<1099511627776) (h:checkF r c a.length≠0):CallOK Tryz.prog 76 [mA r c a,fvec v] [] (.tup [fvec [],iv (checkF r c a.length)]) [] []:=by
 have k0:=m_all [(r,c,a)] (by simp) (by
  intro m hm
  simp only[List.mem_cons,List.not_mem_nil,or_false]at hm
  obtain rfl:=hm;exact ha)
 rw[allF,if_pos h]at k0
 have t1:(checkF r c a.length != 0)=true:=bne_iff_ne.2 h
 refine callF (Z:=[2,11,17]) tabOK mixedOK Tryz.func76 rfl (by kernel_rfl) (by first|rfl|(simp[keylessL,keyless,keylessL_map, *];done)) (by first|rfl|(simp[keylessL,keyless,keylessL_map, *];done)) (by kernel_rfl) rfl ?_
 intro w0 ρ0 hE
 conv=>whnf
 (repeat(first|(refine g_c (by assumption) ?_;conv=>whnf)|(refine tst_tt t1 ?_;conv=>whnf)|(refine g_o (op_loadA rfl (ev_ok rfl) (tgt rfl) rfl (Nat.succ_ne_zero _) rfl) ?_;conv=>whnf)));(first|exact Recast.refl _|exact Frz.recast (Recast.refl _) rfl|(refine Frz.one rfl rfl ?_;skip)|(refine Frz.tup ?_;(repeat(first|exact FrzC.keyless rfl|exact FrzL.nil|refine FrzL.cons ?_ ?_|exact FrzC.nilS))))
theorem m_ApplyS {r c:Nat} {a v:List Rat} (ha:OKM r c a) (hv:v.length<1099511627776) (h:v.length≠c):∃e,CallOK Tryz.prog 76 [mA r c a,fvec v] [] (.tup [fvec [],iv e]) [] []∧(v.length≤2048→e=1):=by
 have k0:=m_all1 ha
 have k1:=m_short [v] (by simp) (by simp;exact hv)
 by_cases hl:2048<v.length
 ·have e:shortF [v]=3:=by simp[shortF,hl]
  rw[e]at k1
  refine⟨3, ?_,fun h=>by omega⟩
  refine callF (Z:=[2,11,17]) tabOK mixedOK Tryz.func76 rfl (by kernel_rfl) (by first|rfl|(simp[keylessL,keyless,keylessL_map, *];done)) (by first|rfl|(simp[keylessL,keyless,keylessL_map, *];done)) (by kernel_rfl) rfl ?_
  intro w0 ρ0 hE
  conv=>whnf
  (repeat((first|refine step_w1 rfl rfl ?_|refine step_w2 rfl rfl ?_|refine g_c (by assumption) ?_|refine g_o (op_loadA rfl (ev_ok rfl) (tgt rfl) rfl (Nat.succ_ne_zero _) rfl) ?_);conv=>whnf));(first|exact Recast.refl _|exact Frz.recast (Recast.refl _) rfl|(refine Frz.one rfl rfl ?_;skip)|(refine Frz.tup ?_;(repeat(first|exact FrzC.keyless rfl|exact FrzL.nil|refine FrzL.cons ?_ ?_|exact FrzC.nilS))))
 ·have e:shortF [v]=0:=by simp[shortF,hl]
  rw[e]at k1
  have t1:((v.length:Int) != (c:Int))=true:=bne_iff_ne.2 (by omega)
  refine⟨1, ?_,fun _=>rfl⟩
  refine callF (Z:=[2,11,17]) tabOK mixedOK Tryz.func76 rfl (by kernel_rfl) (by first|rfl|(simp[keylessL,keyless,keylessL_map, *];done)) (by first|rfl|(simp[keylessL,keyless,keylessL_map, *];done)) (by kernel_rfl) rfl ?_
  intro w0 ρ0 hE
  conv=>whnf
  (repeat((first|refine step_w2 rfl rfl ?_|refine g_c (by assumption) ?_|rw[bne_self_eq_false]|refine tst_tt t1 ?_|refine g_o (op_lenM rfl rfl rfl (ev_ok rfl) (tgt rfl) rfl) ?_|refine g_o (op_loadA rfl (ev_ok rfl) (tgt rfl) rfl (Nat.succ_ne_zero _) rfl) ?_|refine g_o (op_fieldA rfl (ev_ok rfl) (tgt rfl) rfl rfl (Nat.succ_ne_zero _) rfl) ?_);conv=>whnf));(first|exact Recast.refl _|exact Frz.recast (Recast.refl _) rfl|(refine Frz.one rfl rfl ?_;skip)|(refine Frz.tup ?_;(repeat(first|exact FrzC.keyless rfl|exact FrzL.nil|refine FrzL.cons ?_ ?_|exact FrzC.nilS))))
theorem m_FormS {r c:Nat} {a v w:List Rat} (ha:OKM r c a) (hv:v.length<1099511627776) (hw:w.length≤2048) (h:v.length≠r):∃e,CallOK Tryz.prog 77 [mA r c a,fvec v,fvec w] [] (.tup [.frac 0,iv e]) [] []∧(v.length≤2048→e=1):=by
 have k0:=m_Check0 ha
 have k1:=m_short [v,w] (by simp) (by simp;omega)
 by_cases hl:2048<v.length
 ·have e:shortF [v,w]=3:=by simp[shortF,hl]
  rw[e]at k1
  refine⟨3, ?_,fun h=>by omega⟩
  refine callV (Z:=[3,20]) tabOK mixedOK Tryz.func77 rfl (by kernel_rfl) rfl rfl (by kernel_rfl) rfl ?_
  intro W0 w0 ρ0 hE
  conv=>whnf
  (repeat((first|refine step_w1 rfl rfl ?_|refine step_w2 rfl rfl ?_|refine g_c (by assumption) ?_|refine g_o (op_loadA rfl (ev_ok rfl) (tgt rfl) rfl (Nat.succ_ne_zero _) rfl) ?_);conv=>whnf));(first|exact Recast.refl _|exact Frz.recast (Recast.refl _) rfl|(refine Frz.one rfl rfl ?_;skip)|(refine Frz.tup ?_;skip))
 ·have e:shortF [v,w]=0:=by simp[shortF];omega
  rw[e]at k1
  have t1:((v.length:Int) != (r:Int))=true:=bne_iff_ne.2 (by omega)
  refine⟨1, ?_,fun _=>rfl⟩
  refine callV (Z:=[3,20]) tabOK mixedOK Tryz.func77 rfl (by kernel_rfl) rfl rfl (by kernel_rfl) rfl ?_
  intro W0 w0 ρ0 hE
  conv=>whnf
  (repeat((first|refine step_w1 rfl rfl ?_|refine step_w2 rfl rfl ?_|refine g_c (by assumption) ?_|refine g_o (op_pickT rfl (ev_ok rfl) (ev_ok rfl)) ?_|rw[bne_self_eq_false]|refine g_o (op_lenM rfl rfl rfl (ev_ok rfl) (tgt rfl) rfl) ?_|refine g_o (op_loadA rfl (ev_ok rfl) (tgt rfl) rfl (Nat.succ_ne_zero _) rfl) ?_|refine g_o (op_fieldA rfl (ev_ok rfl) (tgt rfl) rfl rfl (Nat.succ_ne_zero _) rfl) ?_|rw[t1]);conv=>whnf));(first|exact Recast.refl _|exact Frz.recast (Recast.refl _) rfl|(refine Frz.one rfl rfl ?_;skip)|(refine Frz.tup ?_;skip))
end Go.Proofs.YtfpagioknjjacaaGreatDoor
namespace Go.Proofs.YtfpagioknjjacaaGreatDoor
open Go.Sx
set_option linter.unusedSimpArgs false
set_option linter.unusedVariables false
set_option maxRecDepth 100000
set_option maxHeartbeats 8000000
theorem c_refused (r c:Int) (a:List Rat) (ha:a.length<1099511627776) (want:Int) (h:checkF r c a.length=want) (hw:want≠0):
  CallOK Tryz.prog 97 [mA r c a,iv want] [] (.val (.bool true)) [] []:=by
 have h0:checkF r c a.length≠0:=by rw[h];exact hw
 have hone:(ofInts [1]).length<1099511627776:=by decide
 have c1:checkF 1 1 (ofInts [1]).length=0:=by decide
 have k0:=m_Of 1 1 [1] (by decide) (by decide) rfl (by decide)
 have e1:all2 r c 1 1 a (ofInts [1])=want:=by rw[all2,allF,if_pos h0,h]
 have e2:all2 1 1 r c (ofInts [1]) a=want:=by rw[all2,allF,if_neg (by rw[c1];decide),allF,if_pos h0,h]
 have e3:all2 r c r c a a=want:=by rw[all2,allF,if_pos h0,h]
 have k1:=m_AddE r c 1 1 a (ofInts [1]) ha hone (by rw[e1];exact hw)
 have k2:=m_AddE 1 1 r c (ofInts [1]) a hone ha (by rw[e2];exact hw)
 have k3:=m_MulE r c r c a a ha ha (by rw[e3];exact hw)
 rw[e1]at k1
 rw[e2]at k2
 rw[e3]at k3
 have k4:=m_ScaleE ((1:Int):Rat) r c a ha h0
 have k5:=m_TurnE r c a ha h0
 have k6:=(m_PartC r c a ha h0 [] []).wk (args:=[mA r c a,.val (.slice none 0 0),.val (.slice none 0 0)]) (by repeat(first|exact WkL.nil|refine WkL.cons ?_ ?_|exact Wk.nil|exact Wk.refl|refine Wk.agg ?_))
 have k7:=(m_ApplyE r c a [] ha h0).wk (args:=[mA r c a,.val (.slice none 0 0)]) (by repeat(first|exact WkL.nil|refine WkL.cons ?_ ?_|exact Wk.nil|exact Wk.refl|refine Wk.agg ?_))
 have k8:=m_RowE r c a ha 0 h0
 have k9:=m_ColE r c a ha 0 h0
 have k10:=(m_FormE r c a [] [] ha h0).wk (args:=[mA r c a,.val (.slice none 0 0),.val (.slice none 0 0)]) (by repeat(first|exact WkL.nil|refine WkL.cons ?_ ?_|exact Wk.nil|exact Wk.refl|refine Wk.agg ?_))
 have k11:=m_TextE r c a ha h0
 have k12:=m_SumE r c a ha h0
 have k13:=m_SymmetricE r c a ha h0
 have k14:=c_fInt 1 (by decide) (by decide)
 rw[h]at k4 k5 k6 k7 k8 k9 k10
 have t1:(want != want)=false:=bne_self_eq_false _
 clear e1 e2 e3 h0 h hone c1 hw
 refine callV (Z:=[2,28]) tabOK mixedOK Tryz.func97 rfl (by kernel_rfl) rfl rfl (by kernel_rfl) rfl ?_
 intro W0 w0 ρ0 hE
 conv=>whnf
 (repeat((first|refine step_w1 rfl rfl ?_|refine step_w2 rfl rfl ?_|refine step_i (by kernel_rfl) ?_|refine g_c (by assumption) ?_|refine g_o (op_pickT rfl (ev_ok rfl) (ev_ok rfl)) ?_|refine g_o (op_pickF rfl (ev_ok rfl) (ev_ok rfl)) ?_|rw[beq_self_eq_true]|rw[bne_self_eq_false]|refine g_o (op_lenM rfl rfl rfl (ev_ok rfl) (tgt rfl) rfl) ?_|refine g_o (op_loadA rfl (ev_ok rfl) (tgt rfl) rfl (Nat.succ_ne_zero _) rfl) ?_|refine⟨_,op_eqAgg tabOK goodOK rfl (ev_ok rfl) (ev_ok rfl) rfl rfl rfl rfl (q_eq (rfl)) q_guard, ?_⟩);conv=>whnf));(first|exact Recast.refl _|exact Frz.recast (Recast.refl _) rfl|(refine Frz.one rfl rfl ?_;skip)|(refine Frz.tup ?_;skip))
end Go.Proofs.YtfpagioknjjacaaGreatDoor
