/- The texts Pb. -/
import Derived.Test.YtjknedoaofjnbaaGreatDoorQLBareissSylvester5
namespace Go.Sx
set_option linter.unusedSimpArgs false
set_option linter.unusedVariables false
theorem SWx_then {E:Env} {c:Code} {K:Post'} {fr fr1:List (Nat×SV)} {hp hp1:List (Nat×Blk)} (h:∀K':Post',K' .normal fr1 hp1→SWx E c K' fr hp) (hk:K .normal fr1 hp1):SWx E c K fr hp:=h K hk
end Go.Sx
namespace Go.Proofs.YtjknedoaofjnbaaGreatDoor
open Go.Sx
set_option linter.unusedSimpArgs false
set_option linter.unusedVariables false
set_option maxRecDepth 100000
set_option maxHeartbeats 40000000
theorem zs_pow (x:Int):∀n:Nat,zs (x^n)≤2+n*zs x
 |0=>by rw[Int.pow_zero,zs_1];omega
 |n+1=>by
  have:=zs_mul (x^n) x
  have ih:=zs_pow x n
  rw[Int.pow_succ,Nat.succ_mul]
  omega
abbrev zIb (x:Int):Blk:=⟨51,true,.one [.int x]⟩
theorem lw_power (x:Int) (n:Nat) (hn:n≤10) (hx:zs x≤1000000):CallOK Tryz.prog 69 [.int x,iv n] [] (.int (x^n)) [] []:=by
 have k1:=c_iOf 1 (by decide) (by decide)
 refine callV (Z:=[2]) tabOK mixedOK Tryz.func69 rfl (by kernel_rfl) rfl rfl (by kernel_rfl) rfl ?_
 intro W0 w0 ρ0 hE
 conv=>whnf
 (repeat(first|(refine g_c (by assumption) ?_;conv=>whnf)))
 refine SW_loopN hE (fun k=>k) [1,2,4,5,6] [4,5] (fun m fr hp=>∃i:Nat,m=n - i∧i≤n∧fr=[(1,iv n),(2,ptrA [.int x]),(4,.ptr 4 0 0 0),(5,.ptr 5 0 0 0),(6,iv i)]∧hp=[(4,zIb 0),(5,zIb (x^i))]) n ?_ ?_ ?_
 ·kernel_rfl
 ·exact⟨0,rfl,Nat.zero_le _,rfl,by rw[Int.pow_zero];rfl⟩
 rintro m _ _ ⟨i,rfl,hi,rfl,rfl⟩
 conv=>whnf
 by_cases hlt:i<n
 ·have t1:=dlt hlt
  have t2:=winc (i:=i) (by omega)
  have k2:=zz_Mul (x^i) x (by have:=zs_pow x i;have h2:i*zs x≤10*1000000:=Nat.mul_le_mul (by omega) hx;omega)
  rw[←Int.pow_succ]at k2
  (repeat((first|refine g_c (by assumption) ?_|refine tst_tt t1 ?_|refine g_o (op_loadA rfl (ev_ok rfl) (tgt rfl) rfl (Nat.succ_ne_zero _) rfl) ?_|rw[t1]|rw[t2]);conv=>whnf))
  exact⟨n - (i+1),fun k=>k,[1,2,4,5,6],[4,5],by omega,by kernel_rfl,i+1,rfl,hlt,rfl,rfl⟩
 ·have t1:=dge hlt
  obtain rfl:i=n:=by omega
  (repeat(first|(refine tst_ff t1 ?_;conv=>whnf)));(first|exact Recast.refl _|exact Frz.recast (Recast.refl _) rfl|(refine Frz.one rfl rfl ?_;skip)|(refine Frz.tup ?_;skip))
theorem st_zero {r:Nat} {a:List Int} (ha:a.length=r*r):stM r r 0 a=a:=by
 show mkz (r - 0) (r - 0) _=a
 rw[Nat.sub_zero]
 exact mkz_ext ha fun i k _ _=>bmZ_zero _ _ _
theorem st_len (r s:Nat) (X:List Int):(stM r r s X).length=(r - s)*(r - s):=mkz_len ..
theorem st_el {r s i k:Nat} {X:List Int} (hi:i<r - s) (hk:k<r - s):(stM r r s X).getD (i*(r - s)+k) 0=bmZ s (elz X r) i k:=mkz_el hi hk
theorem l_goes {r:Nat} {X:List Int} (ha:OKZ r r X) (za:Zm 65 X) (hr:r≤5) (hr1:1≤r):CallOK Tryz.prog 70 [wA r r X,iv r] [] (.val (.bool true)) [] []:=by
 have k1:=c_iOf 1 (by decide) (by decide)
 have hX:=ha.n
 have zst:∀s i k,s+i<r→s+k<r→zs (bmZ s (elz X r) i k)≤300000:=fun s i k hi hk=>
  detZ_zs (by omega) (by decide) fun x y hx hy=>elz_zm za hX (by unfold at1;split<;>omega) (by unfold at1;split<;>omega)
 have zdt:∀s,s≤r→zs (detZ s (elz X r))≤300000:=fun s hs=>detZ_zs (by omega) (by decide) fun x y hx hy=>elz_zm za hX (by omega) (by omega)
 refine callV (Z:=[2,100007,100009,100016,100017]) tabOK mixedOK Tryz.func70 rfl (by kernel_rfl) rfl rfl (by kernel_rfl) rfl ?_
 intro W0 w0 ρ0 hE
 conv=>whnf
 (repeat(first|(refine g_c (by assumption) ?_;conv=>whnf)|(refine g_o (op_loadA rfl (ev_ok rfl) (tgt rfl) rfl (Nat.succ_ne_zero _) rfl) ?_;conv=>whnf)))
 refine SW_loopN hE (fun k=>k) [1,2,5,6,7] [5,6] (fun m fr hp=>∃s:Nat,m=r - s∧s<r∧fr=[(1,iv r),(2,ptrA (wC r r X)),(5,.ptr 5 0 0 0),(6,.ptr 6 0 0 0),(7,iv s)]∧
  hp=[(5,zIb (detZ s (elz X r))),(6,⟨112,true,.one (wC (r - s:Nat) (r - s:Nat) (stM r r s X))⟩)]) r ?_ ?_ ?_
 ·kernel_rfl
 ·exact⟨0,rfl,hr1,rfl,by rw[st_zero hX];rfl⟩
 rintro m _ _ ⟨s,rfl,hs,rfl,rfl⟩
 conv=>whnf
 have t1:IntKind.i64.wrap ((s:Int)+1)=((s+1:Nat):Int):=by rw[wrap_i64 (by omega) (by omega)];omega
 by_cases hlt:s+1<r
 ·have t2:=decide_eq_true (show((s+1:Nat):Int)<(r:Int) by omega)
  have k2:=b_Stage (s:=s+1) ha za (by decide) (by omega) (by have:4^(s+1+1)≤4^5:=Nat.pow_le_pow_right (by decide) (by omega);omega) (by omega) (by omega)
  have lx:=st_len r s X
  have ly:=st_len r (s+1) X
  have h0:=st_el (X:=X) (r:=r) (s:=s) (i:=0) (k:=0) (by omega) (by omega)
  rw[Nat.zero_mul,Nat.add_zero,bmZ_first]at h0
  have w1:IntKind.i64.wrap ((r:Int) - (s:Int))=((r - s:Nat):Int):=by rw[wrap_i64 (by omega) (by omega)];omega
  have w2:IntKind.i64.wrap (((r - s:Nat):Int) - 1)=((r - (s+1):Nat):Int):=by rw[wrap_i64 (by omega) (by omega)];omega
  have w3:IntKind.i64.wrap (((r - (s+1):Nat):Int)*((r - (s+1):Nat):Int))=(((r - (s+1))*(r - (s+1)):Nat):Int):=by
   have:(r - (s+1))*(r - (s+1))≤5*5:=Nat.mul_le_mul (by omega) (by omega)
   rw[←Int.natCast_mul,wrap_i64 (by omega) (by omega)]
  have w4:IntKind.i64.wrap (((r - s:Nat):Int)*((r - s:Nat):Int))=(((r - s)*(r - s):Nat):Int):=by
   have:(r - s)*(r - s)≤5*5:=Nat.mul_le_mul (by omega) (by omega)
   rw[←Int.natCast_mul,wrap_i64 (by omega) (by omega)]
  have hpos:0<(stM r r s X).length:=by rw[lx];exact Nat.mul_pos (by omega) (by omega)
  have hel:∀i k,i<r - s→k<r - s→(stM r r s X).getD (i*(r - s)+k) 0=bmZ s (elz X r) i k:=fun i k hi hk=>st_el hi hk
  have hel2:∀i k,i<r - (s+1)→k<r - (s+1)→(stM r r (s+1) X).getD (i*(r - (s+1))+k) 0=bmZ (s+1) (elz X r) i k:=fun i k hi hk=>st_el hi hk
  have hst:∀i k,detZ (s+1) (elz X r)*bmZ s (elz X r) (i+1) (k+1) - bmZ s (elz X r) (i+1) 0*bmZ s (elz X r) 0 (k+1)=detZ s (elz X r)*bmZ (s+1) (elz X r) i k:=fun i k=>by rw[←bmZ_first];exact bmZ_step s _ i k
  have hR:r - s=r - (s+1)+1:=by omega
  have hR5:r - (s+1)<5:=by omega
  generalize stM r r s X=xs at*
  generalize hys:stM r r (s+1) X=ys at*
  generalize hnn:r - (s+1)=n at*
  generalize r - s=N at*
  have hrr:r=s+1+n:=by omega
  subst hR
  have z1:∀i k,i<n+1→k<n+1→zs (bmZ s (elz X r) i k)≤300000:=fun i k hi hk=>zst s i k (by omega) (by omega)
  have z2:∀i k,i<n→k<n→zs (bmZ (s+1) (elz X r) i k)≤300000:=fun i k hi hk=>zst (s+1) i k (by omega) (by omega)
  have z3:=zdt s (by omega)
  have z4:=zdt (s+1) (by omega)
  clear zst zdt
  generalize detZ s (elz X r)=D0 at*
  generalize hD1:detZ (s+1) (elz X r)=D1 at*
  generalize bmZ s (elz X r)=B0 at*
  generalize bmZ (s+1) (elz X r)=B1 at*
  (repeat((first|refine g_c (by assumption) ?_|refine tst_tt t2 ?_|refine g_o (op_loadA rfl (ev_ok rfl) (tgt rfl) rfl (Nat.succ_ne_zero _) rfl) ?_|rw[t1]|rw[t2]);conv=>whnf))
  refine SWx_then (fr1:= ?fr1) (hp1:= ?hp1) (fun K hK=>SWx_go hE ?ra1) ?rb1
  case ra1=>
   conv=>whnf
   (repeat((first|refine step_w1 rfl rfl ?_|refine g_o (op_pickF rfl (ev_ok rfl) (ev_ok rfl)) ?_|rw[bne_self_eq_false]|refine g_o (op_lenM rfl rfl rfl (ev_ok rfl) (tgt rfl) rfl) ?_|rw[w1]|rw[w2]|rw[w3]|rw[w4]|rw[lx]|rw[ly]|rw[Nat.zero_add]);conv=>whnf))
   exact hK
  conv=>whnf
  (repeat(first|(refine step_w2 rfl rfl ?_;conv=>whnf)))
  refine SWx_then (fr1:= ?fr2) (hp1:= ?hp2) (fun K hK=>SWx_go hE ?ra2) ?rb2
  case ra2=>
   conv=>whnf
   (repeat((first|refine g_o (op_loadA rfl (ev_ok rfl) (tgt rfl) rfl (Nat.succ_ne_zero _) rfl) ?_|refine g_o (op_indexN (α:=Int) (d:=0) rfl (ev_ok rfl) (ev_ok rfl) (tgt rfl) rfl (tgt rfl) rfl (by omega)) ?_|rw[h0]|rw[Nat.zero_add]);conv=>whnf))
   exact hK
  conv=>whnf
  skip
  refine SW_loopN hE (fun k=>k) [1,2,5,6,7,8,10,11] [5,6,8,10] (fun m' fr hp=>∃i:Nat,m'=n - i∧i≤n∧fr=[(1,iv r),(2,ptrA (wC r r X)),(5,.ptr 5 0 0 0),(6,.ptr 6 0 0 0),(7,iv s),(8,.ptr 8 0 0 0),(10,.ptr 10 0 0 0),(11,iv i)]∧
   hp=[(5,zIb D0),(6,⟨112,true,.one (wC (n+1:Nat) (n+1:Nat) xs)⟩),(8,⟨112,true,.one (wC n n ys)⟩),(10,zIb D1)]) n ?_ ?_ ?_
  ·kernel_rfl
  ·exact⟨0,rfl,Nat.zero_le _,rfl,rfl⟩
  rintro m' _ _ ⟨i,rfl,hi,rfl,rfl⟩
  conv=>whnf
  by_cases hin:i<n
  ·have t3:=dlt hin
   have t4:=winc (i:=i) (by omega)
   (repeat(first|(refine tst_tt t3 ?_;conv=>whnf)|(rw[t3];conv=>whnf)|(rw[Nat.zero_add];conv=>whnf)))
   refine SW_loopN hE (fun k=>k) [1,2,5,6,7,8,10,11,12] [5,6,8,10] (fun m' fr hp=>∃k:Nat,m'=n - k∧k≤n∧fr=[(1,iv r),(2,ptrA (wC r r X)),(5,.ptr 5 0 0 0),(6,.ptr 6 0 0 0),(7,iv s),(8,.ptr 8 0 0 0),(10,.ptr 10 0 0 0),(11,iv i),(12,iv k)]∧
    hp=[(5,zIb D0),(6,⟨112,true,.one (wC (n+1:Nat) (n+1:Nat) xs)⟩),(8,⟨112,true,.one (wC n n ys)⟩),(10,zIb D1)]) n ?_ ?_ ?_
   ·kernel_rfl
   ·exact⟨0,rfl,Nat.zero_le _,rfl,rfl⟩
   rintro m'' _ _ ⟨k,rfl,hk,rfl,rfl⟩
   conv=>whnf
   by_cases hkn:k<n
   ·have t5:=dlt hkn
    have t6:=winc (i:=k) (by omega)
    have e1:=hel (i+1) (k+1) (by omega) (by omega)
    have e2:=hel (i+1) 0 (by omega) (by omega)
    have e3:=hel 0 (k+1) (by omega) (by omega)
    have e4:=hel2 i k hin hkn
    rw[Nat.add_zero]at e2
    rw[Nat.zero_mul,Nat.zero_add]at e3
    rw[←Nat.add_assoc]at e1
    have m1:(i+1)*(n+1)≤5*6:=Nat.mul_le_mul (by omega) (by omega)
    have m2:i*n≤5*5:=Nat.mul_le_mul (by omega) (by omega)
    have b1:(i+1)*(n+1)+k+1<xs.length:=by rw[lx];have:=idx_lt (r:=n+1) (c:=n+1) (i:=i+1) (k:=k+1) (by omega) (by omega);omega
    have b2:(i+1)*(n+1)<xs.length:=by omega
    have b3:k+1<xs.length:=by rw[lx];have:=idx_lt (r:=n+1) (c:=n+1) (i:=0) (k:=k+1) (by omega) (by omega);omega
    have b4:i*n+k<ys.length:=by rw[ly];exact idx_lt hin hkn
    have v1:IntKind.i64.wrap (((i+1:Nat):Int)*((n+1:Nat):Int))=(((i+1)*(n+1):Nat):Int):=by rw[←Int.natCast_mul,wrap_i64 (by omega) (by omega)]
    have v2:IntKind.i64.wrap ((((i+1)*(n+1):Nat):Int)+(k:Int))=(((i+1)*(n+1)+k:Nat):Int):=by rw[wrap_i64 (by omega) (by omega)];omega
    have v3:IntKind.i64.wrap ((((i+1)*(n+1)+k:Nat):Int)+1)=(((i+1)*(n+1)+k+1:Nat):Int):=by rw[wrap_i64 (by omega) (by omega)];omega
    have v4:IntKind.i64.wrap ((i:Int)*(n:Int))=((i*n:Nat):Int):=by rw[←Int.natCast_mul,wrap_i64 (by omega) (by omega)]
    have v5:IntKind.i64.wrap (((i*n:Nat):Int)+(k:Int))=((i*n+k:Nat):Int):=by rw[wrap_i64 (by omega) (by omega)];omega
    have hkn2:n - (k+1)<n - k∧k+1≤n:=⟨by omega,hkn⟩
    have q1:=z1 (i+1) (k+1) (by omega) (by omega)
    have q2:=z1 (i+1) 0 (by omega) (by omega)
    have q3:=z1 0 (k+1) (by omega) (by omega)
    have q4:=z2 i k hin hkn
    have w5:(!decide (D1*B0 (i+1) (k+1) - B0 (i+1) 0*B0 0 (k+1)=D0*B1 i k))=false:=by rw[hst];simp
    generalize (i+1)*(n+1)=P1 at*
    generalize i*n=P2 at*
    generalize B0 (i+1) (k+1)=x1 at*
    generalize B0 (i+1) 0=x2 at*
    generalize B0 0 (k+1)=x3 at*
    generalize B1 i k=x4 at*
    have c1:=zz_Mul D1 x1 (by omega)
    have c2:=zz_Mul x2 x3 (by omega)
    have c3:=zz_Sub (D1*x1) (x2*x3) (by have:=zs_mul D1 x1;have:=zs_mul x2 x3;omega)
    have c4:=zz_Mul D0 x4 (by omega)
    clear hel hel2 hst z1 z2 z3 z4 q1 q2 q3 q4 k1 k2 m1 m2 lx ly w1 w2 w3 w4 t1 t2 t3 hpos h0 hX ha za hrr hnn hR5 hr hr1 hs hlt hi hk hin hkn
    (repeat(first|(refine tst_tt t5 ?_;conv=>whnf)|(rw[t5];conv=>whnf)|(rw[Nat.zero_add];conv=>whnf)))
    refine SWx_then (fr1:= ?fr3) (hp1:= ?hp3) (fun K hK=>SWx_go hE ?ra3) ?rb3
    case ra3=>
     conv=>whnf
     (repeat((first|refine step_i (by kernel_rfl) ?_|refine g_c (by assumption) ?_|refine g_o (op_loadA rfl (ev_ok rfl) (tgt rfl) rfl (Nat.succ_ne_zero _) rfl) ?_|refine g_o (op_indexM (α:=Int) (d:=0) rfl (ev_ok rfl) (ev_ok rfl) (tgt rfl) rfl (tgt rfl) rfl (by omega)) ?_|rw[t4]|rw[t6]|rw[v1]|rw[v2]|rw[v3]|rw[e1]|rw[e2]|rw[e3]|rw[Int.toNat_natCast]|rw[Nat.zero_add]);conv=>whnf))
     exact hK
    conv=>whnf
    skip
    refine SWx_then (fr1:= ?fr4) (hp1:= ?hp4) (fun K hK=>SWx_go hE ?ra4) ?rb4
    case ra4=>
     conv=>whnf
     (repeat((first|refine step_i (by kernel_rfl) ?_|refine g_c (by assumption) ?_|refine g_o (op_loadA rfl (ev_ok rfl) (tgt rfl) rfl (Nat.succ_ne_zero _) rfl) ?_|refine g_o (op_indexM (α:=Int) (d:=0) rfl (ev_ok rfl) (ev_ok rfl) (tgt rfl) rfl (tgt rfl) rfl (by omega)) ?_|refine⟨_,op_neAgg tabOK goodOK rfl (ev_ok rfl) (ev_ok rfl) rfl rfl rfl rfl (zq_same _ _) zq_guard, ?_⟩|rw[v4]|rw[v5]|rw[e4]|rw[w5]|rw[Int.toNat_natCast]|rw[Nat.zero_add]);conv=>whnf))
     exact hK
    conv=>whnf
    (repeat(first|(refine step_w2 rfl rfl ?_;conv=>whnf)|(rw[t6];conv=>whnf)))
    exact⟨n - (k+1),fun k=>k,[1,2,5,6,7,8,10,11,12],[5,6,8,10],hkn2.1,by kernel_rfl,k+1,rfl,hkn2.2,rfl,rfl⟩
   ·have t5:=dge hkn
    (repeat((first|refine tst_ff t5 ?_|rw[t4]|rw[t5]|rw[Nat.zero_add]);conv=>whnf))
    exact⟨n - (i+1),fun k=>k,[1,2,5,6,7,8,10,11],[5,6,8,10],by omega,by kernel_rfl,i+1,rfl,hin,rfl,rfl⟩
  ·have t3:=dge hin
   (repeat((first|refine tst_ff t3 ?_|rw[t1]|rw[t3]|rw[Nat.zero_add]);conv=>whnf))
   exact⟨r - (s+1),fun k=>k,[1,2,5,6,7],[5,6],by omega,by kernel_rfl,s+1,rfl,hlt,rfl,by rw[hD1,hys,hnn];rfl⟩
 ·have t2:=decide_eq_false (show ¬((s+1:Nat):Int)<(r:Int) by omega)
  (repeat(first|(refine tst_ff t2 ?_;conv=>whnf)|(rw[t1];conv=>whnf)));(first|exact Recast.refl _|exact Frz.recast (Recast.refl _) rfl|(refine Frz.one rfl rfl ?_;skip)|(refine Frz.tup ?_;skip))
end Go.Proofs.YtjknedoaofjnbaaGreatDoor
