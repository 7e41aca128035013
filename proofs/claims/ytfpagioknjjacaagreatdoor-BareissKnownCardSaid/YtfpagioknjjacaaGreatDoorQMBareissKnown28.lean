/- The texts Bb. -/
import Derived.Test.YtfpagioknjjacaaGreatDoorQMBareissKnown27
import Derived.Test.YtfpagioknjjacaaGreatDoorQMBareissKnown24
import Derived.Test.YtfpagioknjjacaaGreatDoorQMBareissKnown6
namespace Go.Proofs.YtfpagioknjjacaaGreatDoor
open Go.Sx
set_option linter.unusedSimpArgs false
set_option linter.unusedVariables false
set_option maxRecDepth 100000
set_option maxHeartbeats 40000000
theorem Pk {r c i k:Nat} {a:List Rat} (ha:a.length=r*c) (hi:i<r) (hk:k<c):el a c i k∈cj a c i:=by
 rw[←eK hk];exact fv (by rw[cE hi ha];exact hk)
theorem Bk {l:List Rat} {B:Nat} (h:Sm B l):sz (jN l)≤1+l.length*B:=by
 have:=AS h l.length (Nat.le_refl _)
 rwa [List.take_length]at this
theorem uC {r c i k:Nat} {a:List Rat} (ha:a.length=r*c) (hi:i<r) (hk:k<c):∃z:Int,el a c i k*(((jN (cj a c i):Nat):Int):Rat)=(z:Rat):=zm ((Bj (cj a c i) 1).2 _ (Pk ha hi hk))
theorem Mb {r c i k:Nat} {a:List Rat} (ha:a.length=r*c) (hi:i<r) (hk:k<c):((bl (xk r c a) c i k:Int):Rat)=(((jN (cj a c i):Nat):Int):Rat)*el a c i k:=by
 rw[cB hi hk]
 obtain⟨z,hz⟩:=uC ha hi hk
 show(((el a c i k*(((jN (cj a c i):Nat):Int):Rat)).num:Int):Rat)=_
 rw[hz,Rat.num_intCast,Rat.mul_comm,hz]
theorem Zy {r c:Nat} {a:List Rat} (ha:jq r c a) (sa:Sm 130 a) (hc:c≤6):Zm 920 (xk r c a):=kN fun i k hi hk=>by
 have h1:=mb sa ha.n hi hk
 have h2:=Bk (pR sa ha.n hi)
 rw[cE hi ha.n]at h2
 have h3:c*130≤6*130:=Nat.mul_le_mul_right 130 hc
 have h4:=oi ((jN (cj a c i):Nat):Int)
 have h5:zs ((jN (cj a c i):Nat):Int)=sz (jN (cj a c i))+1:=rfl
 have h6:=lK (el a c i k) (((jN (cj a c i):Nat):Int):Rat)
 have h7:=dq (el a c i k*(((jN (cj a c i):Nat):Int):Rat))
 show sz (el a c i k*(((jN (cj a c i):Nat):Int):Rat)).num.natAbs+1≤920
 unfold fs at h6 h4 h1
 omega
theorem Pm {k:Nat} {a:List Rat} (ha:a.length=k*k):((bo k (bl (xk k k a) k):Int):Rat)=dG k (fun i=>(((xG k k a).getD i 0:Nat):Int))*bH k (el a k):=by
 rw[bT,←Ma]
 refine aO fun i j hi hj=> ?_
 show((bl (xk k k a) k i j:Int):Rat)=_
 rw[Mb ha hi hj,nh a hi]
theorem Mc (a:MM) (n:Int) (ha:mOK a) (hn:0≤n∧n<256):ab Tryz.prog 46 [mQ a,fV .u8 n] [] (.val (.bool true)) [] []:=by
 have kw:=fO
 by_cases hl:a.2.2.length>40
 ·have t1:decide ((a.2.2.length:Int)>40)=true:=decide_eq_true aa
  refine bP [2] Tryz.func46 ?_
  intro W0 w0 ρ0 hE
  conv=>whnf
  (repeat((first|refine aS (by assumption) ?_|refine aE t1 ?_|refine ak cO ?_|refine ak Q6 ?_|refine ak Q9 ?_);conv=>whnf));exact Q5
 have t1:decide ((a.2.2.length:Int)>40)=false:=decide_eq_false aa
 have ks:=N6 a ha
 have km:=acx a ha
 have n6:=vc a.1
 have k6:=vc a.2.1
 generalize (a.1 % 7).toNat=r at*
 generalize (a.2.1 % 7).toNat=c at*
 have hX:=Cz a.2.2 (r:=r) (c:=c) aa aa
 have sX:=FK ha.2.2.2 (r*c)
 generalize lD a.2.2 (r*c)=X at*
 have kc:=oV hX sX aF (by have:=Nat.mul_le_mul_right 130 (show c+3≤9 by omega);omega)
 obtain⟨e1,e2⟩:=pU n hn 6 aF
 have hk5:(n % 6).toNat≤5:=aa
 generalize (n % 6).toNat=k at*
 have ky:=Kd a ha (r:=k) (c:=k) aa aa
 have hY:=Cz a.2.2 (r:=k) (c:=k) aa aa
 have sY:=FK ha.2.2.2 (k*k)
 generalize lD a.2.2 (k*k)=Y at*
 have kcy:=oV hY sY aF (by have:=Nat.mul_le_mul_right 130 (show k+3≤8 by omega);omega)
 have zZ:=Zy hY sY aa
 have okZ:gu k k (xk k k Y):=gu.mk' aa aa _
 have kd:=rn okZ zZ aF aF aa (by have:4^k≤1024:=Nat.pow_le_pow_right (n:=4) aF hk5;omega)
 have kdy:=LK hY aa sY aF aF
 have zD:=xz (n:=k) (B:=920) (A:=bl (xk k k Y) k) hk5 aF fun i j hi hj=>bX zZ okZ.n hi hj
 have kfr:=nk (bo k (bl (xk k k Y) k)) aa
 rw[Pm hY.n]at kfr
 have dsz:=Zx hY aa sY aF
 have lbX:=AT r c X
 have lbY:=AT k k Y
 have nbY:∀i,i<k→sz ((xG k k Y).getD i 0)≤700:=fun i hi=>by
  rw[nh Y hi]
  have:=Bk (pR sY hY.n hi)
  rw[cE hi hY.n]at this
  have:=Nat.mul_le_mul_right 130 hk5
  omega
 have nbX:∀i,i<r→sz ((xG r c X).getD i 0)≤800∧0<(xG r c X).getD i 0:=fun i hi=>by
  rw[nh X hi]
  have h1:=Bk (pR sX hX.n hi)
  rw[cE hi hX.n]at h1
  have:=Nat.mul_le_mul_right 130 k6
  exact⟨aa,AR _ 1 aF⟩
 have hwh:∀i j,i<r→j<c→(X.getD (i*c+j) 0*((((xG r c X).getD i 0:Nat):Int):Rat)).den=1∧(X.getD (i*c+j) 0*((((xG r c X).getD i 0:Nat):Int):Rat)).num=(xk r c X).getD (i*c+j) 0:=fun i j hi hj=>by
  rw[nh X hi]
  obtain⟨z,hz⟩:=uC hX.n hi hj
  refine⟨by rw[show X.getD (i*c+j) 0=el X c i j from rfl,hz];exact Rat.den_intCast z, ?_⟩
  exact(cB (r:=r) (c:=c) (f:=fun i k=>(el X c i k*(jN (cj X c i):Rat)).num) hi hj).symm
 have hg1:∀i G,i<r→G ∣ (xG r c X).getD i 0→(∀j,j<c→G ∣ ((xk r c X).getD (i*c+j) 0).natAbs)→G=1:=fun i G hi h1 h2=>by
  refine HS (l:=cj X c i) (by rw[←nh X hi];exact h1) (fun x hx=> ?_) (by rw[←nh X hi];exact(nbX i hi).2)
  obtain⟨j,hj,rfl⟩:=List.getElem_of_mem hx
  rw[cE hi hX.n]at hj
  have h3:=h2 j hj
  rw[←(hwh i j hi hj).2,nh X hi]at h3
  have h4:(cj X c i)[j]=X.getD (i*c+j) 0:=by
   have:=eK (a:=X) (i:=i) hj
   rw[List.getD_eq_getElem?_getD,List.getElem?_eq_getElem (by rw[cE hi hX.n];exact hj)]at this
   exact this
  rw[h4];exact h3
 have hXl:=hX.n
 have lZ:(xk r c X).length=r*c:=cZ ..
 have vO:r*c≤6*6:=Nat.mul_le_mul n6 k6
 have w0:IntKind.i64.wrap ((r:Int)*(c:Int))=((r*c:Nat):Int):=(kJ (i:=r) (k:=0) (c:=c) aa aa aa).1
 have f1:((r:Int) != (r:Int))=false:=bne_self_eq_false _
 have f2:((c:Int) != (c:Int))=false:=bne_self_eq_false _
 have f3:(((xk r c X).length:Int) != ((r*c:Nat):Int))=false:=by rw[lZ];exact bne_self_eq_false _
 have f4:(((xG r c X).length:Int) != (r:Int))=false:=by rw[lbX];exact bne_self_eq_false _
 have sXe:∀p,p<r*c→fs (X.getD p 0)≤130:=fun p hp=>sX p aa
 clear zD zZ okZ sY hY sX
 generalize xk r c X=Z at*
 generalize xG r c X=N at*
 generalize xk k k Y=ZY at*
 generalize xG k k Y=NY at*
 generalize bH k (el Y k)=D at*
 generalize bo k (bl ZY k)=DZ at*
 refine bP [2] Tryz.func46 ?_
 intro W0 w0' ρ0 hE
 conv=>whnf
 (repeat((first|refine ag rfl rfl ?_|refine aS (by assumption) ?_|refine ak jo ?_|rw[bne_self_eq_false]|refine aM t1 ?_|refine aM f4 ?_|refine ak cO ?_|refine ak Q6 ?_|refine ak Q9 ?_|rw[t1]|rw[w0]|rw[f3]|rw[f4]|rw[Nat.zero_add]);conv=>whnf))
 refine ai hE (fun k=>k) [1,2,5,6,7,8,9,11] [7,8] (fun M fr hp=>∃i:Nat,M=r - i∧i≤r∧
  fr=[(1,fV .u8 n),(2,bG [fV .u8 a.1,fV .u8 a.2.1,cT 2 qA a.2.2]),(5,iv r),(6,iv c),(7,.ptr 7 0 0 0),(8,.ptr 8 0 0 0),(9,Hv N),(11,iv i)]∧hp=[(7,⟨38,true,.one (mC r c X)⟩),(8,⟨207,true,.one (wC r c Z)⟩)]) r ?_ ?_ ?_
 ·kernel_rfl
 ·exact⟨0,rfl,Nat.zero_le _,rfl,rfl⟩
 rintro M _ _ ⟨i,rfl,hi,rfl,rfl⟩
 conv=>whnf
 by_cases aA:i<r
 ·have t2:=dX aA
  have t3:=bA (i:=i) aa
  obtain⟨nb1,nb2⟩:=nbX i aA
  have hiN:i<N.length:=aa
  have hw:=fun j hj=>hwh i j aA hj
  have hg:=fun G=>hg1 i G aA
  clear hwh hg1 nbX nbY kd kdy kfr kcy ky ks km kc kw
  (repeat((first|refine aE t2 ?_|refine ak Q6 ?_|refine ak Q25 ?_|rw[t2]);conv=>whnf))
  refine ai hE (fun k=>k) [1,2,5,6,7,8,9,11,12,13] [7,8,12] (fun M fr hp=>∃(j G:Nat),M=c - j∧j≤c∧G ∣ N.getD i 0∧(∀q,q<j→G ∣ (Z.getD (i*c+q) 0).natAbs)∧
   fr=[(1,fV .u8 n),(2,bG [fV .u8 a.1,fV .u8 a.2.1,cT 2 qA a.2.2]),(5,iv r),(6,iv c),(7,.ptr 7 0 0 0),(8,.ptr 8 0 0 0),(9,Hv N),(11,iv i),(12,.ptr 12 0 0 0),(13,iv j)]∧hp=[(7,⟨38,true,.one (mC r c X)⟩),(8,⟨207,true,.one (wC r c Z)⟩),(12,⟨46,true,.one [.nat G]⟩)]) c ?_ ?_ ?_
  ·kernel_rfl
  ·exact⟨0,N.getD i 0,rfl,Nat.zero_le _,Nat.dvd_refl _,(fun q hq=>absurd hq (Nat.not_lt_zero q)),rfl,rfl⟩
  rintro M _ _ ⟨j,G,rfl,hj,hG,hGz,rfl,rfl⟩
  conv=>whnf
  have hGs:sz G≤800:=Nat.le_trans (dQ (Nat.le_of_dvd nb2 hG)) nb1
  by_cases H2:j<c
  ·have t4:=dX H2
   have t5:=bA (i:=j) aa
   obtain⟨w1,w2⟩:=kJ (i:=i) (k:=j) (c:=c) aa aa aa
   have hix:=dN aA H2
   have b1:i*c+j<X.length:=aa
   have b2:i*c+j<Z.length:=aa
   obtain⟨h1,h2⟩:=hw j H2
   have hx:=sXe (i*c+j) hix
   have E7:zs ((N.getD i 0:Nat):Int)=sz (N.getD i 0)+1:=rfl
   have iz:=oi ((N.getD i 0:Nat):Int)
   have k1:ab Tryz.prog 177 [.val (.bool false),.nat (N.getD i 0)] [] (.int ((N.getD i 0:Nat):Int)) [] []:=eT false (N.getD i 0)
   have k2:=nk ((N.getD i 0:Nat):Int) aa
   have k3:=Cl (X.getD (i*c+j) 0) (((N.getD i 0:Nat):Int):Rat) aa
   have k4:=mR (X.getD (i*c+j) 0*(((N.getD i 0:Nat):Int):Rat))
   rw[decide_eq_true h1]at k4
   have k5:=Jl (X.getD (i*c+j) 0*(((N.getD i 0:Nat):Int):Rat))
   rw[h2]at k5
   have hzs:sz (Z.getD (i*c+j) 0).natAbs≤1000:=by
    have g1:=dq (X.getD (i*c+j) 0*(((N.getD i 0:Nat):Int):Rat))
    have g2:=lK (X.getD (i*c+j) 0) (((N.getD i 0:Nat):Int):Rat)
    rw[h2]at g1
    unfold fs at g2 hx iz
    omega
   have k6:=ug (Z.getD (i*c+j) 0)
   have k7:=er.gcd G (Z.getD (i*c+j) 0).natAbs aa aa
   have t6:(!decide (Z.getD (i*c+j) 0=Z.getD (i*c+j) 0))=false:=by rw[decide_eq_true rfl];rfl
   have hG1:Nat.gcd G (Z.getD (i*c+j) 0).natAbs ∣ N.getD i 0:=Nat.dvd_trans (Nat.gcd_dvd_left _ _) hG
   have hG2:∀q,q<j+1→Nat.gcd G (Z.getD (i*c+j) 0).natAbs ∣ (Z.getD (i*c+q) 0).natAbs:=fun q hq=>by
    by_cases e:q=j
    ·rw[e];exact Nat.gcd_dvd_right _ _
    ·exact Nat.dvd_trans (Nat.gcd_dvd_left _ _) (hGz q aa)
   clear hw hg hGz h1 h2 hx E7 iz
   (repeat((first|refine ag rfl rfl ?_|refine aw aB ?_|refine aS (by assumption) ?_|refine ak jo ?_|refine aE t4 ?_|refine aM t6 ?_|refine ak Q6 ?_|refine ak Q29 ?_|refine ak Nk ?_|refine ak Q25 ?_|refine⟨_,dK aL df rfl (aj rfl) (aj rfl) rfl rfl rfl rfl (fN _ _) et, ?_⟩|rw[t4]|rw[t5]|rw[w1]|rw[w2]|rw[t6]|rw[Int.toNat_natCast]|rw[Nat.zero_add]);conv=>whnf))
   exact⟨c - (j+1),fun k=>k,[1,2,5,6,7,8,9,11,12,13],[7,8,12],aa,aB,j+1,_,rfl,H2,hG1,hG2,rfl,rfl⟩
  ·have t4:=ez H2
   obtain rfl:j=c:=aa
   obtain rfl:=hg G hG hGz
   have k1:=nY 1 aF
   have t5:(!decide ((1:Nat)=1))=false:=rfl
   by_cases hc0:j=0
   ·have t6:((j:Int)==0)=true:=by rw[hc0];rfl
    have hN1:N.getD i 0=1:=hg _ (Nat.dvd_refl _) (fun q hq=>aa)
    have t7:(!decide (N.getD i 0=1))=false:=by rw[hN1];rfl
    clear hw hg hGz
    (repeat((first|refine ag rfl rfl ?_|refine af rfl rfl ?_|refine aw aB ?_|refine aS (by assumption) ?_|refine ak jJ ?_|refine ak jo ?_|refine aM t4 ?_|refine aE t6 ?_|refine aM t7 ?_|refine ak Q6 ?_|refine ak Q25 ?_|refine⟨_,dK aL df rfl (aj rfl) (aj rfl) rfl rfl rfl rfl (vg _ _) rq, ?_⟩|rw[t4]|rw[t5]|rw[t6]|rw[t7]|rw[t3]);conv=>whnf))
    exact⟨r - (i+1),fun k=>k,[1,2,5,6,7,8,9,11],[7,8],aa,aB,i+1,rfl,aA,rfl,rfl⟩
   ·have t6:((j:Int)==0)=false:=beq_eq_false_iff_ne.2 aa
    clear hw hg hGz
    (repeat((first|refine ag rfl rfl ?_|refine af rfl rfl ?_|refine aw aB ?_|refine aS (by assumption) ?_|refine ak jo ?_|refine aM t4 ?_|refine aM t6 ?_|refine⟨_,dK aL df rfl (aj rfl) (aj rfl) rfl rfl rfl rfl (vg _ _) rq, ?_⟩|rw[t4]|rw[t5]|rw[t6]|rw[t3]);conv=>whnf))
    exact⟨r - (i+1),fun k=>k,[1,2,5,6,7,8,9,11],[7,8],aa,aB,i+1,rfl,aA,rfl,rfl⟩
 ·have t2:=ez aA
  clear hwh hg1 nbX ks km kc
  (repeat((first|refine bN Q3 ?_|refine aS (by assumption) ?_|refine aM t2 ?_|refine ak Q6 ?_|rw[t2]|rw[e2]);conv=>whnf))
  refine ai hE (fun k=>k) [18,19,20,21,22,23,24] [20,22] (fun M fr hp=>∃q:Nat,M=k - q∧q≤k∧fs (dG q (fun i=>((NY.getD i 0:Nat):Int))*D)≤600000+q*1000∧
   fr=[(18,Hv NY),(19,iv 0),(20,.ptr 20 0 0 0),(21,iv 0),(22,.ptr 22 0 0 0),(23,iv 0),(24,iv q)]∧hp=[(20,⟨50,true,.one [.int DZ]⟩),(22,⟨52,true,.one [.frac (dG q (fun i=>((NY.getD i 0:Nat):Int))*D)]⟩)]) k ?_ ?_ ?_
  ·kernel_rfl
  ·have e0:dG 0 (fun i=>((NY.getD i 0:Nat):Int))*D=D:=by rw[dG];grind
   exact⟨0,rfl,Nat.zero_le _,by rw[e0];omega,rfl,by rw[e0];rfl⟩
  rintro M _ _ ⟨q,rfl,hq,hW,rfl,rfl⟩
  conv=>whnf
  by_cases hqk:q<k
  ·have t3:=dX (show q<NY.length by omega)
   have t4:=bA (i:=q) aa
   have hb:=nbY q hqk
   have E7:zs ((NY.getD q 0:Nat):Int)=sz (NY.getD q 0)+1:=rfl
   have iz:=oi ((NY.getD q 0:Nat):Int)
   have k1:ab Tryz.prog 177 [.val (.bool false),.nat (NY.getD q 0)] [] (.int ((NY.getD q 0:Nat):Int)) [] []:=eT false (NY.getD q 0)
   have k2:=nk ((NY.getD q 0:Nat):Int) aa
   have hs:dG (q+1) (fun i=>((NY.getD i 0:Nat):Int))*D=(dG q (fun i=>((NY.getD i 0:Nat):Int))*D)*(((NY.getD q 0:Nat):Int):Rat):=by rw[dG];grind
   have hq5:q*1000≤5*1000:=Nat.mul_le_mul_right 1000 aa
   generalize dG q (fun i=>((NY.getD i 0:Nat):Int))*D=V at*
   have k3:=Cl V (((NY.getD q 0:Nat):Int):Rat) aa
   have g3:=lK V (((NY.getD q 0:Nat):Int):Rat)
   have Ny:q<NY.length:=aa
   clear kd kdy kfr kcy ky nbY kw
   (repeat((first|refine aw aB ?_|refine aS (by assumption) ?_|refine aE t3 ?_|refine ak cO ?_|refine ak Q6 ?_|refine ak Q25 ?_|rw[t3]|rw[t4]);conv=>whnf))
   exact⟨k - (q+1),fun k=>k,[18,19,20,21,22,23,24],[20,22],aa,aB,q+1,rfl,hqk,by rw[hs,Nat.succ_mul];omega,rfl,by rw[hs];rfl⟩
  ·have t3:=ez (show ¬q<NY.length by omega)
   obtain rfl:q=k:=aa
   (repeat((first|refine ag rfl rfl ?_|refine aw aB ?_|refine aS (by assumption) ?_|refine ak jJ ?_|rw[beq_self_eq_true]|refine aM t3 ?_|refine ak cO ?_|refine⟨_,eJ aL df rfl (aj rfl) (aj rfl) rfl rfl rfl rfl (acy (rfl)) uV, ?_⟩);conv=>whnf));exact Q5
theorem sQ (a0:MM) (a1:Int) (w0:MWf a0) (w1:(Lit.int .u8 a1).wf=true):
  ab Tryz.prog 46 [mQ a0,fV .u8 a1] [] (.val (.bool true)) [] []:=Mc a0 a1 (Y3 w0) (wf_u8 w1)
end Go.Proofs.YtfpagioknjjacaaGreatDoor
