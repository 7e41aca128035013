/- The texts Op. -/
import Derived.Test.YtfpagioknjjacaaGreatDoorQMBareissKnown10
namespace Go.Proofs.YtfpagioknjjacaaGreatDoor
open Go.Sx
set_option linter.unusedSimpArgs false
set_option linter.unusedVariables false
set_option maxRecDepth 100000
set_option maxHeartbeats 40000000
theorem Lc (f:Int→Int) (n:Nat):pZ ((dW (n+1)).map f)=pZ ((dW n).map f)*f n:=by
 rw[ml,List.map_append,pZ,List.foldl_append];rfl
theorem F7 (f:Int→Int):∀n,((pZ ((dW n).map f):Int):Rat)=dG n fun i=>((f i:Int):Rat)
 |0=>by simp[dW,pZ,dG]
 |n+1=>by rw[Lc,Rat.intCast_mul,F7 f n,dG]
theorem Hy (z:Int):Bd (z:Rat) ((z.natAbs:Int):Rat):=by
 constructor
 ·rw[←Rat.intCast_neg,Rat.intCast_le_intCast];omega
 ·rw[Rat.intCast_le_intCast];omega
theorem Ld (n:Nat) (a:List Int):((bo n (bl a n)).natAbs:Int)≤pZ ((dW n).map fun x=>jl a n x.toNat):=by
 have h:=yK n (A:=ra (bl a n)) (r:=fun i k=>(((bl a n i k).natAbs:Int):Rat)) fun i k=>Hy _
 have e:(dG n fun i=>aH n fun k=>(((bl a n i k).natAbs:Int):Rat))=((pZ ((dW n).map fun x=>jl a n x.toNat):Int):Rat):=by
  rw[F7]
  have:∀m,(dG m fun i=>aH n fun k=>(((bl a n i k).natAbs:Int):Rat))=dG m fun i=>((jl a n ((i:Int)).toNat:Int):Rat):=by
   intro m
   induction m with
   |zero=>rfl
   |succ m ih=>rw[dG,dG,ih,jl,oM];rfl
  exact this n
 rw[e,←bT]at h
 obtain⟨h1,h2⟩:=h
 rw[←Rat.intCast_neg,Rat.intCast_le_intCast]at h1
 rw[Rat.intCast_le_intCast]at h2
 omega
theorem F8 {r c B:Nat} {a:List Int} (ha:gu r c a) (za:Zm B a):Zm (1+(c+1)*B) ((dW r).map fun x=>jl a c x.toNat):=by
 intro p hp
 rw[List.length_map,bF]at hp
 rw[dV (d:=0) (by rw[bF];exact hp),ib hp]
 have:=nc (f:=fun k=>((bl a c p k).natAbs:Int)) (B:=B) c (fun j hj=>by rw[pV];exact bX za ha.n hp hj)
 exact Nat.le_trans this (Nat.add_le_add_left (Nat.mul_le_mul_right B (Nat.le_succ c)) 1)
theorem CO {k:Nat} (h:k<6):2*(65*4^k)≤1073741824:=by
 have:4^k≤4^6:=Nat.pow_le_pow_right aF aa
 omega
theorem Lf (a:WW) (n:Int) (ha:K8 a) (hn:0≤n∧n<256):ab Tryz.prog 47 [wQ a,fV .u8 n] [] (.val (.bool true)) [] []:=by
 have kw:=fO
 have kf:=xm [a] (by simp) (by intro m hm;simp only[List.mem_cons,List.not_mem_nil,or_false]at hm;obtain rfl:=hm;exact ha.2.2.1)
 cases hF:[a].all fun m=>decide (m.2.2.length≤40)
 ·rw[hF]at kf
  refine bP [2,21] Tryz.func47 ?_
  intro W0 w0 ρ0 hE
  conv=>whnf
  (repeat(first|(refine ag rfl rfl ?_;conv=>whnf)|(refine aS (by assumption) ?_;conv=>whnf)|(refine ak Q6 ?_;conv=>whnf)));exact Q5
 rw[hF]at kf
 have k1:=CN a ha
 have hr:(a.1 % 6).toNat<6:=aa
 have hc:(a.2.1 % 6).toNat<6:=aa
 have hk:(n % 6).toNat<6:=aa
 have e1:IntKind.u8.wrap (n.tmod 6)=n.tmod 6:=by rw[Int.tmod_eq_emod_of_nonneg hn.1,wrap_u8 aa aa]
 have e2:IntKind.i64.wrap (n.tmod 6)=(((n % 6).toNat:Nat):Int):=by rw[Int.tmod_eq_emod_of_nonneg hn.1,wrap_i64 aa aa];omega
 generalize (a.1 % 6).toNat=r at*
 generalize (a.2.1 % 6).toNat=c at*
 generalize (n % 6).toNat=k at*
 have k2:=ru a ha (r:=r) (c:=c) aa aa
 have k3:=ru a ha (r:=k) (c:=k) aa aa
 have nC:=jO a.2.2 (r:=r) (c:=c) aa aa
 have zx:=ni ha.2.2.2 (r*c)
 have F9:=jO a.2.2 (r:=k) (c:=k) aa aa
 have zy:=ni ha.2.2.2 (k*k)
 generalize om a.2.2 (r*c)=X at*
 generalize om a.2.2 (k*k)=Y at*
 have vO:(r+1)*(1+(c+1)*65)≤6*(1+6*65):=Nat.mul_le_mul aa (Nat.add_le_add_left (Nat.mul_le_mul_right 65 aa) 1)
 have hkc:(k+1)*(1+(k+1)*65)≤6*(1+6*65):=Nat.mul_le_mul aa (Nat.add_le_add_left (Nat.mul_le_mul_right 65 aa) 1)
 have k4:=ve nC zx aF aa
 have k5:=ve F9 zy aF aa
 have k6:=rn F9 zy aF aF aa (CO hk)
 have k7:=l7 1 aF aF
 have hb:=Ld k Y
 have k8:=ug (bo k (bl Y k))
 have k9:=ug (pZ ((dW k).map fun x=>jl Y k x.toNat))
 have OL:=jt (pZ ((dW k).map fun x=>jl Y k x.toNat))
 have hm:=F5 (F8 F9 zy) k (by rw[List.length_map,bF];exact Nat.le_refl _)
 rw[List.take_of_length_le (by rw[List.length_map,bF];exact Nat.le_refl _)]at hm
 have aeW:k*(1+(k+1)*65)≤6*(1+6*65):=Nat.mul_le_mul aa (Nat.add_le_add_left (Nat.mul_le_mul_right 65 aa) 1)
 generalize (pZ ((dW k).map fun x=>jl Y k x.toNat))=M at*
 generalize bo k (bl Y k)=D at*
 have hD:=dQ (show D.natAbs≤M.natAbs by omega)
 unfold zs at hm
 have Q0:=er.cmp D.natAbs M.natAbs aa aa
 have t8:decide (((D.natAbs:Int) - (M.natAbs:Int)).sign≤0)=true:=decide_eq_true (by
  rcases Int.lt_trichotomy ((D.natAbs:Int) - (M.natAbs:Int)) 0 with g|g|g
  ·rw[Int.sign_eq_neg_one_of_neg g];decide
  ·rw[g];decide
  ·omega)
 have t9:decide (M.sign≥0)=true:=decide_eq_true (by
  rcases Int.lt_trichotomy M 0 with g|g|g
  ·omega
  ·rw[g];decide
  ·rw[Int.sign_eq_one_of_pos g];decide)
 clear hD hkc aeW hm hb
 have hlX:=nC.n
 have zR:=F8 nC zx
 have hm1:=F5 zR
 rw[List.length_map,bF]at hm1
 have hrB:∀i,i≤r→i*(1+(c+1)*65)≤6*(1+6*65):=fun i hi=>Nat.mul_le_mul aa (Nat.add_le_add_left (Nat.mul_le_mul_right 65 aa) 1)
 have Bq:∀i,i≤r→((dW r).map fun x=>jl X c x.toNat).take i=(dW i).map fun x=>jl X c x.toNat:=fun i hi=>by
  rw[←List.map_take]
  congr 1
  refine rl (n:=i) (by rw[List.length_take,bF];omega) (bF i) fun p hp=> ?_
  rw[List.getD_eq_getElem?_getD,List.getElem?_take,if_pos hp,←List.getD_eq_getElem?_getD,ib aa,ib hp]
 refine bP [2,21] Tryz.func47 ?_
 intro W0 w0 ρ0 hE
 conv=>whnf
 (repeat(first|(refine af rfl rfl ?_;conv=>whnf)|(refine aS (by assumption) ?_;conv=>whnf)|(refine ak Q6 ?_;conv=>whnf)))
 refine ai hE (fun k=>k) [1,2,4,5,6,7,8,9,10,11] [7,8,10] (fun m fr hp=>∃i:Nat,m=r - i∧i≤r∧
  fr=[(1,fV .u8 n),(2,bG [fV .u8 a.1,fV .u8 a.2.1,cF .i64 a.2.2]),(4,.val (.bool false)),(5,iv r),(6,iv c),(7,.ptr 7 0 0 0),(8,.ptr 8 0 0 0),(9,iv 0),(10,.ptr 10 0 0 0),(11,iv (i:Nat))]∧
  hp=[(7,⟨207,true,.one (wC r c X)⟩),(8,⟨50,true,.one [.int (pZ ((dW r).map fun x=>jl X c x.toNat))]⟩),(10,⟨50,true,.one [.int (pZ ((dW i).map fun x=>jl X c x.toNat))]⟩)]) r ?_ ?_ ?_
 ·kernel_rfl
 ·exact⟨0,rfl,Nat.zero_le _,rfl,rfl⟩
 clear k1 k2 k4 k7 kf
 rintro m _ _ ⟨i,rfl,hi,rfl,rfl⟩
 conv=>whnf
 by_cases aA:i<r
 ·have t1:=dX aA
  have t2:=bA (i:=i) aa
  (repeat(first|(refine aE t1 ?_;conv=>whnf)|(rw[t1];conv=>whnf)))
  refine ai hE (fun k=>k) [1,2,4,5,6,7,8,9,10,11,12,13] [7,8,10,12] (fun m fr hp=>∃q:Nat,m=c - q∧q≤c∧
   fr=[(1,fV .u8 n),(2,bG [fV .u8 a.1,fV .u8 a.2.1,cF .i64 a.2.2]),(4,.val (.bool false)),(5,iv r),(6,iv c),(7,.ptr 7 0 0 0),(8,.ptr 8 0 0 0),(9,iv 0),(10,.ptr 10 0 0 0),(11,iv (i:Nat)),(12,.ptr 12 0 0 0),(13,iv (q:Nat))]∧
   hp=[(7,⟨207,true,.one (wC r c X)⟩),(8,⟨50,true,.one [.int (pZ ((dW r).map fun x=>jl X c x.toNat))]⟩),(10,⟨50,true,.one [.int (pZ ((dW i).map fun x=>jl X c x.toNat))]⟩),(12,⟨50,true,.one [.int (oe q fun k=>((bl X c i k).natAbs:Int))]⟩)]) c ?_ ?_ ?_
  ·kernel_rfl
  ·exact⟨0,rfl,Nat.zero_le _,rfl,rfl⟩
  clear k3 k5 k6 k8 k9 OL Q0 t8 t9 kw
  rintro m _ _ ⟨q,rfl,hq,rfl,rfl⟩
  conv=>whnf
  by_cases hlq:q<c
  ·have t3:=dX hlq
   have t4:=bA (i:=q) aa
   obtain⟨w1,w2⟩:=kJ (i:=i) (k:=q) (c:=c) aa aa aa
   have hx:=dN aA hlq
   rw[←hlX]at hx
   have h1:=nc (f:=fun k=>((bl X c i k).natAbs:Int)) (B:=65) q (fun j hj=>by rw[pV];exact bX zx hlX aA aa)
   have h2:=bX zx hlX aA hlq
   have k2:=ug (bl X c i q)
   have k3:=eT false (bl X c i q).natAbs
   rw[show signed false (bl X c i q).natAbs=((bl X c i q).natAbs:Int)from rfl]at k3
   have k4:=KJ (oe q fun k=>((bl X c i k).natAbs:Int)) ((bl X c i q).natAbs:Int) (by rw[pV];omega)
   clear Bq hrB hm1 h1 h2 vO
   (repeat((first|refine aw aB ?_|refine aS (by assumption) ?_|refine aE t3 ?_|refine ak Q6 ?_|refine ak Nk ?_|rw[t3]|rw[w1]|rw[w2]|rw[t4]|rw[Int.toNat_natCast]|rw[Nat.zero_add]);conv=>whnf))
   exact⟨c - (q+1),fun k=>k,[1,2,4,5,6,7,8,9,10,11,12,13],[7,8,10,12],aa,aB,q+1,rfl,hlq,rfl,rfl⟩
  ·have t3:=ez hlq
   obtain rfl:q=c:=aa
   have h1:=hm1 i hi
   rw[Bq i hi]at h1
   have h2:=hrB i hi
   have h3:=nc (f:=fun k=>((bl X q i k).natAbs:Int)) (B:=65) q (fun j hj=>by rw[pV];exact bX zx hlX aA hj)
   have k4:=nb (pZ ((dW i).map fun x=>jl X q x.toNat)) (jl X q i) (by unfold jl;unfold jl at h1;omega)
   have e3:=Lc (fun x=>jl X q x.toNat) i
   rw[show((i:Int)).toNat=i from Int.toNat_natCast i]at e3
   rw[←e3]at k4
   clear Bq hrB hm1 h1 h2 h3 vO
   (repeat((first|refine aS (by assumption) ?_|refine aM t3 ?_|rw[t3]|rw[t2]);conv=>whnf))
   exact⟨r - (i+1),fun k=>k,[1,2,4,5,6,7,8,9,10,11],[7,8,10],aa,aB,i+1,rfl,aA,rfl,rfl⟩
 ·have t1:=ez aA
  obtain rfl:i=r:=aa
  clear Bq hrB hm1 vO
  have q0:decide (pZ ((dW i).map fun x=>jl X c x.toNat)=pZ ((dW i).map fun x=>jl X c x.toNat))=true:=decide_eq_true rfl
  (repeat((first|refine ag rfl rfl ?_|refine aw aB ?_|refine bN Q3 ?_|refine aS (by assumption) ?_|refine ak jJ ?_|rw[beq_self_eq_true]|refine aM t1 ?_|refine aE t8 ?_|refine aE t9 ?_|refine aE q0 ?_|refine ak Q6 ?_|refine⟨_,eJ aL df rfl (aj rfl) (aj rfl) rfl rfl rfl rfl (fN _ _) et, ?_⟩|rw[t1]|rw[e2]|rw[t8]|rw[t9]|rw[q0]);conv=>whnf));exact Q5
theorem sD (a0:WW) (a1:Int) (w0:MB a0) (w1:(Lit.int .u8 a1).wf=true):
  ab Tryz.prog 47 [wQ a0,fV .u8 a1] [] (.val (.bool true)) [] []:=Lf a0 a1 (pW w0) (wf_u8 w1)
end Go.Proofs.YtfpagioknjjacaaGreatDoor
