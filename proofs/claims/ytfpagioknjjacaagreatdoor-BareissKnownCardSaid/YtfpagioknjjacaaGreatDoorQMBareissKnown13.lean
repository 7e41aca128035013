/- The texts Ox. -/
import Derived.Test.YtfpagioknjjacaaGreatDoorQMBareissKnown10
import Derived.Test.YtfpagioknjjacaaGreatDoorQMBareissKnown12
namespace Go.Proofs.YtfpagioknjjacaaGreatDoor
open Go.Sx
set_option linter.unusedSimpArgs false
set_option linter.unusedVariables false
set_option maxRecDepth 100000
set_option maxHeartbeats 40000000
theorem Hz (a:WW) (sv n:Int) (ha:K8 a) (hs:0≤sv∧sv<256) (hn:0≤n∧n<256):ab Tryz.prog 42 [wQ a,fV .u8 sv,fV .u8 n] [] (.val (.bool true)) [] []:=by
 have kw:=fO
 have kf:=xm [a] (by simp) (by intro m hm;simp only[List.mem_cons,List.not_mem_nil,or_false]at hm;obtain rfl:=hm;exact ha.2.2.1)
 cases hF:[a].all fun m=>decide (m.2.2.length≤40)
 ·rw[hF]at kf
  refine bP [3,20] Tryz.func42 ?_
  intro W0 w0 ρ0 hE
  conv=>whnf
  (repeat(first|(refine ag rfl rfl ?_;conv=>whnf)|(refine aS (by assumption) ?_;conv=>whnf)|(refine ak Q6 ?_;conv=>whnf)));exact Q5
 rw[hF]at kf
 have k1:=CN a ha
 have hr:(a.1 % 6).toNat<6:=aa
 have hc:(a.2.1 % 6).toNat<6:=aa
 have hk:(n % 5).toNat<5:=aa
 have e1:IntKind.u8.wrap (n.tmod 5)=n.tmod 5:=by rw[Int.tmod_eq_emod_of_nonneg hn.1,wrap_u8 aa aa]
 have e2:IntKind.i64.wrap (n.tmod 5)=(((n % 5).toNat:Nat):Int):=by rw[Int.tmod_eq_emod_of_nonneg hn.1,wrap_i64 aa aa];omega
 have e3:IntKind.i64.wrap sv=sv:=wrap_i64 aa aa
 generalize (a.1 % 6).toNat=r at*
 generalize (a.2.1 % 6).toNat=c at*
 generalize (n % 5).toNat=k at*
 obtain⟨q,hq,hqr,hqc,hq6⟩:∃q:Nat,(if (c:Int)<(r:Int)then(c:Int)else(r:Int))=(q:Int)∧q≤r∧q≤c∧q≤5:=by
  by_cases h:c<r
  ·exact⟨c,if_pos aa,aa,aa,aa⟩
  ·exact⟨r,if_neg aa,aa,aa,aa⟩
 have e4:IntKind.i64.wrap ((q:Int)+1)=((q+1:Nat):Int):=bA aa
 obtain⟨s,Li,e5⟩:∃s:Nat,s≤q∧sv.tmod ((q+1:Nat):Int)=(s:Int):=by
  have h1:=Int.tmod_eq_emod_of_nonneg (b:=((q+1:Nat):Int)) hs.1
  have h2:=Int.emod_nonneg sv (show((q+1:Nat):Int)≠0 by omega)
  have h3:=Int.emod_lt_of_pos sv (show 0<((q+1:Nat):Int) by omega)
  exact⟨(sv % ((q+1:Nat):Int)).toNat,aa,aa⟩
 have e6:IntKind.i64.wrap (s:Int)=(s:Int):=wrap_i64 aa aa
 have Ze:s≤r:=aa
 have x8:s≤c:=aa
 have k2:=ru a ha (r:=r) (c:=c) aa aa
 have k3:=ru a ha (r:=k) (c:=k) aa aa
 have nC:=jO a.2.2 (r:=r) (c:=c) aa aa
 have zx:=ni ha.2.2.2 (r*c)
 have F9:=jO a.2.2 (r:=k) (c:=k) aa aa
 have zy:=ni ha.2.2.2 (k*k)
 have k4:=K9 a ha (r:=r) (c:=c) aa aa
 have k5:=K9 a ha (r:=k) (c:=k) aa aa
 generalize om a.2.2 (r*c)=X at*
 generalize om a.2.2 (k*k)=Y at*
 have hX:=nC.n
 have hY:=F9.n
 have sx:=c7 zx
 have sy:=c7 zy
 have k6:=oU nC zx aF aa (by have:=CO (k:=5) aF;have h:4^(s+1)≤4^6:=Nat.pow_le_pow_right aF aa;omega) Ze x8
 have k7:=ng F9 zy aF aF aa (CO aa)
 have k8:=rn F9 zy aF aF aa (CO aa)
 have k9:=OJ (s:=s) (by rw[c5,hX]) sx aF aa aa aa Ze x8
 rw[Lh hX Ze x8]at k9
 have OL:=EG (by rw[c5,hY]) sy aF aa
 rw[Zf hY]at OL
 have Q0:=AV (r:=k) (c:=k) (by rw[c5,hY]) sy aF (p:=dW k) (q:=dW k) (fun i hi=>by rw[bF]at hi;rw[ib hi];omega) (fun i hi=>by rw[bF]at hi;rw[ib hi];omega) (by rw[bF];omega) rfl
 rw[bF,Zg hY]at Q0
 have k12:=Lg (r:=r - s) (c:=c - s) (B:=300000) (a:=stM r c s X) (gu.mk' aa aa _) (kN fun i j hi hj=>iQ aa aF fun x y hx hy=>bX zx hX ZJ ZJ) aF
 have k13:=Lg (r:=k) (c:=k) (B:=300000) (a:=eP k k (po k (bl Y k))) (gu.mk' aa aa _) (kN fun i j hi hj=>ON aa aF (fun x y hx hy=>bX zy hY hx hy) hi hj) aF
 have zD:=iQ (n:=k) (B:=65) (A:=bl Y k) aa aF fun i j hi hj=>bX zy hY hi hj
 have fD:=oi (bo k (bl Y k))
 have ZS:=nk (bo k (bl Y k)) aa
 have k15:=OM ((bo k (bl Y k):Int):Rat) aa
 have w1:IntKind.i64.wrap ((c:Int) - (s:Int))=((c - s:Nat):Int):=by rw[wrap_i64 aa aa];omega
 have lu:=bF k
 clear zx zy sx sy nC F9 zD fD
 generalize stM r c s X=M at*
 generalize eP k k (po k (bl Y k))=A at*
 generalize bo k (bl Y k)=D at*
 refine gX [3,20,100014] Tryz.func42 ?_
 intro w0 ρ0 hE
 conv=>whnf
 (repeat((first|refine af rfl rfl ?_|refine bN Q3 ?_|refine aS (by assumption) ?_|refine ak Q6 ?_|rw[e3]|rw[hq]|rw[e4]|rw[e5]|rw[e2]);conv=>whnf))
 refine bR (t:=17) (k:=2002) (s:=1) (blk:=dH []) rfl rfl rfl ?_
 refine ai hE (fun k=>k) [3,6,7,8,9,10,11,12,13,14,15,16,17,18] [10,13,15,2002] (fun m fr hp=>∃i:Nat,m=k - i∧i≤k∧
  fr=[(3,bG [fV .u8 a.1,fV .u8 a.2.1,cF .i64 a.2.2]),(6,.val (.bool false)),(7,iv r),(8,iv c),(9,iv s),(10,.ptr 10 0 0 0),(11,iv 0),(12,iv k),(13,.ptr 13 0 0 0),(14,iv 0),(15,.ptr 15 0 0 0),(16,iv 0),(17,.aN 2002 1 0 i),(18,iv (i:Nat))]∧
  hp=[(10,⟨207,true,.one (wC (r - s:Nat) (c - s:Nat) M)⟩),(13,⟨207,true,.one (wC k k A)⟩),(15,⟨50,true,.one [.int D]⟩),(2002,dH (dW i))]) k ?_ ?_ ?_
 ·kernel_rfl
 ·exact⟨0,rfl,Nat.zero_le _,rfl,rfl⟩
 rintro m _ _ ⟨i,rfl,hi,rfl,rfl⟩
 conv=>whnf
 by_cases aA:i<k
 ·have lq:=bF i
  have t1:=dX aA
  have t2:=bA (i:=i) aa
  have e7:=mZ (l:=dW i) (x:=(i:Int))
  rw[lq,←ml]at e7
  clear k1 k2 k3 k4 k5 k6 k7 k8 k9 OL Q0 k12 k13 ZS k15 kw kf
  (repeat((first|refine ay Q3 ?_|refine aE t1 ?_|rw[t1]|rw[t2]);conv=>whnf))
  refine⟨k - (i+1),cx [(72,2002)],[3,6,7,8,9,10,11,12,13,14,15,16,17,18],[10,13,15,72],aa,aB,i+1,rfl,aA,rfl, ?_⟩
  rw[e7];rfl
 ·have t1:=ez aA
  obtain rfl:i=k:=aa
  (repeat(first|(refine aM t1 ?_;conv=>whnf)|(rw[t1];conv=>whnf)))
  refine oh 17 2002 (fun _ h=>h) rfl rfl lu.symm ?_
  refine dC hE ?_
  conv=>whnf
  (repeat((first|refine ag rfl rfl ?_|refine aw aB ?_|refine aS (by assumption) ?_|refine ak jJ ?_|rw[beq_self_eq_true]|refine ak Q6 ?_|rw[w1]);conv=>whnf));exact Q5
theorem rv (a0:WW) (a1 a2:Int) (w0:MB a0) (w1:(Lit.int .u8 a1).wf=true) (w2:(Lit.int .u8 a2).wf=true):
  ab Tryz.prog 42 [wQ a0,fV .u8 a1,fV .u8 a2] [] (.val (.bool true)) [] []:=Hz a0 a1 a2 (pW w0) (wf_u8 w1) (wf_u8 w2)
end Go.Proofs.YtfpagioknjjacaaGreatDoor
