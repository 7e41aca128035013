/- The texts Xs. -/
import Derived.Test.YtadphegfhgmgmaaGreatDoorQMModesKnown32
set_option linter.unusedSimpArgs false
set_option linter.unusedVariables false
set_option maxHeartbeats 40000000
set_option maxRecDepth 100000
open Go.IntKind renaming i64->ε
open List renaming mem_cons_self->η,replicate->θ,take_of_length_le->ϛ
open Nat renaming le_refl->ζ,zero_add->υ,zero_le->Γ
namespace Go.Sx
theorem It {α:Type} {E:Env} (t k:Nat) {c:Code} {K:bF} {fr:List (Nat×SV)} {hp:List (Nat×aC)} {ty:TypeId} {w n:Nat} {f:α->SV} {l:List α} (hW:∀b,¬E.W0 b) (hf:∀x,bI (f x)=true) (ht:lk fr t=some (.aM k w 0 n)) (hk:find hp k=some ⟨ty,true,.seq w (l.map f)⟩)
  (hn:n<=l.length) (hs:dY E c K ((t,bN w f (l.take n))::fr) (fi hp k ⟨ty,true,.dead⟩)):dY E c K fr hp:=by
 refine jP t k (xs:=l.map f) hW ht hk rfl rfl (bO hf l) (by simp;omega) ?_;have e:ik (l.map f) 0 (0+n)=(l.take n).map f:=by rw[ik,List.drop_zero,υ,Nat.sub_zero,List.map_take]
 rw[e];exact hs
end Go.Sx
namespace Go.Proofs.YtadphegfhgmgmaaGreatDoor
open Go.Sx
theorem Kp {p:List Rat} {c:Rat} {S A:Nat} (hp:Sm S p) (hc:fs c<=A) (hA:2<=A):∀k,k<=p.length->Sm (Ua (S+2*A+2) k) (nx p c k)
 |0,_=>λj _=>by rw[nx,ke,et];exact ζ _
 |k+1,h=>λj hj=>by
  have ih:=Ko (Kp hp hc hA k aa) hc (show fs (1:Rat)<=A by rw[jv];exact hA);have hl:(Kl (nx p c k) c 1).length=p.length+1:=by rw[kJ,n0]
  rw[n0]at hj;rw[nx,fI,Ua];split
  ·rw[sO,if_pos aa];have g1:=ih 0 aa;have g2:=hp (p.length - 1 - k) aa;have g3:=fW ((Kl (nx p c k) c 1).getD 0 0) (p.getD (p.length - 1 - k) 0);omega
  ·rw[sO,if_pos hj];have g1:=ih j aa;omega
theorem NX (l:List Rat):∀(ρ:bY) z,aw (cW ρ.aW ρ.cA) (l.map fF) z->(∀x∈l.map fF,x.width=3)->Go.Sx.Rows ρ 3 (.seq 3 (l.map fF)) z:=λ_ _ h k=>⟨rfl,h,k⟩
theorem Iu {p:List Rat} {c:Rat} {n S A:Nat} (hn:p.length=n+1) (hl:n<=8) (hp:Sm S p) (hc:fs c<=A) (hA:2<=A) (h:Ua (S+2*A+2) (n+1)<=1700000000):C0 77 [nC p,fF c] (nC (nx p c (n+1))):=by
 have t0:ε.wrap ((p.length:Int) - 1)=(n:Int):=by rw[wrap_i64 aa aa];omega
 have lS:=n0 p c;have sS:=Kp hp hc hA;have k1:C0 70 [.val (.int .i64 1)] (fF 1):=pZ 1 ax ax;refine kg [3,100006] Tryz.func77 ?_;intro w0 ρ0 hE;conv=>whnf
 (repeat((first|refine ao Q3 ?_|refine an Q8 ?_|rw[t0]|rw[Int.toNat_natCast]);conv=>whnf))
 refine qk 10 ((θ p.length (0:Rat)).map fF) rfl (FE _) (λx hx=>by rw[List.map_replicate]at hx;rw[(List.mem_replicate.1 hx).2];rfl) (λh=>by rw[hn]at h;cases h) ?_
 refine cG hE (dA [(10,2001)]) [0,3,5,6] [10] (λm fr hp=>∃(k:Nat) (L:List Rat),m=n+1 - k/\k<=n+1/\n+1<=L.length/\L.take (n+1)=nx p c k/\fr=[(0,nC p),(3,b9 [zZ c.num,nN (c.den - 1)]),(5,.aM 2001 3 0 p.length),(6,.val (.int .i64 ((n:Int) - k)))]/\
  hp=[(2001,iA L)]) (n+1) ?_ ?_ ?_
 ·kernel_rfl
 ·refine⟨0,θ p.length 0,rfl,Γ _,by simp;omega, ?_,by rw[show(n:Int) - ((0:Nat):Int)=(n:Int) by omega];rfl,rfl⟩;rw[nx,ϛ (by simp;omega)]
 rintro m _ _ ⟨k,L,rfl,hk,hL1,hL2,rfl,rfl⟩;refine It 5 2001 (λ_ h=>h) (λ_=>rfl) rfl rfl aa ?_;rw[hn,hL2];by_cases aE:k<n+1
 ·obtain⟨i,hi⟩:∃i:Nat,i=n - k:=⟨_,rfl⟩;have ei:(n:Int) - (k:Int)=(i:Int):=aa;rw[ei];have t1:decide ((i:Int)>=0)=true:=decide_eq_true aa;have e1:ε.wrap ((i:Int) - 1)=(n:Int) - ((k+1:Nat):Int):=by rw[wrap_i64 aa aa];omega
  have hm:=Is (S+2*A+2) (show k+1<=n+1 by omega);have hmk:Ua (S+2*A+2) (k+1)=2*Ua (S+2*A+2) k+(S+2*A+2):=rfl;have k2:=DJ (a:=c) (b:=1) (by rw[lS];omega) (sS k aa) hc (show fs (1:Rat)<=A by rw[jv];exact hA) aa;have sT:=Ko (sS k aa) hc (show fs (1:Rat)<=A by rw[jv];exact hA);have lT:(Kl (nx p c k) c 1).length=n+2:=by rw[kJ,n0];omega
  have nv:nx p c (k+1)=((Kl (nx p c k) c 1).take p.length).set 0 (((Kl (nx p c k) c 1).take p.length).getD 0 0+p.getD (p.length - 1 - k) 0):=rfl;rw[sO,if_pos aa,show p.length - 1 - k=i by omega]at nv;generalize Kl (nx p c k) c 1=T at*;have g1:=sT 0 aa;have g2:=hp i aa;have k3:=sH (T.getD 0 0) (p.getD i 0) aa;have e2:(T.map fF).getD ((0:Int).toNat+(0:Int).toNat) .any=fF (T.getD 0 0):=XH (l:=T) (i:=0) aa;have lTm:(T.map fF).length=n+2:=by rw[List.length_map];exact lT
  have Xa:i<p.length:=aa;clear sS sT lS g1 g2 hm hmk;refine dY.of hE ?_;conv=>whnf
  (repeat(first|(refine ag rfl rfl ?_;conv=>whnf)|(rw[t1];conv=>whnf)))
  refine dD (t:=7) (k:=2002) (s:=3) (blk:=iA []) rfl rfl rfl ?_;refine cv hE ?_;conv=>whnf
  (repeat(first|(refine aq aD ?_;conv=>whnf)|(refine aX Q3 ?_;conv=>whnf)|(refine ao Q3 ?_;conv=>whnf)|(refine aN aJ ?_;conv=>whnf)|(refine an Q8 ?_;conv=>whnf)|(refine an Ar ?_;conv=>whnf)|(refine an Q6 ?_;conv=>whnf)|(refine⟨.aM 23 3 0 (0+T.length),[(2002,iA [])],[(23,iA T)],[(2002,⟨69,true,.dead⟩)],pX rfl rfl rfl (ai rfl) (ai rfl) (NX T) (aH.get (t:=61) rfl) rfl (aH.get (t:=61) rfl) rfl (aH.get (t:=69) rfl) (η ..) rfl rfl (by simp[gu]) (by simp) (by simp[gu]) (by simp[vf];exact ϛ (by simp)) (by show(0+_)*Pf.bytes<=_;simp only[aed];omega) aa,eB rfl,eh rfl,eT (η ..) rfl rfl rfl, ?_⟩;conv=>whnf)|(refine pg rfl (ai rfl) (ai rfl) rfl (ez rfl) (congrArg (λc=>some (some _,[c])) e2) aa rfl (ζ _) rfl rfl ?_;conv=>whnf)|(rw[e1];conv=>whnf)|(rw[e2];conv=>whnf)|(rw[υ];conv=>whnf)))
  refine⟨n+1 - (k+1),dA [(23,2001)],[0,3,5,6],[23],aa,aD,k+1,T.set 0 (T.getD 0 0+p.getD i 0),rfl,aE,by rw[List.length_set];omega, ?_, ?_, ?_⟩
  ·rw[nv,hn,List.take_set]
  ·rw[show((p.length:Int) - 0).toNat=n+1 by omega];rfl
  ·rw[iA,List.map_set];rfl
 ·obtain rfl:k=n+1:=aa;have t1:decide ((n:Int) - ((n+1:Nat):Int)>=0)=false:=decide_eq_false aa;refine dY.of hE ?_;conv=>whnf
  (repeat(first|(refine ae rfl rfl ?_;conv=>whnf)|(rw[t1];conv=>whnf)));exact Q4
theorem Ub (p:List Rat) (odd:Bool) (i:Nat) {S:Int} (hS:(if odd=true/\i % 2=1 then -(p.getD i 0).num.sign else(p.getD i 0).num.sign)=S):uw p odd (i+1)=((if ((S != 0)&&(((uw p odd i).2 != 0)&&(S != (uw p odd i).2)))=true then(uw p odd i).1+1 else(uw p odd i).1),(if (S != 0)=true then S else(uw p odd i).2)):=by
 rw[uw];simp only[hS,Bool.and_eq_true,bne_iff_ne]
theorem Uc (p:List Rat) (odd:Bool):∀i,(uw p odd i).1<=i
 |0=>ζ _
 |i+1=>by
  have:=Uc p odd i;have h2:∀(c:Prop) [Decidable c],(if c then(uw p odd i).1+1 else(uw p odd i).1)<=i+1:=λc _=>by split<;>omega
  rw[uw];exact h2 _
theorem XI (q:Rat): -1<=q.num.sign/\q.num.sign<=1:=by
 rcases Int.lt_trichotomy q.num 0 with h|h|h
 ·rw[Int.sign_eq_neg_one_of_neg h];decide
 ·rw[h];decide
 ·rw[Int.sign_eq_one_of_pos h];decide
theorem yv {p:List Rat} (odd:Bool) (hl:p.length<=100) (hp:∀i,i<p.length->fs (p.getD i 0)<=1000000000000):C0 79 [nC p,.val (.bool odd)] (.val (.int .i64 ((uw p odd p.length).1:Nat))):=by
 refine bB [] Tryz.func79 ?_;intro W0 w0 ρ0 hE;conv=>whnf
 skip
 refine av hE (λk=>k) [0,1,5,6,7] [] (λm fr hp=>∃i:Nat,m=p.length - i/\i<=p.length/\fr=[(0,nC p),(1,.val (.bool odd)),(5,.val (.int .i64 ((uw p odd i).1:Nat))),(6,.val (.int .i64 (uw p odd i).2)),(7,.val (.int .i64 (i:Nat)))]/\hp=[]) p.length ?_ ?_ ?_
 ·kernel_rfl
 ·exact⟨0,rfl,Γ _,rfl,rfl⟩
 rintro m _ _ ⟨i,rfl,hi,rfl,rfl⟩;by_cases aE:i<p.length
 ·have t1:=gZ aE;have t2:=bW (i:=i) aa;have hN:=Uc p odd i;have k1:=zd (p.getD i 0) (by have:=(Hn (hp i aE)).1;omega);have hs:=XI (p.getD i 0);have Kq:=λS hS=>Ub p odd i (S:=S) hS
  obtain⟨⟨N,Z⟩,hNZ⟩:∃s,uw p odd i=s:=⟨_,rfl⟩;rw[hNZ]at Kq hN ⊢;have t3:=bW (i:=N) (by have:N<=i:=hN;omega);generalize hq:(p.getD i 0).num.sign=s0 at*;have w1:((i:Int).tmod 2==1)=decide (i % 2=1):=by
   rw[Int.tmod_eq_emod_of_nonneg aa];by_cases g:i % 2=1
   ·rw[decide_eq_true g];exact beq_iff_eq.2 aa
   ·rw[decide_eq_false g];exact beq_eq_false_iff_ne.2 aa
  have w2:ε.wrap (0 - s0)= -s0:=by rw[wrap_i64 aa aa];omega
  clear hp;cases odd with
  |false=>
   have hS:s0=s0:=rfl;have nv:=Kq s0 (if_neg λg=>by cases g.1);clear Kq;generalize s0=S at*;dsimp only at nv;obtain⟨b2,h2⟩:∃b,(S != 0)=b:=⟨_,rfl⟩;obtain⟨b3,h3⟩:∃b,(Z != 0)=b:=⟨_,rfl⟩;obtain⟨b4,h4⟩:∃b,(S != Z)=b:=⟨_,rfl⟩;rw[h2,h3,h4]at nv;clear hS;cases b2<;>cases b3<;>cases b4
   all_goals
    conv=>whnf
    (repeat((first|refine ag rfl rfl ?_|refine ae rfl rfl ?_|refine aN aJ ?_|refine an er ?_|refine an dZ ?_|refine an Q8 ?_|refine an Ar ?_|refine an Q6 ?_|rw[t1]|rw[h2]|rw[h3]|rw[h4]|rw[t3]|rw[t2]);conv=>whnf))
    refine⟨p.length - (i+1),λk=>k,[0,1,5,6,7],[],aa,aD,i+1,rfl,aE, ?_,rfl⟩;rw[nv];rfl
  |true=>
   by_cases g:i % 2=1
   ·have hS:s0=s0:=rfl;have nv:=Kq (-s0) (if_pos ⟨rfl,g⟩);rw[decide_eq_true g]at w1;clear Kq;generalize -s0=S at*;dsimp only at nv;obtain⟨b2,h2⟩:∃b,(S != 0)=b:=⟨_,rfl⟩;obtain⟨b3,h3⟩:∃b,(Z != 0)=b:=⟨_,rfl⟩;obtain⟨b4,h4⟩:∃b,(S != Z)=b:=⟨_,rfl⟩;rw[h2,h3,h4]at nv;clear hS;cases b2<;>cases b3<;>cases b4
    all_goals
     conv=>whnf
     (repeat((first|refine ag rfl rfl ?_|refine ae rfl rfl ?_|refine bn Q3 ?_|refine aN aJ ?_|refine an er ?_|refine an dZ ?_|refine an Q8 ?_|refine an Ar ?_|refine an Q6 ?_|rw[t1]|rw[w1]|rw[w2]|rw[h2]|rw[h3]|rw[h4]|rw[t3]|rw[t2]);conv=>whnf))
     refine⟨p.length - (i+1),λk=>k,[0,1,5,6,7],[],aa,aD,i+1,rfl,aE, ?_,rfl⟩;rw[nv];rfl
   ·have hS:s0=s0:=rfl;have nv:=Kq s0 (if_neg λx=>g x.2);rw[decide_eq_false g]at w1;clear Kq;generalize s0=S at*;dsimp only at nv;obtain⟨b2,h2⟩:∃b,(S != 0)=b:=⟨_,rfl⟩;obtain⟨b3,h3⟩:∃b,(Z != 0)=b:=⟨_,rfl⟩;obtain⟨b4,h4⟩:∃b,(S != Z)=b:=⟨_,rfl⟩;rw[h2,h3,h4]at nv;clear hS;cases b2<;>cases b3<;>cases b4
    all_goals
     conv=>whnf
     (repeat((first|refine ag rfl rfl ?_|refine ae rfl rfl ?_|refine bn Q3 ?_|refine aN aJ ?_|refine an er ?_|refine an dZ ?_|refine an Q8 ?_|refine an Ar ?_|refine an Q6 ?_|rw[t1]|rw[w1]|rw[h2]|rw[h3]|rw[h4]|rw[t3]|rw[t2]);conv=>whnf))
     refine⟨p.length - (i+1),λk=>k,[0,1,5,6,7],[],aa,aD,i+1,rfl,aE, ?_,rfl⟩;rw[nv];rfl
 ·have t1:=iH aE;obtain rfl:i=p.length:=aa;conv=>whnf
  (repeat(first|(refine ae rfl rfl ?_;conv=>whnf)|(refine an Q8 ?_;conv=>whnf)|(rw[t1];conv=>whnf)));exact Q4
