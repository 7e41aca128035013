/- The texts Av. -/
import Derived.Test.YtadphegfhgmgmaaGreatDoorQMModesKnown27
import Derived.Test.YtadphegfhgmgmaaGreatDoorQMModesKnown30
set_option linter.unusedSimpArgs false
set_option linter.unusedVariables false
set_option maxHeartbeats 40000000
set_option maxRecDepth 100000
open Go.Lit renaming int->Ϸ
open Int renaming toNat_natCast->ι
open List renaming getD_eq_getElem?_getD->δ,getElem?_eq_none->Ϙ,replicate->θ
namespace Go.Proofs.YtadphegfhgmgmaaGreatDoor
open Go.Sx
theorem SI (n i:Nat):(θ n (0:Rat)).getD i 0=0:=by
 by_cases h:i<n
 ·exact ru h
 ·rw[δ,Ϙ (by simp;omega)];rfl
theorem SJ {l:List (Int×Int)} (hl:∀q∈l,my q) (n p:Nat): -(9223372036854775808:Rat)<=(eZ l n).getD p 0/\(eZ l n).getD p 0<=9223372036854775808:=by
 by_cases h:p<n
 ·rw[oZ h];exact Zq (oo hl p)
 ·rw[δ,Ϙ (by rw[gS];omega)];decide
theorem SK {n:Nat} {a:List Rat} (h:fZ n n a=a):SymM n a:=λi k hi hk=>by
 conv=>lhs;rw[<-h]
 exact Lp hi hk
theorem Xu {l:List (Int×Int)} (hl:l.length<=maxLen):∀x∈[l],x.length<=maxLen:=λx hx=>by
 simp only[List.mem_cons,List.not_mem_nil,or_false]at hx;obtain rfl:=hx;exact hl
theorem acx (l:List (Int×Int)) (r c n many k places:Int) (hl:Kb l) (hr:0<=r/\r<256) (hc:0<=c/\c<256) (hn:0<=n/\n<256) (hm:0<=many/\many<256):
  C0 11 [lQ l,gB .u8 r,gB .u8 c,gB .u8 n,gB .u8 many,iv k,iv places] (.val (.bool true)):=by
 have kw:=gX;have kf:=nY [l] (by simp) (Xu hl.1);cases hF:[l].all λl=>decide (l.length<=40)
 ·rw[hF]at kf;refine bB [35] Tryz.func11 ?_;intro W0 w0 ρ0 hE;conv=>whnf
  (repeat(first|(refine ag rfl rfl ?_;conv=>whnf)|(refine aN aJ ?_;conv=>whnf)));exact Q4
 rw[hF]at kf;obtain⟨e1,e2⟩:=jW r hr 5 ax;obtain⟨e3,e4⟩:=jW c hc 5 ax;obtain⟨e5,e6⟩:=jW n hn 5 ax;obtain⟨e7,e8⟩:=jW many hm 7 ax;have r4:(r % 5).toNat<=4:=aa;have c4:(c % 5).toNat<=4:=aa;have n4:(n % 5).toNat<=4:=aa;have m6:(many % 7).toNat<=6:=aa;generalize (r % 5).toNat=R at*;generalize (c % 5).toNat=C at*;generalize (n % 5).toNat=N at*;generalize (many % 7).toNat=M at*;have UH:(0:Int)<=0/\(0:Int)<256:=ax;have ks:=JN (0,0,l) ⟨UH,UH,hl.1,hl.2⟩ (r:=R) (c:=C) aa aa
 replace ks:C0 27 [mQ (0,0,l),iv R,iv C] (mA R C (eZ l (R*C))):=ks
 have kp:=Rt l hl.1 hl.2 (n:=N) aa;have hX:=Hi l (r:=R) (c:=C) aa aa;have sX:=EY hl.2 (R*C);have bX:=SJ hl.2 (R*C);have oP:=wy l N;have hP:fa N N (fH l N):=⟨aa,aa,eD ..⟩;have Xv:∀(a:List Rat),a.length=N*N->SymM N a->Sm 130 a->nk N 130 1304 a (fH l N):=λa h1 h2 h3=>⟨aa,h1,eD ..,h2,Ht l N,Hu l N,h3,LN hl.2 aa⟩
 generalize eZ l (R*C)=X at*;generalize fH l N=P at*;have c1:C0 35 [iv 1] (.frac 1):=dH 1 ax ax;have q0:decide ((0:Rat)=0)=true:=decide_eq_true rfl;have hM:(θ M (0:Rat)).length=M:=by simp
 have refuse:∀kk:C0 14 [mA R C X,mA N N P] (iv 1),True:=λ_=>trivial
 clear refuse;have w0':IntKind.i64.wrap ((0:Int)+0)=0:=ax;by_cases hS:R=C/\R=N
 ·obtain⟨rfl,rfl⟩:=hS;have t1:((R:Int) != (R:Int))=false:=bne_self_eq_false _;have kS:=rE hX;by_cases EL:fZ R R X=X
  ·rw[show qp R R R R X (fZ R R X)=true from Rk EL]at kS;have PN:=Xv X hX.n (SK EL) sX;obtain⟨e,he,h1,h0⟩:=NP PN bX oP;have ok:=PN.ok ax ax;have k1:=dL ok;have k2:=PN.count (T:=2) 1 (Nat.le_of_eq jv) ax ax;have k3:=sM ok (PN.reach ax ax aa h1 h0);have k4:=wI PN r4 ax ax;have hQ:∃qe:Int,C0 15 [mA R R X,mA R R P,bx (θ M 0)] (.bQ [.frac 0,iv qe])/\((M=R/\qe=5)\/(M≠R/\qe=1)):=by
    by_cases hMR:M=R
    ·exact⟨5,PN.Zs (D:=2) ax ax (hM.trans hMR) (EA _) ax ax (λi _=>SI M i),.inl ⟨hMR,rfl⟩⟩
    ·exact⟨1,Xt ok aa aa,.inr ⟨hMR,rfl⟩⟩
   obtain⟨qe,k5,hqe⟩:=hQ
   have hB:(∃low high:Rat,(0<=k/\k<R/\0<=places/\places<=100)/\C0 39 [mA R R X,mA R R P,iv k,iv places] (.bQ [.frac low,.frac high,iv 0]))\/((k<0\/(R:Int)<=k\/places<0)/\C0 39 [mA R R X,mA R R P,iv k,iv places] (.bQ [.frac 0,.frac 0,iv 1]))\/
     ((0<=k/\k<R/\100<places)/\C0 39 [mA R R X,mA R R P,iv k,iv places] (.bQ [.frac 0,.frac 0,iv 3])):=by
    by_cases g1:k<0\/(R:Int)<=k\/places<0
    ·exact .inr (.inl ⟨g1,Kh ok g1⟩)
    ·by_cases g2:100<places
     ·exact .inr (.inr ⟨⟨aa,aa,g2⟩,Ki ok aa aa g2⟩)
     ·obtain⟨K,rfl⟩:∃K:Nat,k=K:=⟨k.toNat,aa⟩;obtain⟨p,rfl⟩:∃p:Nat,places=p:=⟨places.toNat,aa⟩;obtain⟨R',low,_,_,kB,_⟩:=lE (k:=K) (places:=p) PN ax ax aa aa aa h1 h0;exact .inl ⟨low,_,⟨aa,aa,aa,aa⟩,kB⟩
   clear PN ok h1 h0 Xv oP bX sX hX hP EL hF hl;generalize aB R X P 1=F at*;generalize wH R X P=PL at*;generalize (2:Rat)^e=re at*;generalize fZ R R X=XT at*;rcases hqe with⟨hMR,rfl⟩|⟨hMR,rfl⟩
   ·have t5:(((θ M (0:Rat)).length:Int) != (R:Int))=false:=by rw[hM,hMR];exact bne_self_eq_false _
    rcases hB with⟨low,high,⟨g1,g2,g3,g4⟩,k6⟩|⟨g,k6⟩|⟨⟨g1,g2,g3⟩,k6⟩
    ·have t2:decide (k<0)=false:=decide_eq_false aa;have t3:decide (k>=(R:Int))=false:=decide_eq_false aa;have t4:decide (places<0)=false:=decide_eq_false aa;have t6:decide (places>100)=false:=decide_eq_false aa;refine kg [35,100006] Tryz.func11 ?_;intro w0 ρ0 hE;conv=>whnf
     (repeat((first|refine ae rfl rfl ?_|refine ao Q3 ?_|refine bn Q3 ?_|refine aN aJ ?_|rw[e2]|rw[e4]|rw[e6]|rw[e8]|rw[ι]);conv=>whnf))
     refine cu 17 56 (λ_ h=>h) rfl rfl (show M=(θ M (0:Rat)).length by simp) ?_;refine cv hE ?_;conv=>whnf
     (repeat((first|refine ag rfl rfl ?_|refine ae rfl rfl ?_|refine aq aD ?_|refine aN aJ ?_|refine an er ?_|refine an dZ ?_|rw[beq_self_eq_true]|rw[bne_self_eq_false]|refine aG t4 ?_|refine aG t6 ?_|refine aG t5 ?_|refine an Q8 ?_|refine⟨_,bV aH cd rfl (ai rfl) (ai rfl) rfl rfl rfl rfl (cQ _ _) b8, ?_⟩|rw[t2]|rw[t3]);conv=>whnf));exact Q4
    ·by_cases g1:k<0
     ·have t2:decide (k<0)=true:=decide_eq_true aa;refine kg [35,100006] Tryz.func11 ?_;intro w0 ρ0 hE;conv=>whnf
      (repeat((first|refine ae rfl rfl ?_|refine ao Q3 ?_|refine bn Q3 ?_|refine aN aJ ?_|rw[e2]|rw[e4]|rw[e6]|rw[e8]|rw[ι]);conv=>whnf))
      refine cu 17 56 (λ_ h=>h) rfl rfl (show M=(θ M (0:Rat)).length by simp) ?_;refine cv hE ?_;conv=>whnf
      (repeat((first|refine ag rfl rfl ?_|refine ae rfl rfl ?_|refine aq aD ?_|refine aN aJ ?_|refine an er ?_|refine an dZ ?_|rw[beq_self_eq_true]|rw[bne_self_eq_false]|refine aG t5 ?_|refine an Q8 ?_|refine⟨_,bV aH cd rfl (ai rfl) (ai rfl) rfl rfl rfl rfl (cQ _ _) b8, ?_⟩|rw[t2]);conv=>whnf));exact Q4
     ·have t2:decide (k<0)=false:=decide_eq_false aa;by_cases g2:(R:Int)<=k
      ·have t3:decide (k>=(R:Int))=true:=decide_eq_true aa;refine kg [35,100006] Tryz.func11 ?_;intro w0 ρ0 hE;conv=>whnf
       (repeat((first|refine ae rfl rfl ?_|refine ao Q3 ?_|refine bn Q3 ?_|refine aN aJ ?_|rw[e2]|rw[e4]|rw[e6]|rw[e8]|rw[ι]);conv=>whnf))
       refine cu 17 56 (λ_ h=>h) rfl rfl (show M=(θ M (0:Rat)).length by simp) ?_;refine cv hE ?_;conv=>whnf
       (repeat((first|refine ag rfl rfl ?_|refine ae rfl rfl ?_|refine aq aD ?_|refine aN aJ ?_|refine an er ?_|refine an dZ ?_|rw[beq_self_eq_true]|rw[bne_self_eq_false]|refine aG t5 ?_|refine an Q8 ?_|refine⟨_,bV aH cd rfl (ai rfl) (ai rfl) rfl rfl rfl rfl (cQ _ _) b8, ?_⟩|rw[t2]|rw[t3]);conv=>whnf));exact Q4
      ·have t3:decide (k>=(R:Int))=false:=decide_eq_false aa;have t4:decide (places<0)=true:=decide_eq_true aa;refine kg [35,100006] Tryz.func11 ?_;intro w0 ρ0 hE;conv=>whnf
       (repeat((first|refine ae rfl rfl ?_|refine ao Q3 ?_|refine bn Q3 ?_|refine aN aJ ?_|rw[e2]|rw[e4]|rw[e6]|rw[e8]|rw[ι]);conv=>whnf))
       refine cu 17 56 (λ_ h=>h) rfl rfl (show M=(θ M (0:Rat)).length by simp) ?_;refine cv hE ?_;conv=>whnf
       (repeat((first|refine ag rfl rfl ?_|refine ae rfl rfl ?_|refine aq aD ?_|refine aN aJ ?_|refine an er ?_|refine an dZ ?_|rw[beq_self_eq_true]|rw[bne_self_eq_false]|refine ay t4 ?_|refine aG t5 ?_|refine an Q8 ?_|refine⟨_,bV aH cd rfl (ai rfl) (ai rfl) rfl rfl rfl rfl (cQ _ _) b8, ?_⟩|rw[t2]|rw[t3]);conv=>whnf));exact Q4
    ·have t2:decide (k<0)=false:=decide_eq_false aa;have t3:decide (k>=(R:Int))=false:=decide_eq_false aa;have t4:decide (places<0)=false:=decide_eq_false aa;have t6:decide (places>100)=true:=decide_eq_true aa;refine kg [35,100006] Tryz.func11 ?_;intro w0 ρ0 hE;conv=>whnf
     (repeat((first|refine ae rfl rfl ?_|refine ao Q3 ?_|refine bn Q3 ?_|refine aN aJ ?_|rw[e2]|rw[e4]|rw[e6]|rw[e8]|rw[ι]);conv=>whnf))
     refine cu 17 56 (λ_ h=>h) rfl rfl (show M=(θ M (0:Rat)).length by simp) ?_;refine cv hE ?_;conv=>whnf
     (repeat((first|refine ag rfl rfl ?_|refine ae rfl rfl ?_|refine aq aD ?_|refine aN aJ ?_|refine an er ?_|refine an dZ ?_|rw[beq_self_eq_true]|rw[bne_self_eq_false]|refine aG t4 ?_|refine ay t6 ?_|refine aG t5 ?_|refine an Q8 ?_|refine⟨_,bV aH cd rfl (ai rfl) (ai rfl) rfl rfl rfl rfl (cQ _ _) b8, ?_⟩|rw[t2]|rw[t3]);conv=>whnf));exact Q4
   ·have t5:(((θ M (0:Rat)).length:Int) != (R:Int))=true:=by rw[hM];exact bne_iff_ne.2 aa
    rcases hB with⟨low,high,⟨g1,g2,g3,g4⟩,k6⟩|⟨g,k6⟩|⟨⟨g1,g2,g3⟩,k6⟩
    ·have t2:decide (k<0)=false:=decide_eq_false aa;have t3:decide (k>=(R:Int))=false:=decide_eq_false aa;have t4:decide (places<0)=false:=decide_eq_false aa;have t6:decide (places>100)=false:=decide_eq_false aa;refine kg [35,100006] Tryz.func11 ?_;intro w0 ρ0 hE;conv=>whnf
     (repeat((first|refine ae rfl rfl ?_|refine ao Q3 ?_|refine bn Q3 ?_|refine aN aJ ?_|rw[e2]|rw[e4]|rw[e6]|rw[e8]|rw[ι]);conv=>whnf))
     refine cu 17 56 (λ_ h=>h) rfl rfl (show M=(θ M (0:Rat)).length by simp) ?_;refine cv hE ?_;conv=>whnf
     (repeat((first|refine ag rfl rfl ?_|refine ae rfl rfl ?_|refine aq aD ?_|refine aN aJ ?_|refine an er ?_|refine an dZ ?_|rw[beq_self_eq_true]|rw[bne_self_eq_false]|refine aG t4 ?_|refine aG t6 ?_|refine ay t5 ?_|refine an Q8 ?_|refine⟨_,bV aH cd rfl (ai rfl) (ai rfl) rfl rfl rfl rfl (cQ _ _) b8, ?_⟩|rw[t2]|rw[t3]);conv=>whnf));exact Q4
    ·by_cases g1:k<0
     ·have t2:decide (k<0)=true:=decide_eq_true aa;refine kg [35,100006] Tryz.func11 ?_;intro w0 ρ0 hE;conv=>whnf
      (repeat((first|refine ae rfl rfl ?_|refine ao Q3 ?_|refine bn Q3 ?_|refine aN aJ ?_|rw[e2]|rw[e4]|rw[e6]|rw[e8]|rw[ι]);conv=>whnf))
      refine cu 17 56 (λ_ h=>h) rfl rfl (show M=(θ M (0:Rat)).length by simp) ?_;refine cv hE ?_;conv=>whnf
      (repeat((first|refine ag rfl rfl ?_|refine ae rfl rfl ?_|refine aq aD ?_|refine aN aJ ?_|refine an er ?_|refine an dZ ?_|rw[beq_self_eq_true]|rw[bne_self_eq_false]|refine ay t5 ?_|refine an Q8 ?_|refine⟨_,bV aH cd rfl (ai rfl) (ai rfl) rfl rfl rfl rfl (cQ _ _) b8, ?_⟩|rw[t2]);conv=>whnf));exact Q4
     ·have t2:decide (k<0)=false:=decide_eq_false aa;by_cases g2:(R:Int)<=k
      ·have t3:decide (k>=(R:Int))=true:=decide_eq_true aa;refine kg [35,100006] Tryz.func11 ?_;intro w0 ρ0 hE;conv=>whnf
       (repeat((first|refine ae rfl rfl ?_|refine ao Q3 ?_|refine bn Q3 ?_|refine aN aJ ?_|rw[e2]|rw[e4]|rw[e6]|rw[e8]|rw[ι]);conv=>whnf))
       refine cu 17 56 (λ_ h=>h) rfl rfl (show M=(θ M (0:Rat)).length by simp) ?_;refine cv hE ?_;conv=>whnf
       (repeat((first|refine ag rfl rfl ?_|refine ae rfl rfl ?_|refine aq aD ?_|refine aN aJ ?_|refine an er ?_|refine an dZ ?_|rw[beq_self_eq_true]|rw[bne_self_eq_false]|refine ay t5 ?_|refine an Q8 ?_|refine⟨_,bV aH cd rfl (ai rfl) (ai rfl) rfl rfl rfl rfl (cQ _ _) b8, ?_⟩|rw[t2]|rw[t3]);conv=>whnf));exact Q4
      ·have t3:decide (k>=(R:Int))=false:=decide_eq_false aa;have t4:decide (places<0)=true:=decide_eq_true aa;refine kg [35,100006] Tryz.func11 ?_;intro w0 ρ0 hE;conv=>whnf
       (repeat((first|refine ae rfl rfl ?_|refine ao Q3 ?_|refine bn Q3 ?_|refine aN aJ ?_|rw[e2]|rw[e4]|rw[e6]|rw[e8]|rw[ι]);conv=>whnf))
       refine cu 17 56 (λ_ h=>h) rfl rfl (show M=(θ M (0:Rat)).length by simp) ?_;refine cv hE ?_;conv=>whnf
       (repeat((first|refine ag rfl rfl ?_|refine ae rfl rfl ?_|refine aq aD ?_|refine aN aJ ?_|refine an er ?_|refine an dZ ?_|rw[beq_self_eq_true]|rw[bne_self_eq_false]|refine ay t4 ?_|refine ay t5 ?_|refine an Q8 ?_|refine⟨_,bV aH cd rfl (ai rfl) (ai rfl) rfl rfl rfl rfl (cQ _ _) b8, ?_⟩|rw[t2]|rw[t3]);conv=>whnf));exact Q4
    ·have t2:decide (k<0)=false:=decide_eq_false aa;have t3:decide (k>=(R:Int))=false:=decide_eq_false aa;have t4:decide (places<0)=false:=decide_eq_false aa;have t6:decide (places>100)=true:=decide_eq_true aa;refine kg [35,100006] Tryz.func11 ?_;intro w0 ρ0 hE;conv=>whnf
     (repeat((first|refine ae rfl rfl ?_|refine ao Q3 ?_|refine bn Q3 ?_|refine aN aJ ?_|rw[e2]|rw[e4]|rw[e6]|rw[e8]|rw[ι]);conv=>whnf))
     refine cu 17 56 (λ_ h=>h) rfl rfl (show M=(θ M (0:Rat)).length by simp) ?_;refine cv hE ?_;conv=>whnf
     (repeat((first|refine ag rfl rfl ?_|refine ae rfl rfl ?_|refine aq aD ?_|refine aN aJ ?_|refine an er ?_|refine an dZ ?_|rw[beq_self_eq_true]|rw[bne_self_eq_false]|refine aG t4 ?_|refine ay t6 ?_|refine ay t5 ?_|refine an Q8 ?_|refine⟨_,bV aH cd rfl (ai rfl) (ai rfl) rfl rfl rfl rfl (cQ _ _) b8, ?_⟩|rw[t2]|rw[t3]);conv=>whnf));exact Q4
  ·rw[show qp R R R R X (fZ R R X)=false from by unfold qp;simp[Ne.symm EL]]at kS;have kc:=HU hX hP aa EL;have k2:=HV (t:=1) kc ax;have k3:=HW kc ax;have k4:=L8 kc ax;have k5:=L7 (v:=θ M 0) kc ax;have k6:=BE (k:=k) (p:=places) kc ax;clear Xv oP bX sX hX hP EL hF hl;generalize fZ R R X=XT at*;refine kg [35,100006] Tryz.func11 ?_;intro w0 ρ0 hE;conv=>whnf
   (repeat((first|refine ae rfl rfl ?_|refine ao Q3 ?_|refine bn Q3 ?_|refine aN aJ ?_|rw[e2]|rw[e4]|rw[e6]|rw[e8]|rw[ι]);conv=>whnf))
   refine cu 17 56 (λ_ h=>h) rfl rfl (show M=(θ M (0:Rat)).length by simp) ?_;refine cv hE ?_;conv=>whnf
   (repeat((first|refine ag rfl rfl ?_|refine ae rfl rfl ?_|refine aq aD ?_|refine aN aJ ?_|refine an er ?_|refine an dZ ?_|rw[beq_self_eq_true]|rw[bne_self_eq_false]|refine an Q8 ?_|refine⟨_,bV aH cd rfl (ai rfl) (ai rfl) rfl rfl rfl rfl (cQ _ _) b8, ?_⟩);conv=>whnf));exact Q4
 ·have kc:=Su hX hP hS;have k2:=HV (t:=1) kc ax;have k3:=HW kc ax;have k4:=L8 kc ax;have k5:=L7 (v:=θ M 0) kc ax;have k6:=BE (k:=k) (p:=places) kc ax;clear Xv oP bX sX hX hP hF hl;by_cases hRC:R=C
  ·have t1:((R:Int) != (C:Int))=false:=by rw[hRC];exact bne_self_eq_false _
   have t2:((R:Int) != (N:Int))=true:=bne_iff_ne.2 aa;refine kg [35,100006] Tryz.func11 ?_;intro w0 ρ0 hE;conv=>whnf
   (repeat((first|refine ae rfl rfl ?_|refine ao Q3 ?_|refine bn Q3 ?_|refine aN aJ ?_|rw[e2]|rw[e4]|rw[e6]|rw[e8]|rw[ι]);conv=>whnf))
   refine cu 17 56 (λ_ h=>h) rfl rfl (show M=(θ M (0:Rat)).length by simp) ?_;refine cv hE ?_;conv=>whnf
   (repeat((first|refine ag rfl rfl ?_|refine ae rfl rfl ?_|refine aq aD ?_|refine aN aJ ?_|refine an er ?_|refine an dZ ?_|rw[beq_self_eq_true]|rw[bne_self_eq_false]|refine an Q8 ?_|refine⟨_,bV aH cd rfl (ai rfl) (ai rfl) rfl rfl rfl rfl (cQ _ _) b8, ?_⟩|rw[t1]|rw[t2]);conv=>whnf));exact Q4
  ·have t1:((R:Int) != (C:Int))=true:=bne_iff_ne.2 aa;refine kg [35,100006] Tryz.func11 ?_;intro w0 ρ0 hE;conv=>whnf
   (repeat((first|refine ae rfl rfl ?_|refine ao Q3 ?_|refine bn Q3 ?_|refine aN aJ ?_|rw[e2]|rw[e4]|rw[e6]|rw[e8]|rw[ι]);conv=>whnf))
   refine cu 17 56 (λ_ h=>h) rfl rfl (show M=(θ M (0:Rat)).length by simp) ?_;refine cv hE ?_;conv=>whnf
   (repeat((first|refine ag rfl rfl ?_|refine ae rfl rfl ?_|refine aq aD ?_|refine aN aJ ?_|refine an er ?_|rw[beq_self_eq_true]|rw[bne_self_eq_false]|refine an Q8 ?_|refine⟨_,bV aH cd rfl (ai rfl) (ai rfl) rfl rfl rfl rfl (cQ _ _) b8, ?_⟩|rw[t1]);conv=>whnf));exact Q4
theorem dQ (a0:List (Int×Int)) (a1 a2 a3 a4 a5 a6:Int) (w0:yg a0) (w1:(Ϸ .u8 a1).wf=true) (w2:(Ϸ .u8 a2).wf=true) (w3:(Ϸ .u8 a3).wf=true) (w4:(Ϸ .u8 a4).wf=true) (_w5:(Ϸ .i64 a5).wf=true) (_w6:(Ϸ .i64 a6).wf=true):
  C0 11 [bN 2 qA a0,gB .u8 a1,gB .u8 a2,gB .u8 a3,gB .u8 a4,gB .i64 a5,gB .i64 a6] (.val (.bool true)):=
 acx a0 a1 a2 a3 a4 a5 a6 ⟨w0.1,gF w0⟩ (wf_u8 w1) (wf_u8 w2) (wf_u8 w3) (wf_u8 w4)
