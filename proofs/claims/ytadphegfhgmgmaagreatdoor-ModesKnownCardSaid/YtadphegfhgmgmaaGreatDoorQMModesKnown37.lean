/- The texts Xu. -/
import Derived.Test.YtadphegfhgmgmaaGreatDoorQMModesKnown35
import Derived.Test.YtadphegfhgmgmaaGreatDoorQMModesKnown36
import Derived.Test.YtadphegfhgmgmaaGreatDoorQMModesKnown26
set_option linter.unusedSimpArgs false
set_option linter.unusedVariables false
set_option maxHeartbeats 40000000
set_option maxRecDepth 100000
open Go.Lit renaming int->Ϸ
open Nat renaming le_trans->Ι,zero_le->Γ
namespace Go.Proofs.YtadphegfhgmgmaaGreatDoor
open Go.Sx
theorem NZ {n S A z:Nat} {P:List Rat} {t:Rat} {x y:List (List Rat)} (kP:C0 21 [bN 1 nC x,bN 1 nC y] (nC P)) (hP:P.length=n+1) (hn:n<=4) (sP:Sm S P) (ht:fs t<=A) (hA:2<=A) (h:Ua (S+2*A+2) (n+1)<=1700000000)
  (hz:z<=n) (h0:∀j,j<z->(nx P t (n+1)).getD j 0=0) (h1:(nx P t (n+1)).getD z 0≠0):
  C0 25 [bN 1 nC x,bN 1 nC y,fF t] (.bQ [iv ((uw (nx P t (n+1)) true (n+1)).1:Nat),iv (z:Nat),iv ((uw (nx P t (n+1)) false (n+1)).1:Nat)]):=by
 have k1:=Iu hP aa sP ht hA h;have sC:=Kp sP ht hA (n+1) aa;have lC:(nx P t (n+1)).length=n+1:=by rw[n0,hP]
 have k2:=yv (p:=nx P t (n+1)) true aa (λi hi=>Ι (sC i hi) (Ι h ax));have k3:=yv (p:=nx P t (n+1)) false aa (λi hi=>Ι (sC i hi) (Ι h ax));rw[lC]at k2 k3;have kS:=λi (hi:i<n+1)=>zd ((nx P t (n+1)).getD i 0) (by have:=(Hn (Ι (sC i aa) h)).1;omega)
 generalize (uw (nx P t (n+1)) true (n+1)).1=u at*;generalize (uw (nx P t (n+1)) false (n+1)).1=v at*;generalize nx P t (n+1)=Cc at*;have w0:IntKind.i64.wrap ((Cc.length:Int) - 1)=(n:Int):=by rw[wrap_i64 aa aa];omega
 clear sC sP h;refine bB [5] Tryz.func25 ?_;intro W0 w1 ρ0 hE;conv=>whnf
 (repeat(first|(refine aq aD ?_;conv=>whnf)|(refine aN aJ ?_;conv=>whnf)|(refine an Q6 ?_;conv=>whnf)))
 refine av hE (λk=>k) [9,10] [] (λm fr hp=>∃j:Nat,m=z - j/\j<=z/\fr=[(9,nC Cc),(10,iv (j:Nat))]/\hp=[]) z ?_ ?_ ?_
 ·kernel_rfl
 ·exact⟨0,rfl,Γ _,rfl,rfl⟩
 rintro m _ _ ⟨j,rfl,hj,rfl,rfl⟩;by_cases aE:j<z
 ·have t1:=gZ (show j<n by omega);have t3:=bW (i:=j) aa;have t2:((Cc.getD j 0).num.sign==0)=true:=by rw[h0 j aE];rfl
  have k4:=kS j aa;have FU:j<Cc.length:=aa;clear kS h0;conv=>whnf
  (repeat((first|refine aN aJ ?_|refine an er ?_|refine ay t1 ?_|refine ay t2 ?_|refine an Q8 ?_|refine an Ar ?_|refine an Q6 ?_|rw[w0]|rw[t1]|rw[t2]|rw[t3]);conv=>whnf))
  exact⟨z - (j+1),λk=>k,[9,10],[],aa,aD,j+1,rfl,aE,rfl,rfl⟩
 ·obtain rfl:j=z:=aa;have FU:j<Cc.length:=aa;have t2:((Cc.getD j 0).num.sign==0)=false:=beq_eq_false_iff_ne.2 λg=>h1 (BV.1 g)
  have k4:=kS j aa;clear kS h0;by_cases IL:j<n
  ·have t1:=gZ IL;conv=>whnf
   (repeat((first|refine aN aJ ?_|refine an er ?_|refine ay t1 ?_|refine aG t2 ?_|refine an Q8 ?_|refine an Ar ?_|refine an Q6 ?_|rw[w0]|rw[t1]);conv=>whnf));exact Q4
  ·have t1:=iH IL;conv=>whnf
   (repeat((first|refine ae rfl rfl ?_|refine aN aJ ?_|refine an dZ ?_|refine aG t1 ?_|refine an Q8 ?_|rw[w0]|rw[t1]);conv=>whnf));exact Q4
theorem XO (q:Rat) (h:fs q<=100000000):C0 22 [.frac q,fF q] (.val (.bool true)):=by
 have k1:=ET q aa;have k2:=WE q h;generalize tQ q=s at*;have t1:(s.toList==s.toList)=true:=beq_self_eq_true _;refine bB [2,3] Tryz.func22 ?_;intro W0 w0 ρ0 hE;conv=>whnf
 (repeat((first|refine aq aD ?_|refine aN aJ ?_|rw[beq_self_eq_true]|refine an Q6 ?_);conv=>whnf))
 exact au.refl _
abbrev afI (l:List (Int×Int)):Prop:=l.length<=maxLen/\∀q∈l,my q
theorem Uk {l b:List (Int×Int)} (hl:l.length<=maxLen) (hb:b.length<=maxLen):∀x∈[l,b],x.length<=maxLen:=λx hx=>by
 simp only[List.mem_cons,List.not_mem_nil,or_false]at hx;rcases hx with rfl|rfl<;>assumption
theorem afJ {n B C:Nat} {a m:List Rat} (P:nk n B C a m) (hn:n<=4):wH n a m=yE n (dK n a m) (n+1)/\∀x,cM (yE n (dK n a m) (n+1)) x=bz n (jb (el a n) (el m n) x):=by
 obtain⟨c,hc,hv,_⟩:=Ml n (el a n) (el m n);have e1:yE n (dK n a m) (n+1)=c:=acE hc λk hk=>by
  rw[hv];exact bp λi j hi hj=>by
   rw[xK,mP hi hj];show el a n i j - (-(k:Rat))*el m n i j=el a n i j+(k:Rat)*el m n i j;grind
 have e2:wH n a m=c:=XN (HS ..) hn hc λk hk=>by
  rw[hv,HT hk];exact bp λi j hi hj=>by
   rw[mP hi hj];rfl
 exact⟨by rw[e1,e2],λx=>by rw[e1,hv]⟩
theorem Ul (l b:List (Int×Int)) (n:Int) (t:Int×Int) (hl:afI l) (hb:afI b) (hn:0<=n/\n<256) (ht:my t):
  C0 4 [lQ l,lQ b,gB .u8 n,qA t] (.val (.bool true)):=by
 have kw:=gX;have kf:=nY [l,b] (by simp) (Uk hl.1 hb.1);cases hF:[l,b].all λl=>decide (l.length<=40)
 ·rw[hF]at kf;refine bB [7,26] Tryz.func4 ?_;intro W0 w0 ρ0 hE;conv=>whnf
  (repeat(first|(refine ag rfl rfl ?_;conv=>whnf)|(refine aN aJ ?_;conv=>whnf)));exact Q4
 rw[hF]at kf;obtain⟨e1,e2⟩:=jW n hn 5 ax;have r4:(n % 5).toNat<=4:=aa;generalize (n % 5).toNat=r at*;have kp:=nm l b hl hb (n:=r) aa;have P:=nX hl.2 hb.2 (n:=r) aa;have h1:=wy b r;have qt:=rn t ht;have qr:=ab3 t ht;have ft:=oR ht;generalize qz l r=a at*;generalize fH b r=m at*;generalize qV t=T at*;have x1:=DL P.ka P.za aa ax;have x2:=DL P.km P.zm aa ax;have x3:=wI P r4 ax ax;have x4:=Ui P.ka P.km P.za P.zm r4 ax;obtain⟨g1,g2⟩:=afJ P r4;rw[g1]at x3;have lP:=qj r (dK r a m) (r+1);have sP:=Kt (n:=r) (T:=544944) (D:=dK r a m) r4 (λk hk=>Nat.add_le_add_right (Zz P.oa P.om P.za P.zm (k:=k) aa r4 ax) 262) (r+1) (Nat.le_refl _);have sP2:Sm 43595522 (yE r (dK r a m) (r+1)):=Ld aa sP;have hsB:Ua (43595522+2*130+2) (r+1)<=1700000000:=Ι (Is _ (show r+1<=5 by omega)) ax;obtain⟨g3,g4,g5,g6,g7,g8⟩:=NW (t:=T) (S:=el a r) (M:=el m r) P.sa P.sm h1 (P.lM T) lP g2;have x5:=NZ x4 lP r4 sP2 ft ax hsB g8 g6 g7;rw[g4,g5]at x5;have x6:=P.count T ft ax ax;clear g1 g2 g3 g4 g5 g6 g7 g8 hsB h1 sP P hF;generalize yE r (dK r a m) (r+1)=Q at*;generalize aB r a m T=F at*;generalize bD r r a=ra at*;generalize bD r r m=rm at*;have s1:((Q.length:Int) != (Q.length:Int))=false:=bne_self_eq_false _;have s2:(((F.m:Nat):Int)==((F.m:Nat):Int))=true:=beq_self_eq_true _;have s3:(((F.left:Nat):Int)==((F.left:Nat):Int))=true:=beq_self_eq_true _;have s4:(((F.p:Nat):Int)==((F.p:Nat):Int))=true:=beq_self_eq_true _;refine bB [7,26] Tryz.func4 ?_;intro W0 w0 ρ0 hE;conv=>whnf
 (repeat((first|refine ag rfl rfl ?_|refine ae rfl rfl ?_|refine aq aD ?_|refine bn Q3 ?_|refine aN aJ ?_|refine an dZ ?_|rw[bne_self_eq_false]|refine an Q8 ?_|rw[e2]);conv=>whnf))
 refine av hE (λk=>k) [7,9,10,11,12,13,15,16] [9,10] (λq fr hp=>∃i:Nat,q=Q.length - i/\i<=Q.length/\fr=[(7,b9 [gB .i64 t.1,gB .u32 t.2]),(9,.ptr 9 0 0 0),(10,.ptr 10 0 0 0),(11,bN 1 nC ra),(12,bN 1 nC rm),(13,bx Q),(15,nC Q),(16,iv (i:Nat))]/\
  hp=[(9,⟨35,true,.one (mC r r a)⟩),(10,⟨35,true,.one (mC r r m)⟩)]) Q.length ?_ ?_ ?_
 ·kernel_rfl
 ·exact⟨0,rfl,Γ _,rfl,rfl⟩
 rintro q _ _ ⟨i,rfl,hi,rfl,rfl⟩;by_cases aE:i<Q.length
 ·have t1:=gZ aE;have t2:=bW (i:=i) aa;have hq:=sP2 i aE;have k1:=XO (Q.getD i 0) aa;conv=>whnf
  (repeat((first|refine ae rfl rfl ?_|refine aq aD ?_|refine aN aJ ?_|refine ay t1 ?_|refine an Q8 ?_|refine an Ar ?_|refine an Q6 ?_|rw[t1]|rw[t2]);conv=>whnf))
  exact⟨Q.length - (i+1),λk=>k,[7,9,10,11,12,13,15,16],[9,10],aa,aD,i+1,rfl,aE,rfl,rfl⟩
 ·have t1:=iH aE;have qt2:C0 24 [.agg [gB .i64 t.1,gB .u32 t.2]] (.frac T):=qt;have qr2:C0 26 [.agg [gB .i64 t.1,gB .u32 t.2]] (fF T):=qr;conv=>whnf
  (repeat((first|refine ag rfl rfl ?_|refine aq aD ?_|refine aN aJ ?_|refine an er ?_|rw[beq_self_eq_true]|refine aG t1 ?_|refine an Q8 ?_|refine an Q6 ?_);conv=>whnf));exact Q4
theorem rO (a0 a1:List (Int×Int)) (a2:Int) (a3:Int×Int) (w0:yg a0) (w1:yg a1) (w2:(Ϸ .u8 a2).wf=true) (w3:((Ϸ .i64 a3.1).wf=true)/\((Ϸ .u32 a3.2).wf=true)):
  C0 4 [bN 2 qA a0,bN 2 qA a1,gB .u8 a2,qA a3] (.val (.bool true)):=
 Ul a0 a1 a2 a3 ⟨w0.1,gF w0⟩ ⟨w1.1,gF w1⟩ (wf_u8 w2) (nS w3)
