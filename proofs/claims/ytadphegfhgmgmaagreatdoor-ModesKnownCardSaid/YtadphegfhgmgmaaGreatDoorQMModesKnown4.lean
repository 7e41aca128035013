/- The texts Ej. -/
import Derived.Test.YtadphegfhgmgmaaGreatDoorQMModesKnown3
set_option linter.unusedSimpArgs false
set_option linter.unusedVariables false
set_option maxHeartbeats 80000000
set_option maxRecDepth 100000
open Classical renaming byContradiction->Ο
open Go.IntKind renaming i64->ε,u32->Φ,u64->Ζ
open Int renaming eq_ofNat_of_zero_le->Α,natCast_add->Ϫ,natCast_mul->Ρ,sub_zero->aiG
open List renaming mem_cons_of_mem->Δ,mem_cons_self->η
open Nat renaming add_comm->afk,add_mul->gx,div_le_self->ac1,eq_zero_or_pos->acX,le_of_not_lt->agK,le_refl->ζ,le_trans->Ι,lt_of_le_of_lt->ϓ,lt_of_lt_of_le->Ϟ,lt_succ_self->gq,mod_eq_of_lt->Υ,mod_lt->ab8,mul_assoc->Ϛ,mul_comm->Ϣ,pow_le_pow_right->ύ,pow_pos->acS,pow_succ->ϙ,pow_zero->agF,zero_le->Γ,zero_mul->aeC
namespace Go.Proofs.YtadphegfhgmgmaaGreatDoor
open Go.Sx
theorem bl.abj {fk:List (Nat×aC)} {m p:Nat} {b c:aC} {σ:Nat->Nat} (h:CS fk=true) (hn:∀q∈az fk,σ m≠σ q/\σ p≠σ q) (hmp:σ m≠σ p):bl fk [(m,b),(p,c)] σ:=
 ⟨(λq q' b b' hq _ _ hw=>by rw[pH h q b hq]at hw;cases hw),(λx y h1 h2 a8=>by
  have h1:x=m\/x=p:=by simpa [az]using h1
  have h2:y=m\/y=p:=by simpa [az]using h2
  rcases h1 with rfl|rfl<;>rcases h2 with rfl|rfl
  ·exact absurd rfl a8
  ·exact hmp
  ·exact hmp.symm
  ·exact absurd rfl a8),(λx q h1 h2=>by
  have h1:x=m\/x=p:=by simpa [az]using h1
  rcases h1 with rfl|rfl
  ·exact(hn q h2).1
  ·exact(hn q h2).2)⟩
theorem VC {hp:List (Nat×aC)} {k l:Nat} {b c:aC} (h:find hp k=none) (h':find hp l=none):∀j d,(j,d)∈[(k,b),(l,c)]->find hp j=none:=λj d hm=>by
 simp only[List.mem_cons,List.not_mem_nil,or_false,Prod.mk.injEq]at hm;rcases hm with⟨rfl,rfl⟩|⟨rfl,rfl⟩<;>assumption
theorem vR {R Qv V S d U:Nat} (h1:d*(V*S)<=R) (h2:R<(d+1)*(V*S)) (hU:U=Qv*V+R):R - d*(V*S)<V*S/\U=(Qv+d*S)*V+(R - d*(V*S)):=by
 rw[gx,Nat.one_mul]at h2;refine⟨aa, ?_⟩;rw[gx,show d*S*V=d*(V*S)from by rw[Ϛ,Ϣ S V]];omega
theorem pM {v m L:Nat} (hv:v<4294967296^m) (hm:m<=L):aA (bK v L) m=v:=by
 rw[<-fv (xs:=bK v L) (k:=m) (n:=L) (λi h1 _=>vQ hv h1) hm,iY,Υ (Ϟ hv (ύ ax hm))]
theorem PG {X Y V Qv R s:Nat} (hV:Y*2^s=V) (h:X*2^s=Qv*V+R) (hR:R<V):X/Y=Qv/\R/2^s=X % Y:=by
 have hs:0<2^s:=Nat.two_pow_pos s;have hY:0<Y:=by
  rcases acX Y with rfl|h'
  ·rw[aeC]at hV;omega
  ·exact h'
 have h1:X*2^s/(Y*2^s)=Qv:=by
  rw[h,hV,afk,Nat.add_mul_div_right _ _ aa,Nat.div_eq_of_lt hR,Nat.zero_add]
 have h2:X*2^s % (Y*2^s)=R:=by
  rw[h,hV,afk,Nat.add_mul_mod_self_right,Υ hR]
 rw[Nat.mul_div_mul_right _ _ hs]at h1;rw[Nat.mul_mod_mul_right]at h2;exact⟨h1,by rw[<-h2,Nat.mul_div_cancel _ hs]⟩
theorem K6 {a b:Nat} (ha:a<4294967296) (hb:b<4294967296):ID .u64 (lR .u64 (a:Int) 32) (b:Int)=((a*4294967296+b:Nat):Int):=by
 have e1:lR .u64 (a:Int) 32=((a*4294967296:Nat):Int):=by
  show Ζ.wrap ((a:Int)*4294967296)=_;rw[show(a:Int)*4294967296=((a*4294967296:Nat):Int)from aa,eY aa]
 rw[e1,yL aa aa,Ϣ,<-Nat.two_pow_add_eq_or_of_lt (i:=32) (b:=b) aa a]
theorem abk (xs ys:List Int) (l n X Y:Nat) (hl:l<=xs.length) (hn:n<=ys.length) (UN:xs.length<549755813888) (MI:ys.length<549755813888) (hx:gQ xs) (hy:gQ ys) (hX:aA xs l=X) (hY:aA ys n=Y)
  (h2:2<=n) (uI:ys.getD (n - 1) 0≠0) (hnl:n<=l) (K1 K2 Q1 Q2:Nat) (hk1:Q1≠K1/\Q2≠K1) (KA:Q1≠K2/\Q2≠K2) (hq:Q1≠Q2):
  aL Tryz.prog 194 [.aM K1 1 0 l,.aM K2 1 0 n] [(K1,⟨23,false,.ints .u32 xs⟩),(K2,⟨23,false,.ints .u32 ys⟩)] (.bQ [.aM Q1 1 0 (l+1 - n),.aM Q2 1 0 (l+1)])
   [(Q1,⟨23,true,.ints .u32 (bK (X/Y) (l+1 - n))⟩),(Q2,⟨23,true,.ints .u32 (bK (X % Y) (l+1))⟩)] []:=by
 obtain⟨y,hyt⟩:=Α (hy (n - 1)).1;have YR:=(hy (n - 1)).2;have kz:=abb y aa;have gM:1<=sz y/\sz y<=32:=by
  refine⟨?_,eW.2 (show y<2^32 by have:(2:Nat)^32=4294967296:=rfl;omega)⟩;refine Ο λh=> ?_
  have h3:=eW.1 (show sz y<=0 by omega);rw[agF]at h3;exact uI (by rw[hyt];omega)
 obtain⟨s,hs⟩:∃s,32 - sz y=s:=⟨_,rfl⟩;rw[hs]at kz;have abl:s<32:=aa;have ku:=CZ xs l hl aa hx s abl 0 2001 ax false X hX;have kv:=CZ ys n hn aa hy s abl 1 2002 ax false Y hY;obtain⟨V,hVd⟩:∃V,Y*2^s=V:=⟨_,rfl⟩;rw[hVd]at kv;have hXl:X<4294967296^l:=by have:=iG hx l;rw[hX,<-db]at this;omega
 have e0:Hid (ε.wrap ((n:Int) - 1)=((n - 1:Nat):Int)):=show ε.wrap ((n:Int) - 1)=((n - 1:Nat):Int)from by rw[wrap_i64 aa aa];omega
 have e1:Hid (0+((n - 1:Nat):Int).toNat=n - 1):=show 0+((n - 1:Nat):Int).toNat=n - 1 from aa
 have abm:∀q∈az [(0,(⟨23,false,.ints .u32 xs⟩:aC)),(1,⟨23,false,.ints .u32 ys⟩)],dA [(0,K1),(1,K2),(39,Q1),(2001,Q2)] 39≠dA [(0,K1),(1,K2),(39,Q1),(2001,Q2)] q/\dA [(0,K1),(1,K2),(39,Q1),(2001,Q2)] 2001≠dA [(0,K1),(1,K2),(39,Q1),(2001,Q2)] q:=λq hq=>by
  have hq:q=0\/q=1:=by simpa [az]using hq
  rcases hq with rfl|rfl
  ·exact hk1
  ·exact KA
 refine gY (Z:=[]) aH bC Tryz.func194 rfl aD (args:=[.aM 0 1 0 l,.aM 1 1 0 n]) (fk:=[(0,⟨23,false,.ints .u32 xs⟩),(1,⟨23,false,.ints .u32 ys⟩)])
  (c:=.bQ [.aM 39 1 0 (l+1 - n),.aM 2001 1 0 (l+1)]) (new:=[(39,⟨23,true,.ints .u32 (bK (X/Y) (l+1 - n))⟩),(2001,⟨23,true,.ints .u32 (bK (X % Y) (l+1))⟩)]) (upd:=[]) (cb.of rfl rfl rfl rfl rfl rfl rfl rfl rfl rfl rfl) rfl (dA [(0,K1),(1,K2),(39,Q1),(2001,Q2)]) (bl.abj rfl abm hq) ?_
 intro W0 w0 ρ0 hE;conv=>whnf
 have e3:Hid (((n:Int) - 0).toNat=n):=show((n:Int) - 0).toNat=n from aa
 have e4:Hid (ε.wrap (((l+1:Nat):Int) - (n:Int))=((l+1 - n:Nat):Int)):=show ε.wrap (((l+1:Nat):Int) - (n:Int))=((l+1 - n:Nat):Int)from by rw[wrap_i64 aa aa];omega
 have e5:Hid (0+Int.toNat 0=0):=show 0+Int.toNat 0=0 from rfl
 have e6:Hid (ε.wrap (((l+1 - n:Nat):Int) - 1)=((l+1 - n:Nat):Int) - 1):=show ε.wrap (((l+1 - n:Nat):Int) - 1)=((l+1 - n:Nat):Int) - 1 from wrap_i64 aa aa
 (repeat((first|refine aq aD ?_|refine aX Q3 ?_|refine ao Q3 ?_|refine aN aJ ?_|refine KN aJ rfl rfl ?_|rw[e0.out]|rw[e1.out]|rw[hyt]|rw[e3.out]|rw[e5.out]|rw[e4.out]);conv=>whnf))
 have e7:Hid (ε.wrap ((((l+1 - n:Nat):Int).toNat:Int) - 1)=((l+1 - n:Nat):Int) - 1):=show ε.wrap ((((l+1 - n:Nat):Int).toNat:Int) - 1)=((l+1 - n:Nat):Int) - 1 from wrap_i64 aa aa
 rw[e7.out];obtain⟨hVn,hVg⟩:=Ng hy h2 hyt hY hs hVd gM.1 gM.2;have ZX:aA (bK V (n+1)) n=V:=pM hVn aa;have VB:gQ (bK V (n+1)):=iq _ _;have aiF:(bK V (n+1)).length=n+1:=dj _ _
 refine av hE (λk=>k) [4,6,7,8,9,10] [0,1,39,2001,2002] (λj fr hp=>∃(R Qv:Nat) (q:List Int),j<=l+1 - n/\R<V*4294967296^j/\X*2^s=Qv*V+R/\q.length=l+1 - n/\gQ q/\(∀i,i<j->q.getD i 0=0)/\aA q (l+1 - n)=Qv/\
  fr=[(4,.aM 39 1 0 (l+1 - n)),(6,.val (.int .i64 s)),(7,.aM 2001 1 0 (l+1)),(8,.aM 2002 1 0 n),(9,.val (.int .i64 n)),(10,.val (.int .i64 ((j:Int) - 1)))]/\hp=[(0,⟨23,false,.ints .u32 xs⟩),(1,⟨23,false,.ints .u32 ys⟩),(39,⟨23,true,.ints .u32 q⟩),(2001,⟨23,true,.ints .u32 (bK R (l+1))⟩),(2002,⟨23,true,.ints .u32 (bK V (n+1))⟩)]) (l+1 - n) ?_ ?_ ?_
 ·kernel_rfl
 ·exact⟨X*2^s,0,List.replicate (l+1 - n) 0,ζ _,Jr hXl abl hVg h2 hnl,aa,by simp,(λi=>by rw[bA];decide),(λi _=>bA),by rw[fv (k:=0) (λi _ _=>bA) aa];simp[aA],rfl,rfl⟩
 rintro j _ _ ⟨R,Qv,q,hj,hR,hXR,hql,hqw,Jm,hqv,rfl,rfl⟩;by_cases h0:j=0
 ·subst h0;have t1:Hid (decide (((0:Nat):Int) - 1>=0)=false):=show decide (((0:Nat):Int) - 1>=0)=false from rfl
  conv=>whnf
  (repeat(first|(refine ae rfl rfl ?_;conv=>whnf)|(rw[t1.out];conv=>whnf)))
  have hRV:R<V:=by simpa using hR
  obtain⟨hdq,hdr⟩:=PG hVd hXR hRV;have hRl:R<4294967296^(l+1):=Ϟ (Nat.lt_trans hRV hVn) (ύ ax aa);have hqd:q=bK (X/Y) (l+1 - n):=q7 hql hqw (by rw[hqv,hdq])
  refine av hE (λk=>k) [4,7,167,168] [0,1,39,2001] (λm fr hp=>∃(i:Nat),m=s - i/\i<=s/\
   fr=[(4,.aM 39 1 0 (l+1 - n)),(7,.aM 2001 1 0 (l+1)),(167,.val (.int .i64 s)),(168,.val (.int .i64 i))]/\hp=[(0,⟨23,false,.ints .u32 xs⟩),(1,⟨23,false,.ints .u32 ys⟩),(39,⟨23,true,.ints .u32 q⟩),(2001,⟨23,true,.ints .u32 (bK (R/2^i) (l+1))⟩)]) s ?_ ?_ ?_
  ·kernel_rfl
  ·exact⟨0,aa,aa,rfl,by rw[agF,Nat.div_one];rfl⟩
  rintro m _ _ ⟨i,rfl,hi,rfl,rfl⟩;by_cases aE:i<s
  ·have t2:Hid (decide ((i:Int)<(s:Int))=true):=show decide ((i:Int)<(s:Int))=true from decide_eq_true aa
   have f4:Hid (ε.wrap ((i:Int)+1)=((i+1:Nat):Int)):=show ε.wrap ((i:Int)+1)=((i+1:Nat):Int)from by rw[wrap_i64 aa aa];omega
   have kh:=abh (bK (R/2^i) (l+1)) (by rw[dj];omega) (iq _ _) 2001 (R/2^i) (by rw[dj,iY,Υ (ϓ (ac1 _ _) hRl)]);rw[dj,Nat.div_div_eq_div_mul,<-ϙ]at kh;conv=>whnf
   (repeat(first|(refine ag rfl rfl ?_;conv=>whnf)|(refine x0 aJ rfl rfl ?_;conv=>whnf)|(rw[t2.out];conv=>whnf)))
   rw[f4.out];exact⟨s - (i+1),λk=>k,[4,7,167,168],[0,1,39,2001],aa,aD,i+1,rfl,aa,rfl,rfl⟩
  ·have nz:i=s:=aa;subst nz;have t2:Hid (decide ((i:Int)<(i:Int))=false):=show decide ((i:Int)<(i:Int))=false from decide_eq_false aa
   rw[hqd,hdr];conv=>whnf
   (repeat(first|(refine ae rfl rfl ?_;conv=>whnf)|(rw[t2.out];conv=>whnf)))
   exact⟨au.refl _,gC rfl rfl,(λ_ _ h=>by cases h)⟩
 obtain⟨k,rfl⟩:∃k,j=k+1:=⟨j - 1,aa⟩;have t1:Hid (decide (((k+1:Nat):Int) - 1>=0)=true):=show decide (((k+1:Nat):Int) - 1>=0)=true from decide_eq_true aa
 have hP:0<4294967296^(n - 2):=acS ax;have hS:0<4294967296^k:=acS ax;have YS:(bK R (l+1)).length=l+1:=dj _ _;obtain⟨P,hPd⟩:∃P,4294967296^(n - 2)=P:=⟨_,rfl⟩;obtain⟨S,hSd⟩:∃S,4294967296^k=S:=⟨_,rfl⟩;rw[hPd]at hP;rw[hSd]at hS;have lN:R<V*(S*4294967296):=by rw[<-hSd,<-ϙ];exact hR
 obtain⟨t,ht⟩:∃t,R/(P*S)/4294967296=t:=⟨_,rfl⟩;obtain⟨u0,hu0⟩:∃u0,R/(P*S) % 4294967296=u0:=⟨_,rfl⟩;obtain⟨v1,hv1⟩:∃v1,V/P/4294967296=v1:=⟨_,rfl⟩;obtain⟨v2,hv2⟩:∃v2,V/P % 4294967296=v2:=⟨_,rfl⟩;obtain⟨hRB,hVSB,hVW,hv1a,hta,g1',g2',g3',g4',g5'⟩:=Js (l:=l) h2 aa hPd hSd hVn hVg lN;have ag6:V/P % 4294967296<4294967296:=ab8 _ ax;have aeG:R/(P*S) % 4294967296<4294967296:=ab8 _ ax;rw[hv1]at hv1a g4';rw[ht]at hta g1' g2';rw[hu0]at g3' aeG;rw[hv2]at g5' ag6;have g1:Hid ((bK R (l+1)).getD (k+n) 0=((t/4294967296:Nat):Int)):=show(bK R (l+1)).getD (k+n) 0=((t/4294967296:Nat):Int)from g1'
 have g2:Hid ((bK R (l+1)).getD (k+(n - 1)) 0=((t % 4294967296:Nat):Int)):=show(bK R (l+1)).getD (k+(n - 1)) 0=((t % 4294967296:Nat):Int)from g2'
 have g3:Hid ((bK R (l+1)).getD (k+(n - 2)) 0=(u0:Int)):=show(bK R (l+1)).getD (k+(n - 2)) 0=(u0:Int)from g3'
 have g4:Hid ((bK V (n+1)).getD (n - 1) 0=(v1:Int)):=show(bK V (n+1)).getD (n - 1) 0=(v1:Int)from g4'
 have g5:Hid ((bK V (n+1)).getD (n - 2) 0=(v2:Int)):=show(bK V (n+1)).getD (n - 2) 0=(v2:Int)from g5'
 clear g1' g2' g3' g4' g5';have i1:Hid (((k+1:Nat):Int) - 1=(k:Int)):=show((k+1:Nat):Int) - 1=(k:Int)from aa
 have i2:Hid (ε.wrap ((k:Int)+(n:Int))=((k+n:Nat):Int)):=show ε.wrap ((k:Int)+(n:Int))=((k+n:Nat):Int)from by rw[wrap_i64 aa aa];omega
 have i3:Hid (0+((k+n:Nat):Int).toNat=k+n):=show 0+((k+n:Nat):Int).toNat=k+n from aa
 have i4:Hid (ε.wrap (((k+n:Nat):Int) - 1)=((k+(n - 1):Nat):Int)):=show ε.wrap (((k+n:Nat):Int) - 1)=((k+(n - 1):Nat):Int)from by rw[wrap_i64 aa aa];omega
 have i5:Hid (0+((k+(n - 1):Nat):Int).toNat=k+(n - 1)):=show 0+((k+(n - 1):Nat):Int).toNat=k+(n - 1)from aa
 have i6:Hid (Ζ.wrap ((t/4294967296:Nat):Int)=((t/4294967296:Nat):Int)):=show Ζ.wrap ((t/4294967296:Nat):Int)=((t/4294967296:Nat):Int)from eY aa
 have i7:Hid (Ζ.wrap ((t % 4294967296:Nat):Int)=((t % 4294967296:Nat):Int)):=show Ζ.wrap ((t % 4294967296:Nat):Int)=((t % 4294967296:Nat):Int)from eY aa
 have i8:Hid (ID .u64 (lR .u64 ((t/4294967296:Nat):Int) 32) ((t % 4294967296:Nat):Int)=(t:Int)):=show ID .u64 (lR .u64 ((t/4294967296:Nat):Int) 32) ((t % 4294967296:Nat):Int)=(t:Int)from by rw[K6 aa aa];congr 1;omega
 have i9:Hid (Ζ.wrap (v1:Int)=(v1:Int)):=show Ζ.wrap (v1:Int)=(v1:Int)from eY aa
 have i10:Hid (((v1:Int) != 0)=true):=show((v1:Int) != 0)=true from by simp;omega
 have i11:Hid ((t:Int).tdiv (v1:Int)=((t/v1:Nat):Int)):=show(t:Int).tdiv (v1:Int)=((t/v1:Nat):Int)from rfl
 have i12:Hid ((t:Int).tmod (v1:Int)=((t % v1:Nat):Int)):=show(t:Int).tmod (v1:Int)=((t % v1:Nat):Int)from rfl
 have hq1:t/v1<=t:=ac1 _ _;have hq2:t % v1<v1:=ab8 _ aa;have i13:Hid (Ζ.wrap ((t/v1:Nat):Int)=((t/v1:Nat):Int)):=show Ζ.wrap ((t/v1:Nat):Int)=((t/v1:Nat):Int)from eY aa
 have i14:Hid (Ζ.wrap ((t % v1:Nat):Int)=((t % v1:Nat):Int)):=show Ζ.wrap ((t % v1:Nat):Int)=((t % v1:Nat):Int)from eY aa
 conv=>whnf
 (repeat((first|refine ag rfl rfl ?_|refine aq aD ?_|refine aX Q3 ?_|refine kA Q3 ?_|refine ao Q3 ?_|refine bn Q3 ?_|rw[t1.out]|rw[i1.out]|rw[i2.out]|rw[i3.out]|rw[i4.out]|rw[i5.out]|rw[g1.out]|rw[g2.out]|rw[i6.out]|rw[i7.out]|rw[i8.out]|rw[e0.out]|rw[e1.out]|rw[g4.out]|rw[i9.out]|rw[i11.out]|rw[i12.out]|rw[i13.out]);conv=>whnf))
 have ag7:R<(t/v1+1)*V*S:=Jp (W:=4294967296) hP hS ax (by rw[hv1];exact Ϟ ax hv1a.1) (by rw[ht,hv1]);have hdm:t/v1*v1+t % v1=t:=by rw[Ϣ];exact Nat.div_add_mod t v1
 refine av hE (λk=>k) [4,6,7,8,9,10,12,13] [0,1,39,2001,2002] (λd fr hp=>∃(r:Nat),d<18446744073709551616/\d*v1+r=t/\r<8589934592/\R<(d+1)*V*S/\
  fr=[(4,.aM 39 1 0 (l+1 - n)),(6,.val (.int .i64 s)),(7,.aM 2001 1 0 (l+1)),(8,.aM 2002 1 0 n),(9,.val (.int .i64 n)),(10,.val (.int .i64 k)),(12,.val (.int .u64 d)),(13,.val (.int .u64 r))]/\hp=[(0,⟨23,false,.ints .u32 xs⟩),(1,⟨23,false,.ints .u32 ys⟩),(39,⟨23,true,.ints .u32 q⟩),(2001,⟨23,true,.ints .u32 (bK R (l+1))⟩),(2002,⟨23,true,.ints .u32 (bK V (n+1))⟩)]) (t/v1) ?_ ?_ ?_
 ·kernel_rfl
 ·exact⟨t % v1,aa,hdm,aa,ag7,rfl,rfl⟩
 rintro d _ _ ⟨r,hd64,hdr,hr33,FG,rfl,rfl⟩;by_cases hrW:r<4294967296
 ·have t2:Hid (decide ((r:Int)<=4294967295)=true):=show decide ((r:Int)<=4294967295)=true from decide_eq_true aa
  have j1:Hid (Ζ.wrap ((v2:Nat):Int)=(v2:Int)):=show Ζ.wrap ((v2:Nat):Int)=(v2:Int)from eY aa
  have j2:Hid (ε.wrap ((n:Int) - 2)=((n - 2:Nat):Int)):=show ε.wrap ((n:Int) - 2)=((n - 2:Nat):Int)from by rw[wrap_i64 aa aa];omega
  have j3:Hid (0+((n - 2:Nat):Int).toNat=n - 2):=show 0+((n - 2:Nat):Int).toNat=n - 2 from aa
  have j4:Hid (ε.wrap (((k+n:Nat):Int) - 2)=((k+(n - 2):Nat):Int)):=show ε.wrap (((k+n:Nat):Int) - 2)=((k+(n - 2):Nat):Int)from by rw[wrap_i64 aa aa];omega
  have j5:Hid (0+((k+(n - 2):Nat):Int).toNat=k+(n - 2)):=show 0+((k+(n - 2):Nat):Int).toNat=k+(n - 2)from aa
  have j6:Hid (Ζ.wrap ((u0:Nat):Int)=(u0:Int)):=show Ζ.wrap ((u0:Nat):Int)=(u0:Int)from eY aa
  have j9:Hid (Ζ.wrap ((r:Int)+(v1:Int))=((r+v1:Nat):Int)):=show Ζ.wrap ((r:Int)+(v1:Int))=((r+v1:Nat):Int)from by rw[<-Ϫ,eY aa]
  have Ci:R<d*V*S->0<d/\d - 1<18446744073709551616/\(d - 1)*v1+(r+v1)=t/\r+v1<8589934592/\R<(d - 1+1)*V*S/\Ζ.wrap ((d:Int) - 1)=((d - 1:Nat):Int):=λh=>by
   have w8:0<d:=by
    rcases acX d with rfl|h'
    ·rw[aeC,aeC]at h;exact absurd h (Nat.not_lt_zero _)
    ·exact h'
   have Ob:d - 1+1=d:=Nat.succ_pred_eq_of_pos w8;have hm:d*v1=(d - 1)*v1+v1:=by
    have:=Nat.succ_mul (d - 1) v1;rw[Nat.succ_eq_add_one,Ob]at this;exact this
   refine⟨w8,aa,aa,aa,by rw[Ob];exact h, ?_⟩;rw[show(d:Int) - 1=((d - 1:Nat):Int)from aa,eY aa]
  by_cases hdW:d<4294967296
  ·have t3:Hid (decide ((d:Int)<=4294967295)=true):=show decide ((d:Int)<=4294967295)=true from decide_eq_true aa
   have YG:d*v2<=4294967295*4294967295:=Nat.mul_le_mul aa aa;have j7:Hid (Ζ.wrap ((d:Int)*(v2:Int))=((d*v2:Nat):Int)):=show Ζ.wrap ((d:Int)*(v2:Int))=((d*v2:Nat):Int)from by rw[<-Ρ,eY aa]
   have j8:Hid (ID .u64 (lR .u64 (r:Int) 32) (u0:Int)=((r*4294967296+u0:Nat):Int)):=show ID .u64 (lR .u64 (r:Int) 32) (u0:Int)=((r*4294967296+u0:Nat):Int)from K6 hrW aeG
   by_cases hg:d*v2<=r*4294967296+u0
   ·have t4:Hid (decide (((d*v2:Nat):Int)<=((r*4294967296+u0:Nat):Int))=true):=show decide (((d*v2:Nat):Int)<=((r*4294967296+u0:Nat):Int))=true from decide_eq_true aa
    have BX:d*V*S<=R+V*S:=Nd (W:=4294967296) hP hS ax hdW (by rw[ht,hv1];exact hdr) (by rw[hu0,hv2];exact hg) hVW;conv=>whnf
    (repeat((first|refine ag rfl rfl ?_|refine aq aD ?_|refine aX Q3 ?_|refine kA Q3 ?_|refine ao Q3 ?_|refine an er ?_|rw[t2.out]|rw[t3.out]|rw[j2.out]|rw[j3.out]|rw[g5.out]|rw[j1.out]|rw[i2.out]|rw[j4.out]|rw[j5.out]|rw[g3.out]|rw[j6.out]|rw[j7.out]|rw[j8.out]|rw[t4.out]);conv=>whnf))
    have l1:Hid (ε.wrap (((k+n:Nat):Int)+1)=((k+n+1:Nat):Int)):=show ε.wrap (((k+n:Nat):Int)+1)=((k+n+1:Nat):Int)from by rw[wrap_i64 aa aa];omega
    have l2:Hid (0+(k:Int).toNat=k):=show 0+(k:Int).toNat=k from aa
    have l3:Hid ((((k+n+1:Nat):Int) - (k:Int)).toNat=n+1):=show(((k+n+1:Nat):Int) - (k:Int)).toNat=n+1 from aa
    have l4:Hid (Φ.wrap (d:Int)=(d:Int)):=show Φ.wrap (d:Int)=(d:Int)from qw hdW
    have l5:Hid (ε.wrap ((k:Int) - 1)=(k:Int) - 1):=show ε.wrap ((k:Int) - 1)=(k:Int) - 1 from wrap_i64 aa aa
    have kl:=PC (l+1) k n R d V (bK V (n+1)) aa aa hRB aa aa VB ZX hdW 2001 2002 ax;rw[hSd]at kl;obtain⟨B,hB⟩:∃B,4294967296^(k+n+1)=B:=⟨_,rfl⟩;have hDB:V*S<=B:=by rw[<-hB,<-hSd];exact hVSB
    have Jt:R<B:=by rw[<-hB];exact hRB
    rw[hB]at kl;have PH:=Jm k (gq k);by_cases hneg:R<d*V*S
    ·have t5:Hid (decide (R<d*V*S)=true):=show decide (R<d*V*S)=true from decide_eq_true hneg
     rw[Ϛ]at hneg BX;obtain⟨m1,m2,m3,w8⟩:=GJ hneg BX Jt hDB;rw[<-Ϛ]at m1;have hR1:(R+B - d*V*S) % B<4294967296^(k+n+1):=by rw[hB];exact ab8 _ (ϓ (Γ _) Jt)
     obtain⟨R1,hR1d⟩:∃R1,(R+B - d*V*S) % B=R1:=⟨_,rfl⟩;rw[hR1d]at kl m1 hR1;have abq:(bK R1 (l+1)).length=l+1:=dj _ _;have AI:=iq R1 (l+1);have PD:=pM (L:=l+1) hR1 aa;have abr:∀j,k+n+1<=j->(bK R1 (l+1)).getD j 0=0:=λj hj=>vQ hR1 hj
     have l6:Hid (Ζ.wrap ((d:Int) - 1)=((d - 1:Nat):Int)):=show Ζ.wrap ((d:Int) - 1)=((d - 1:Nat):Int)from by rw[show(d:Int) - 1=((d - 1:Nat):Int)from aa,eY aa]
     (repeat((first|refine ag rfl rfl ?_|refine ao Q3 ?_|refine⟨[_,_],_,[],[_,_],aJ,gC rfl rfl,ak,rZ (η ..) rfl rfl rfl (Δ _ (η ..)) rfl rfl rfl, ?_⟩|rw[l1.out]|rw[l2.out]|rw[l3.out]|rw[t5.out]);conv=>whnf))
     rw[l6.out];generalize hus:bK R1 (l+1)=us at*
     refine av hE (λk=>k) [4,6,7,8,9,10,12,14,128,129,130] [0,1,39,2001,2002] (λm fr hp=>∃(i:Nat) (o:List Int) (c:Nat),m=n - i/\i<=n/\o.length=l+1/\gQ o/\c<=1/\(∀j,k+i<=j->o.getD j 0=us.getD j 0)/\aA o (k+i)+c*4294967296^(k+i)=aA us (k+i)+aA (bK V (n+1)) i*4294967296^k/\
      fr=[(4,.aM 39 1 0 (l+1 - n)),(6,.val (.int .i64 s)),(7,.aM 2001 1 0 (l+1)),(8,.aM 2002 1 0 n),(9,.val (.int .i64 n)),(10,.val (.int .i64 k)),(12,.val (.int .u64 (d - 1:Nat))),(14,.val (.int .u32 c)),(128,.aM 2002 1 0 n),(129,.val (.int .i64 n)),(130,.val (.int .i64 i))]/\hp=[(0,⟨23,false,.ints .u32 xs⟩),(1,⟨23,false,.ints .u32 ys⟩),(39,⟨23,true,.ints .u32 q⟩),(2001,⟨23,true,.ints .u32 o⟩),(2002,⟨23,true,.ints .u32 (bK V (n+1))⟩)]) n ?_ ?_ ?_
     ·kernel_rfl
     ·exact⟨0,us,0,aa,aa,abq,AI,aa,(λ_ _=>rfl),by simp[aA],rfl,rfl⟩
     rintro m _ _ ⟨i,o,c,rfl,hi,hlen,hw,hc,cF,b7,rfl,rfl⟩;obtain⟨x,hx⟩:=Α (AI (k+i)).1;have Om:=(AI (k+i)).2;have YQ:Hid (o.getD (k+i) 0=(x:Int)):=show o.getD (k+i) 0=(x:Int)from by rw[cF _ (ζ _)];exact hx
     by_cases aE:i<n
     ·have t1:Hid (decide ((i:Int)<(n:Int))=true):=show decide ((i:Int)<(n:Int))=true from decide_eq_true aa
      have f1:Hid (0+(i:Int).toNat=i):=show 0+(i:Int).toNat=i from aa
      have f2:Hid (ε.wrap ((k:Int)+(i:Int))=((k+i:Nat):Int)):=show ε.wrap ((k:Int)+(i:Int))=((k+i:Nat):Int)from by rw[wrap_i64 aa aa];omega
      have f3:Hid (0+((k+i:Nat):Int).toNat=k+i):=show 0+((k+i:Nat):Int).toNat=k+i from aa
      have f4:Hid (ε.wrap ((i:Int)+1)=((i+1:Nat):Int)):=show ε.wrap ((i:Int)+1)=((i+1:Nat):Int)from by rw[wrap_i64 aa aa];omega
      obtain⟨w,hww⟩:=Α (VB i).1;have pq:=(VB i).2;have f5:Hid ((bK V (n+1)).getD i 0=(w:Int)):=show(bK V (n+1)).getD i 0=(w:Int)from hww
      have UB:=nP x w c aa aa hc;have cE:=C1 aa hx hww b7;have ot:(x+w+c)/4294967296<=1:=aa;conv=>whnf
      (repeat((first|refine ag rfl rfl ?_|refine aX Q3 ?_|refine ao Q3 ?_|refine aN aJ ?_|rw[t1.out]|rw[f1.out]|rw[f5.out]|rw[f2.out]|rw[f3.out]|rw[YQ.out]);conv=>whnf))
      rw[f4.out];exact⟨n - (i+1),λk=>k,[4,6,7,8,9,10,12,14,128,129,130],[0,1,39,2001,2002],aa,aD,i+1,_,_,rfl,aa,by simpa using hlen,hw.set aa aa,ot,(λj hj=>by rw[aT,if_neg aa];exact cF j aa),cE,rfl,rfl⟩
     ·have nz:i=n:=aa;subst nz;have t1:Hid (decide ((i:Int)<(i:Int))=false):=show decide ((i:Int)<(i:Int))=false from decide_eq_false aa
      have f6:Hid (Φ.wrap ((x:Int)+(c:Int))=(((x+c) % 4294967296:Nat):Int)):=show Φ.wrap ((x:Int)+(c:Int))=(((x+c) % 4294967296:Nat):Int)from by rw[<-Ϫ,rf]
      have f7:Hid (Φ.wrap ((d - 1:Nat):Int)=((d - 1:Nat):Int)):=show Φ.wrap ((d - 1:Nat):Int)=((d - 1:Nat):Int)from qw aa
      have B6:gQ (o.set (k+i) (((x+c) % 4294967296:Nat):Int)):=hw.set aa aa;have jB:=GH aa hx hc aa PD ZX b7 B6;rw[hSd,hB,m1]at jB;have MG:=AH (L:=l+1) (by simpa using hlen) B6 (λj hj=>by rw[aT,if_neg aa,cF j aa];exact abr j hj) aa jB;obtain⟨p1,p2⟩:=vR (U:=X*2^s) m2 m3 hXR;conv=>whnf
      (repeat((first|refine ae rfl rfl ?_|refine aX Q3 ?_|refine ao Q3 ?_|rw[t1.out]|rw[i2.out]|rw[i3.out]|rw[YQ.out]|rw[f6.out]|rw[f7.out]|rw[l2.out]);conv=>whnf))
      rw[l5.out,MG];exact⟨k,λk=>k,[4,6,7,8,9,10],[0,1,39,2001,2002],aa,aD,R - (d - 1)*(V*S),Qv+(d - 1)*S,q.set k ((d - 1:Nat):Int),aa,by rw[hSd];exact p1,p2,by simpa using hql,hqw.set aa aa,(λj hj=>by rw[aT,if_neg aa];exact Jm j aa),by rw[oJ aa aa,hqv,PH,<-db,hSd,aiG,<-Ρ,<-Ϫ],rfl,rfl⟩
    ·have t5:Hid (decide (R<d*V*S)=false):=show decide (R<d*V*S)=false from decide_eq_false hneg
     rw[Ϛ]at hneg FG;have GK:=agK hneg;have jh:=GI (d:=d) (D:=V*S) GK Jt;rw[<-Ϛ]at jh;rw[jh]at kl;obtain⟨p1,p2⟩:=vR (U:=X*2^s) GK FG hXR;rw[<-Ϛ]at p1 p2
     (repeat((first|refine ae rfl rfl ?_|refine aX Q3 ?_|refine ao Q3 ?_|refine⟨[_,_],_,[],[_,_],aJ,gC rfl rfl,ak,rZ (η ..) rfl rfl rfl (Δ _ (η ..)) rfl rfl rfl, ?_⟩|rw[l1.out]|rw[l2.out]|rw[l3.out]|rw[t5.out]|rw[l4.out]);conv=>whnf))
     rw[l5.out];exact⟨k,λk=>k,[4,6,7,8,9,10],[0,1,39,2001,2002],aa,aD,R - d*V*S,Qv+d*S,q.set k (d:Int),aa,by rw[hSd];exact p1,p2,by simpa using hql,hqw.set aa aa,(λj hj=>by rw[aT,if_neg aa];exact Jm j aa),by rw[oJ aa aa,hqv,PH,<-db,hSd,aiG,<-Ρ,<-Ϫ],rfl,rfl⟩
   ·have t4:Hid (decide (((d*v2:Nat):Int)<=((r*4294967296+u0:Nat):Int))=false):=show decide (((d*v2:Nat):Int)<=((r*4294967296+u0:Nat):Int))=false from decide_eq_false aa
    have qv:R<d*V*S:=PE (W:=4294967296) hP hS ax (by rw[ht,hv1];exact hdr) (by rw[hu0,hv2];omega);obtain⟨n1,n2,n3,n4,n5,n6⟩:=Ci qv;conv=>whnf
    (repeat((first|refine ag rfl rfl ?_|refine ae rfl rfl ?_|refine aq aD ?_|refine aX Q3 ?_|refine kA Q3 ?_|refine ao Q3 ?_|refine an er ?_|rw[t2.out]|rw[t3.out]|rw[j2.out]|rw[j3.out]|rw[g5.out]|rw[j1.out]|rw[i2.out]|rw[j4.out]|rw[j5.out]|rw[g3.out]|rw[j6.out]|rw[j7.out]|rw[j8.out]|rw[t4.out]|rw[e0.out]|rw[e1.out]|rw[g4.out]|rw[i9.out]);conv=>whnf))
    rw[j9.out,n6];exact⟨d - 1,λk=>k,[4,6,7,8,9,10,12,13],[0,1,39,2001,2002],aa,aD,r+v1,n2,n3,n4,n5,rfl,rfl⟩
  ·have t3:Hid (decide ((d:Int)<=4294967295)=false):=show decide ((d:Int)<=4294967295)=false from decide_eq_false aa
   have qv:R<d*V*S:=by
    have h1:4294967296*(V*S)<=d*(V*S):=Nat.mul_le_mul_right _ aa;rw[Ϛ];refine Ϟ lN (Ι (Nat.le_of_eq ?_) h1);rw[Ϣ 4294967296,Ϛ]
   obtain⟨n1,n2,n3,n4,n5,n6⟩:=Ci qv;conv=>whnf
   (repeat((first|refine ag rfl rfl ?_|refine ae rfl rfl ?_|refine aq aD ?_|refine aX Q3 ?_|refine ao Q3 ?_|refine an dZ ?_|rw[t2.out]|rw[t3.out]|rw[e0.out]|rw[e1.out]|rw[g4.out]|rw[i9.out]);conv=>whnf))
   rw[j9.out,n6];exact⟨d - 1,λk=>k,[4,6,7,8,9,10,12,13],[0,1,39,2001,2002],aa,aD,r+v1,n2,n3,n4,n5,rfl,rfl⟩
 ·have t2:Hid (decide ((r:Int)<=4294967295)=false):=show decide ((r:Int)<=4294967295)=false from decide_eq_false aa
  have hdW:d<4294967296:=Jo (W:=4294967296) hP hS ax (by rw[ht,hv1];exact hdr) aa lN;have BX:d*V*S<=R+V*S:=Ι (Nf (W:=4294967296) hP hS ax hdW (by rw[ht,hv1];exact hdr) aa) (Nat.le_add_right _ _);conv=>whnf
  (repeat(first|(refine ae rfl rfl ?_;conv=>whnf)|(rw[t2.out];conv=>whnf)))
  have l1:Hid (ε.wrap (((k+n:Nat):Int)+1)=((k+n+1:Nat):Int)):=show ε.wrap (((k+n:Nat):Int)+1)=((k+n+1:Nat):Int)from by rw[wrap_i64 aa aa];omega
  have l2:Hid (0+(k:Int).toNat=k):=show 0+(k:Int).toNat=k from aa
  have l3:Hid ((((k+n+1:Nat):Int) - (k:Int)).toNat=n+1):=show(((k+n+1:Nat):Int) - (k:Int)).toNat=n+1 from aa
  have l4:Hid (Φ.wrap (d:Int)=(d:Int)):=show Φ.wrap (d:Int)=(d:Int)from qw hdW
  have l5:Hid (ε.wrap ((k:Int) - 1)=(k:Int) - 1):=show ε.wrap ((k:Int) - 1)=(k:Int) - 1 from wrap_i64 aa aa
  have kl:=PC (l+1) k n R d V (bK V (n+1)) aa aa hRB aa aa VB ZX hdW 2001 2002 ax;rw[hSd]at kl;obtain⟨B,hB⟩:∃B,4294967296^(k+n+1)=B:=⟨_,rfl⟩;have hDB:V*S<=B:=by rw[<-hB,<-hSd];exact hVSB
  have Jt:R<B:=by rw[<-hB];exact hRB
  rw[hB]at kl;have PH:=Jm k (gq k);by_cases hneg:R<d*V*S
  ·have t5:Hid (decide (R<d*V*S)=true):=show decide (R<d*V*S)=true from decide_eq_true hneg
   rw[Ϛ]at hneg BX;obtain⟨m1,m2,m3,w8⟩:=GJ hneg BX Jt hDB;rw[<-Ϛ]at m1;have hR1:(R+B - d*V*S) % B<4294967296^(k+n+1):=by rw[hB];exact ab8 _ (ϓ (Γ _) Jt)
   obtain⟨R1,hR1d⟩:∃R1,(R+B - d*V*S) % B=R1:=⟨_,rfl⟩;rw[hR1d]at kl m1 hR1;have abq:(bK R1 (l+1)).length=l+1:=dj _ _;have AI:=iq R1 (l+1);have PD:=pM (L:=l+1) hR1 aa;have abr:∀j,k+n+1<=j->(bK R1 (l+1)).getD j 0=0:=λj hj=>vQ hR1 hj
   have l6:Hid (Ζ.wrap ((d:Int) - 1)=((d - 1:Nat):Int)):=show Ζ.wrap ((d:Int) - 1)=((d - 1:Nat):Int)from by rw[show(d:Int) - 1=((d - 1:Nat):Int)from aa,eY aa]
   (repeat((first|refine ag rfl rfl ?_|refine ao Q3 ?_|refine⟨[_,_],_,[],[_,_],aJ,gC rfl rfl,ak,rZ (η ..) rfl rfl rfl (Δ _ (η ..)) rfl rfl rfl, ?_⟩|rw[i2.out]|rw[l1.out]|rw[l2.out]|rw[l3.out]|rw[t5.out]);conv=>whnf))
   rw[l6.out];generalize hus:bK R1 (l+1)=us at*
   refine av hE (λk=>k) [4,6,7,8,9,10,12,14,128,129,130] [0,1,39,2001,2002] (λm fr hp=>∃(i:Nat) (o:List Int) (c:Nat),m=n - i/\i<=n/\o.length=l+1/\gQ o/\c<=1/\(∀j,k+i<=j->o.getD j 0=us.getD j 0)/\aA o (k+i)+c*4294967296^(k+i)=aA us (k+i)+aA (bK V (n+1)) i*4294967296^k/\
    fr=[(4,.aM 39 1 0 (l+1 - n)),(6,.val (.int .i64 s)),(7,.aM 2001 1 0 (l+1)),(8,.aM 2002 1 0 n),(9,.val (.int .i64 n)),(10,.val (.int .i64 k)),(12,.val (.int .u64 (d - 1:Nat))),(14,.val (.int .u32 c)),(128,.aM 2002 1 0 n),(129,.val (.int .i64 n)),(130,.val (.int .i64 i))]/\hp=[(0,⟨23,false,.ints .u32 xs⟩),(1,⟨23,false,.ints .u32 ys⟩),(39,⟨23,true,.ints .u32 q⟩),(2001,⟨23,true,.ints .u32 o⟩),(2002,⟨23,true,.ints .u32 (bK V (n+1))⟩)]) n ?_ ?_ ?_
   ·kernel_rfl
   ·exact⟨0,us,0,aa,aa,abq,AI,aa,(λ_ _=>rfl),by simp[aA],rfl,rfl⟩
   rintro m _ _ ⟨i,o,c,rfl,hi,hlen,hw,hc,cF,b7,rfl,rfl⟩;obtain⟨x,hx⟩:=Α (AI (k+i)).1;have Om:=(AI (k+i)).2;have YQ:Hid (o.getD (k+i) 0=(x:Int)):=show o.getD (k+i) 0=(x:Int)from by rw[cF _ (ζ _)];exact hx
   by_cases aE:i<n
   ·have t1:Hid (decide ((i:Int)<(n:Int))=true):=show decide ((i:Int)<(n:Int))=true from decide_eq_true aa
    have f1:Hid (0+(i:Int).toNat=i):=show 0+(i:Int).toNat=i from aa
    have f2:Hid (ε.wrap ((k:Int)+(i:Int))=((k+i:Nat):Int)):=show ε.wrap ((k:Int)+(i:Int))=((k+i:Nat):Int)from by rw[wrap_i64 aa aa];omega
    have f3:Hid (0+((k+i:Nat):Int).toNat=k+i):=show 0+((k+i:Nat):Int).toNat=k+i from aa
    have f4:Hid (ε.wrap ((i:Int)+1)=((i+1:Nat):Int)):=show ε.wrap ((i:Int)+1)=((i+1:Nat):Int)from by rw[wrap_i64 aa aa];omega
    obtain⟨w,hww⟩:=Α (VB i).1;have pq:=(VB i).2;have f5:Hid ((bK V (n+1)).getD i 0=(w:Int)):=show(bK V (n+1)).getD i 0=(w:Int)from hww
    have UB:=nP x w c aa aa hc;have cE:=C1 aa hx hww b7;have ot:(x+w+c)/4294967296<=1:=aa;conv=>whnf
    (repeat((first|refine ag rfl rfl ?_|refine aX Q3 ?_|refine ao Q3 ?_|refine aN aJ ?_|rw[t1.out]|rw[f1.out]|rw[f5.out]|rw[f2.out]|rw[f3.out]|rw[YQ.out]);conv=>whnf))
    rw[f4.out];exact⟨n - (i+1),λk=>k,[4,6,7,8,9,10,12,14,128,129,130],[0,1,39,2001,2002],aa,aD,i+1,_,_,rfl,aa,by simpa using hlen,hw.set aa aa,ot,(λj hj=>by rw[aT,if_neg aa];exact cF j aa),cE,rfl,rfl⟩
   ·have nz:i=n:=aa;subst nz;have t1:Hid (decide ((i:Int)<(i:Int))=false):=show decide ((i:Int)<(i:Int))=false from decide_eq_false aa
    have f6:Hid (Φ.wrap ((x:Int)+(c:Int))=(((x+c) % 4294967296:Nat):Int)):=show Φ.wrap ((x:Int)+(c:Int))=(((x+c) % 4294967296:Nat):Int)from by rw[<-Ϫ,rf]
    have f7:Hid (Φ.wrap ((d - 1:Nat):Int)=((d - 1:Nat):Int)):=show Φ.wrap ((d - 1:Nat):Int)=((d - 1:Nat):Int)from qw aa
    have B6:gQ (o.set (k+i) (((x+c) % 4294967296:Nat):Int)):=hw.set aa aa;have jB:=GH aa hx hc aa PD ZX b7 B6;rw[hSd,hB,m1]at jB;have MG:=AH (L:=l+1) (by simpa using hlen) B6 (λj hj=>by rw[aT,if_neg aa,cF j aa];exact abr j hj) aa jB;obtain⟨p1,p2⟩:=vR (U:=X*2^s) m2 m3 hXR;conv=>whnf
    (repeat((first|refine ae rfl rfl ?_|refine aX Q3 ?_|refine ao Q3 ?_|rw[t1.out]|rw[i2.out]|rw[i3.out]|rw[YQ.out]|rw[f6.out]|rw[f7.out]|rw[l2.out]);conv=>whnf))
    rw[l5.out,MG];exact⟨k,λk=>k,[4,6,7,8,9,10],[0,1,39,2001,2002],aa,aD,R - (d - 1)*(V*S),Qv+(d - 1)*S,q.set k ((d - 1:Nat):Int),aa,by rw[hSd];exact p1,p2,by simpa using hql,hqw.set aa aa,(λj hj=>by rw[aT,if_neg aa];exact Jm j aa),by rw[oJ aa aa,hqv,PH,<-db,hSd,aiG,<-Ρ,<-Ϫ],rfl,rfl⟩
  ·have t5:Hid (decide (R<d*V*S)=false):=show decide (R<d*V*S)=false from decide_eq_false hneg
   rw[Ϛ]at hneg FG;have GK:=agK hneg;have jh:=GI (d:=d) (D:=V*S) GK Jt;rw[<-Ϛ]at jh;rw[jh]at kl;obtain⟨p1,p2⟩:=vR (U:=X*2^s) GK FG hXR;rw[<-Ϛ]at p1 p2
   (repeat((first|refine ae rfl rfl ?_|refine aX Q3 ?_|refine ao Q3 ?_|refine⟨[_,_],_,[],[_,_],aJ,gC rfl rfl,ak,rZ (η ..) rfl rfl rfl (Δ _ (η ..)) rfl rfl rfl, ?_⟩|rw[i2.out]|rw[l1.out]|rw[l2.out]|rw[l3.out]|rw[t5.out]|rw[l4.out]);conv=>whnf))
   rw[l5.out];exact⟨k,λk=>k,[4,6,7,8,9,10],[0,1,39,2001,2002],aa,aD,R - d*V*S,Qv+d*S,q.set k (d:Int),aa,by rw[hSd];exact p1,p2,by simpa using hql,hqw.set aa aa,(λj hj=>by rw[aT,if_neg aa];exact Jm j aa),by rw[oJ aa aa,hqv,PH,<-db,hSd,aiG,<-Ρ,<-Ϫ],rfl,rfl⟩
