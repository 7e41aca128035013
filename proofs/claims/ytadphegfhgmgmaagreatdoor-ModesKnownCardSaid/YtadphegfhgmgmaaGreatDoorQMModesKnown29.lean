/- The texts Au. -/
import Derived.Test.YtadphegfhgmgmaaGreatDoorQMModesKnown27
set_option linter.unusedSimpArgs false
set_option linter.unusedVariables false
set_option maxHeartbeats 40000000
set_option maxRecDepth 100000
open Go.IntKind renaming i64->ε
open Go.Lit renaming int->Ϸ
open Rat renaming div_def->Ϡ,mul_comm->afY,mul_inv_cancel->Ν,one_mul->ahW
namespace Go.Proofs.YtadphegfhgmgmaaGreatDoor
open Go.Sx
theorem u5 {a b:Rat} (h:a<=b):decide ((a - b).num.sign>0)=false/\decide ((a - b).num.sign<=0)=true:=by
 have h1:¬0<(a - b).num:=λg=>by
  have h2:0<=a - b:=Rat.num_nonneg.1 aa;have h3:a - b=0:=by grind
  rw[h3]at g;exact absurd g ax
 rcases Int.lt_trichotomy (a - b).num 0 with g|g|g
 ·rw[Int.sign_eq_neg_one_of_neg g];exact⟨rfl,rfl⟩
 ·rw[g];exact⟨rfl,rfl⟩
 ·exact absurd g h1
theorem Oe.SG {m z:Rat->Nat} {i:Nat} {step low high:Rat} (h:Oe m z i step low high):∃j:Int,low=j*step:=by
 obtain⟨k,hk⟩:=h.mult;rcases h.or with⟨h1,_⟩|⟨h1,_⟩
 ·exact⟨k,h1.trans hk⟩
 ·refine⟨k - 1, ?_⟩;rw[h1,hk,Rat.intCast_sub];have:((1:Int):Rat)=1:=rfl;grind
theorem BG {j:Int} {low:Rat} {p:Nat} (h:low=j*(1/2^p)):(low*2^p).den=1:=by
 have hp:(1/2^p:Rat)*2^p=1:=by
  rw[Ϡ,ahW,afY];exact Ν _ (by have:=two_pos p;grind)
 rw[h,Rat.mul_assoc,hp,Rat.mul_one];exact Rat.den_intCast _
theorem step_pos (p:Nat):(0:Rat)<1/2^p:=by rw[Ϡ,ahW];exact Rat.inv_pos.2 (two_pos p)
theorem SH (p q:Nat):(1/2^p:Rat)=(((2:Int)^q:Int):Rat)*(1/2^(p+q)):=by
 have h1:=two_pos p;have h2:=two_pos q;rw[<-uY,wF,Ϡ,Ϡ,ahW,ahW,Rat.inv_mul_rev];have:=Ν ((2:Rat)^q) (by grind);grind
theorem nk.bracket {n B C e k places:Nat} {a m:List Rat} (h:nk n B C a m) (h2:2<=C) (hs:B+C<=20000) (hk:k<n) (hp:places<=100) (he:e<=70) (h1:fg n a m (2^e)) (h0:∀k,k<e->¬fg n a m (2^k)):
  ∃low high:Rat,C0 39 [mA n n a,mA n n m,iv (k:Nat),iv (places:Nat)] (.bQ [.frac low,.frac high,iv 0])/\Oe (λt=>(aB n a m t).m) (λt=>(aB n a m t).left) k (1/2^places) low high/\fs low<=1000/\fs high<=1000:=by
 obtain⟨R,low,hR,hl,kB,f1,f2⟩:=lE (k:=k) (places:=places) h h2 hs hk hp he h1 h0;exact⟨low,_,kB,(h.brk hk h1 hR).2 low hl,f1,f2⟩
theorem acw (l b:List (Int×Int)) (n k places more:Int) (hl:Kb l) (hb:Kb b) (hn:0<=n/\n<256) (hk:0<=k/\k<256) (hp:0<=places/\places<256) (hm:0<=more/\more<256):
  C0 7 [lQ l,lQ b,gB .u8 n,gB .u8 k,gB .u8 places,gB .u8 more] (.val (.bool true)):=by
 have kw:=gX;have kf:=nY [l,b] (by simp) (zr hl.1 hb.1);cases hF:[l,b].all λl=>decide (l.length<=40)
 ·rw[hF]at kf;refine bB [40] Tryz.func7 ?_;intro W0 w0 ρ0 hE;conv=>whnf
  (repeat(first|(refine ag rfl rfl ?_;conv=>whnf)|(refine aN aJ ?_;conv=>whnf)));exact Q4
 rw[hF]at kf;obtain⟨e1,e2⟩:=jW n hn 4 ax;have r3:(n % 4).toNat<=3:=aa;obtain⟨r,hr⟩:∃r,r=(n % 4).toNat+1:=⟨_,rfl⟩;have e3:ε.wrap (1+(((n % 4).toNat:Nat):Int))=((r:Nat):Int):=by rw[wrap_i64 aa aa];omega
 generalize (n % 4).toNat=r0 at*;have r5:r<=5:=aa;obtain⟨K,rfl⟩:∃K:Nat,k=K:=⟨k.toNat,aa⟩;have e4:ε.wrap ((K:Nat):Int)=((K:Nat):Int):=wrap_i64 aa aa;obtain⟨i,hi⟩:∃i,i=K % r:=⟨_,rfl⟩;have Lh:i<r:=by rw[hi];exact Nat.mod_lt _ aa
 have e5:((K:Nat):Int).tmod ((r:Nat):Int)=((i:Nat):Int):=by
  rw[Int.tmod_eq_emod_of_nonneg aa,<-Int.natCast_emod,<-hi]
 obtain⟨e6,e7⟩:=jW places hp 13 ax;have p12:(places % 13).toNat<=12:=aa;generalize (places % 13).toNat=p at*;obtain⟨e8,e9⟩:=jW more hm 9 ax;have q8:(more % 9).toNat<=8:=aa;generalize (more % 9).toNat=q at*;have GG:ε.wrap (((p:Nat):Int)+((q:Nat):Int))=((p+q:Nat):Int):=by rw[wrap_i64 aa aa];omega
 have kp:=nm l b hl hb r5;have P:=nX hl.2 hb.2 r5;obtain⟨e,he,h1,h0⟩:=H4 hl.2 hb.2 r5;generalize qz l r=a at*;generalize fH b r=m at*;obtain⟨low,high,k1,B1,f1,f2⟩:=P.bracket (k:=i) (places:=p) ax ax Lh aa aa h1 h0;obtain⟨low',high',k2,B2,f3,f4⟩:=P.bracket (k:=i) (places:=p+q) ax ax Lh aa aa h1 h0;obtain⟨n1,n2,n3⟩:=B1.nest P.steps (step_pos _) (SH p q) B2;have k3:=Rx p aa;have c1:C0 35 [iv 1] (.frac 1):=dH 1 ax ax;have c2:C0 35 [iv 2] (.frac 2):=dH 2 ax ax;have fp:=mi p;have k4:=pa low (2^p) aa;have k5:=pJ (low*2^p);obtain⟨j1,hj1⟩:=B1.SG;rw[decide_eq_true (BG hj1)]at k5;have k6:=pa high (2^p) aa;have k7:=pJ (high*2^p);obtain⟨j2,RL⟩:=B1.mult;rw[decide_eq_true (BG RL)]at k7;have g1:=yc low low' aa;have g2:=yc high' high aa;have g3:=yc low' high' aa;have t1:=(u5 n1).1;have t2:=(u5 n2).1;have t3:=(u5 n3).1;have k8:=Hx high low aa;have ahN:=rh high low;have k9:=pa (high - low) (2^p) aa;have k10:=P.count (T:=1000) low f1 ax ax;have k11:=P.count (T:=1000) high f2 ax ax;have s1:=P.sum low;have s2:=P.sum high;have b1:=B1.below;have b2:=B1.top;have b3:=B1.or
 replace b1:(aB r a m low).m<=i:=b1
 replace b2:i<(aB r a m high).m+(aB r a m high).left:=b2
 replace b3:(low=high/\(aB r a m high).m<=i)\/(low=high - 1/2^p/\i<(aB r a m high).m/\(aB r a m low).m+(aB r a m low).left<=i):=b3
 have t4:decide ((((aB r a m low).m:Nat):Int)>((i:Nat):Int))=false:=decide_eq_false aa;have w1:ε.wrap ((((aB r a m high).m:Nat):Int)+(((aB r a m high).left:Nat):Int))=(((aB r a m high).m+(aB r a m high).left:Nat):Int):=by rw[wrap_i64 aa aa];omega
 have t5:decide ((((aB r a m high).m+(aB r a m high).left:Nat):Int)<=((i:Nat):Int))=false:=decide_eq_false aa;have k12:i≠0->∃low'' high'':Rat,C0 39 [mA r r a,mA r r m,iv ((i - 1:Nat)),iv (p:Nat)] (.bQ [.frac low'',.frac high'',iv 0])/\low''<=low/\high''<=high/\fs low''<=1000/\fs high''<=1000:=λhi0=>by
  obtain⟨lo,hg,kb,B3,f5,f6⟩:=P.bracket (k:=i - 1) (places:=p) ax ax aa aa aa h1 h0;obtain⟨a1,a2⟩:=B3.abF P.steps (step_pos p) aa B1;exact⟨lo,hg,kb,a1,a2,f5,f6⟩
 have hw:low≠high->(high - low)*2^p=1:=λa8=>by
  rcases b3 with⟨g,_⟩|⟨g,_⟩
  ·exact absurd g a8
  ·rw[g];have hp1:(1/2^p:Rat)*2^p=1:=by
    rw[Ϡ,ahW,afY];exact Ν _ (by have:=two_pos p;grind)
   have:(high - (high - 1/2^p))*2^p=(1/2^p)*2^p:=by grind
   rw[this,hp1]
 clear B1 B2 P h1 h0 n1 n2 n3 hj1 RL fp ahN hF hl hb hn hk hp hm he;generalize (2:Rat)^p=sc at*;generalize (1:Rat)/sc=st at*;by_cases hlh:low=high
 ·subst hlh;have b4:(aB r a m low).left≠0:=aa;generalize aB r a m low=F at*;have t6:decide (low=low)=true:=decide_eq_true rfl;have t7:(((F.left:Nat):Int)==0)=false:=beq_eq_false_iff_ne.2 aa;have t8:(!decide (low=low))=false:=by rw[t6];rfl
  clear b3 hw;by_cases hi0:i=0
  ·have t9:(((i:Nat):Int)==0)=true:=by rw[hi0];rfl
   clear k12;refine bB [40] Tryz.func7 ?_;intro W0 w0 ρ0 hE;conv=>whnf
   (repeat((first|refine ag rfl rfl ?_|refine ae rfl rfl ?_|refine aq aD ?_|refine bn Q3 ?_|refine aN aJ ?_|refine an er ?_|refine an dZ ?_|rw[bne_self_eq_false]|refine aG t3 ?_|refine ay t6 ?_|refine aG t8 ?_|refine ay t9 ?_|refine⟨_,bV aH cd rfl (ai rfl) (ai rfl) rfl rfl rfl rfl (cQ _ _) b8, ?_⟩|refine⟨_,fE aH cd rfl (ai rfl) (ai rfl) rfl rfl rfl rfl (cQ _ _) b8, ?_⟩|rw[e2]|rw[e3]|rw[e4]|rw[e5]|rw[e7]|rw[e9]|rw[GG]|rw[t1]|rw[t2]|rw[t3]|rw[t4]|rw[w1]|rw[t5]|rw[t6]|rw[t7]);conv=>whnf));exact Q4
  ·have t9:(((i:Nat):Int)==0)=false:=beq_eq_false_iff_ne.2 aa;have w2:ε.wrap (((i:Nat):Int) - 1)=((i - 1:Nat):Int):=by rw[wrap_i64 aa aa];omega
   obtain⟨lo,hg,kb,a1,a2,f5,f6⟩:=k12 hi0;have g4:=yc lo low aa;have g5:=yc hg low aa;have t10:=(u5 a1).2;have t11:=(u5 a2).2;refine bB [40] Tryz.func7 ?_;intro W0 w0 ρ0 hE;conv=>whnf
   (repeat((first|refine ag rfl rfl ?_|refine ae rfl rfl ?_|refine aq aD ?_|refine bn Q3 ?_|refine aN aJ ?_|refine an er ?_|refine an dZ ?_|rw[beq_self_eq_true]|rw[bne_self_eq_false]|refine aG t3 ?_|refine ay t6 ?_|refine aG t8 ?_|refine aG t9 ?_|refine ay t10 ?_|refine ay t11 ?_|refine⟨_,bV aH cd rfl (ai rfl) (ai rfl) rfl rfl rfl rfl (cQ _ _) b8, ?_⟩|refine⟨_,fE aH cd rfl (ai rfl) (ai rfl) rfl rfl rfl rfl (cQ _ _) b8, ?_⟩|rw[e2]|rw[e3]|rw[e4]|rw[e5]|rw[e7]|rw[e9]|rw[GG]|rw[t1]|rw[t2]|rw[t3]|rw[t4]|rw[w1]|rw[t5]|rw[t6]|rw[t7]|rw[t9]|rw[w2]|rw[t10]|rw[t11]);conv=>whnf));exact Q4
 ·have UO:=hw hlh;rw[UO]at k9;have b5:i<(aB r a m high).m/\(aB r a m low).m+(aB r a m low).left<=i:=by
   rcases b3 with⟨g,_⟩|⟨_,g⟩
   ·exact absurd g hlh
   ·exact g
  generalize aB r a m low=F at*;generalize aB r a m high=G at*;have t6:decide (low=high)=false:=decide_eq_false hlh;have t8:(!decide (low=high))=true:=by rw[t6];rfl
  have t7:(!decide ((1:Rat)=1))=false:=ax;have w3:ε.wrap (((F.m:Nat):Int)+((F.left:Nat):Int))=((F.m+F.left:Nat):Int):=by rw[wrap_i64 aa aa];omega
  have t12:decide (((F.m+F.left:Nat):Int)>((i:Nat):Int))=false:=decide_eq_false aa;have t13:decide (((G.m:Nat):Int)<=((i:Nat):Int))=false:=decide_eq_false aa;clear b3 hw;by_cases hi0:i=0
  ·have t9:(((i:Nat):Int)==0)=true:=by rw[hi0];rfl
   clear k12;refine bB [40] Tryz.func7 ?_;intro W0 w0 ρ0 hE;conv=>whnf
   (repeat((first|refine ag rfl rfl ?_|refine ae rfl rfl ?_|refine aq aD ?_|refine bn Q3 ?_|refine aN aJ ?_|refine an er ?_|refine an dZ ?_|rw[bne_self_eq_false]|refine aG t3 ?_|refine aG t6 ?_|refine ay t8 ?_|refine aG t13 ?_|refine ay t9 ?_|refine⟨_,bV aH cd rfl (ai rfl) (ai rfl) rfl rfl rfl rfl (cQ _ _) b8, ?_⟩|refine⟨_,fE aH cd rfl (ai rfl) (ai rfl) rfl rfl rfl rfl (cQ _ _) b8, ?_⟩|rw[e2]|rw[e3]|rw[e4]|rw[e5]|rw[e7]|rw[e9]|rw[GG]|rw[t1]|rw[t2]|rw[t3]|rw[t4]|rw[w1]|rw[t5]|rw[t6]|rw[t7]|rw[w3]|rw[t12]);conv=>whnf));exact Q4
  ·have t9:(((i:Nat):Int)==0)=false:=beq_eq_false_iff_ne.2 aa;have w2:ε.wrap (((i:Nat):Int) - 1)=((i - 1:Nat):Int):=by rw[wrap_i64 aa aa];omega
   obtain⟨lo,hg,kb,a1,a2,f5,f6⟩:=k12 hi0;have g4:=yc lo low aa;have g5:=yc hg high aa;have t10:=(u5 a1).2;have t11:=(u5 a2).2;refine bB [40] Tryz.func7 ?_;intro W0 w0 ρ0 hE;conv=>whnf
   (repeat((first|refine ag rfl rfl ?_|refine ae rfl rfl ?_|refine aq aD ?_|refine bn Q3 ?_|refine aN aJ ?_|refine an er ?_|refine an dZ ?_|rw[beq_self_eq_true]|rw[bne_self_eq_false]|refine aG t3 ?_|refine aG t6 ?_|refine ay t8 ?_|refine aG t13 ?_|refine aG t9 ?_|refine ay t10 ?_|refine ay t11 ?_|refine⟨_,bV aH cd rfl (ai rfl) (ai rfl) rfl rfl rfl rfl (cQ _ _) b8, ?_⟩|refine⟨_,fE aH cd rfl (ai rfl) (ai rfl) rfl rfl rfl rfl (cQ _ _) b8, ?_⟩|rw[e2]|rw[e3]|rw[e4]|rw[e5]|rw[e7]|rw[e9]|rw[GG]|rw[t1]|rw[t2]|rw[t3]|rw[t4]|rw[w1]|rw[t5]|rw[t6]|rw[t7]|rw[w3]|rw[t12]|rw[t13]|rw[t9]|rw[w2]|rw[t10]|rw[t11]);conv=>whnf));exact Q4
theorem pd (a0 a1:List (Int×Int)) (a2 a3 a4 a5:Int) (w0:yg a0) (w1:yg a1) (w2:(Ϸ .u8 a2).wf=true) (w3:(Ϸ .u8 a3).wf=true) (w4:(Ϸ .u8 a4).wf=true) (w5:(Ϸ .u8 a5).wf=true):
  C0 7 [bN 2 qA a0,bN 2 qA a1,gB .u8 a2,gB .u8 a3,gB .u8 a4,gB .u8 a5] (.val (.bool true)):=
 acw a0 a1 a2 a3 a4 a5 ⟨w0.1,gF w0⟩ ⟨w1.1,gF w1⟩ (wf_u8 w2) (wf_u8 w3) (wf_u8 w4) (wf_u8 w5)
