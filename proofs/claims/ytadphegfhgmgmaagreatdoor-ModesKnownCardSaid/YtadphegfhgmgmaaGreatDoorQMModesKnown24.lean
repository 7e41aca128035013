/- The texts Ah. -/
import Derived.Test.YtadphegfhgmgmaaGreatDoorQMModesKnown23
set_option linter.unusedSimpArgs false
set_option linter.unusedVariables false
set_option maxHeartbeats 40000000
set_option maxRecDepth 100000
open Go.IntKind renaming i64->ε
open Int renaming toNat_natCast->ι
open List renaming getD_eq_getElem?_getD->δ,getElem?_eq_none->Ϙ,length_set->ϒ,replicate->θ
open Nat renaming le_refl->ζ,le_self_pow->alM,le_trans->Ι,mul_assoc->Ϛ,mul_le_mul_left->ϧ,mul_le_mul_right->ο,pow_le_pow_right->ύ,pow_succ->ϙ,zero_add->υ
namespace Go.Proofs.YtadphegfhgmgmaaGreatDoor
open Go.Sx
theorem zq (i:Nat) (h:i<=8):fs (((i:Nat):Int):Rat)<=130:=by
 have:∀i,i<9->fs (((i:Nat):Int):Rat)<=130:=by decide+kernel
 exact this i aa
theorem Fm {v:List Rat} {p B C:Nat} {x:Rat} (h:∀q,fs (v.getD q 0)<=B) (hB:B<=C) (hx:fs x<=C):∀q,fs ((v.set p x).getD q 0)<=C:=λq=>by
 have h0:2<=fs x:=PM x;by_cases e:q=p
 ·subst e;by_cases hq:q<v.length
  ·rw[p0 hq];exact hx
  ·rw[δ,Ϙ (by rw[ϒ];omega)];have:fs (0:Rat)<=C:=by rw[et];omega
   exact this
 ·rw[gT e];exact Ι (h q) hB
theorem acs (G E:Nat) (h:E+130<=1000000000):2*G+130+(E+130)+2000000000<=2*(G+2000000000):=aa
theorem wI {n B C:Nat} {a m:List Rat} (h:nk n B C a m) (hn4:n<=4) (h2:2<=C) (hs:B+(130+C)<=10000):
  C0 20 [mA n n a,mA n n m] (.bQ [bx (wH n a m),iv 0]):=by
 have k1:=dL (h.ok h2 aa);have kF:∀t:Nat,t<=8->C0 35 [iv (t:Nat)] (.frac (((t:Nat):Int):Rat)):=λt ht=>dH _ aa aa
 have lV:=HS n a m;have gV:∀t,t<n+1->(Fk n a m).getD t 0=bz n (el (mk n n (iC n a m (((t:Nat):Int):Rat))) n):=λt ht=>HT ht
 have sB:∀t:Nat,t<=8->Sm 10000 (mk n n (iC n a m (((t:Nat):Int):Rat))):=λt ht=>C4 λi k hi hk=>by
  have h0:=zq t ht;have h1:=h.size h0 (ζ _) i k hi hk;have h3:=rh (a.getD (i*n+k) 0) ((((t:Nat):Int):Rat)*m.getD (i*n+k) 0);have h4:=cH (((t:Nat):Int):Rat) (m.getD (i*n+k) 0);show fs (a.getD (i*n+k) 0 - (((t:Nat):Int):Rat)*m.getD (i*n+k) 0)<=10000;omega
 have oB:∀t:Nat,fa n n (mk n n (iC n a m (((t:Nat):Int):Rat))):=λt=>JW h.ka.r h.ka.c
 have kD:∀t:Nat,t<n+1->C0 67 [mA n n (mk n n (iC n a m (((t:Nat):Int):Rat)))] (.bQ [.frac ((Fk n a m).getD t 0),iv 0]):=λt ht=>by
  rw[gV t ht];exact acm (oB t) aa (sB t aa) ax ax
 have sV:∀q,fs ((Fk n a m).getD q 0)<=40960000:=λq=>by
  by_cases hq:q<n+1
  ·rw[gV q hq];exact acq (oB q) aa (sB q aa) ax
  ·rw[δ,Ϙ aa];have:fs (0:Rat)<=40960000:=by rw[et];decide
   exact this
 have ha:=h.ka;have hm:=h.km;have hz:=λt ht=>h.size (T:=130) (zq t ht) (ζ _)
 obtain⟨R,hR⟩:∃R,wH n a m=R:=⟨_,rfl⟩;unfold wH at hR;rw[show wH n a m=R from hR];clear gV sB oB;generalize Fk n a m=V at*;obtain⟨N,hN⟩:∃N,IJ n n V=N:=⟨_,rfl⟩;rw[hN]at hR;have w1:=bW (i:=n) aa;refine kg [2,3,100010] Tryz.func20 ?_;intro w0 ρ0 hE;conv=>whnf
 (repeat((first|refine ae rfl rfl ?_|refine ao Q3 ?_|refine aN aJ ?_|rw[bne_self_eq_false]|refine an Q6 ?_|refine an Q9 ?_|rw[w1]|rw[ι]);conv=>whnf))
 refine av hE (λk=>k) [2,3,7,8,30,31] [28] (λm' fr hp=>∃t:Nat,m'=n+1 - t/\t<=n+1/\fr=[(2,b9 (mC n n a)),(3,b9 (mC n n m)),(7,iv n),(8,.aM 28 5 0 (n+1)),(30,iv ((n+1:Nat))),(31,iv (t:Nat))]/\hp=[(28,eJ (V.take t++θ (n+1 - t) 0))]) (n+1) ?_ ?_ ?_
 ·kernel_rfl
 ·exact⟨0,rfl,Nat.zero_le _,rfl,rfl⟩
 rintro m' _ _ ⟨t,rfl,ht,rfl,rfl⟩;have hlen:=dW (d:=(0:Rat)) ht lV;by_cases aE:t<n+1
 ·have t1:=gZ aE;have t2:=bW (i:=t) aa;have kf:=kF t aa;have kd:=kD t aE;have oy:t<(V.take t++θ (n+1 - t) 0).length:=aa;clear kD kF k1 hR hN sV;by_cases UG:n=0
  ·subst UG;have kb:=Bz a m (((t:Nat):Int):Rat);have kM:=EV (r:=0) (c:=0) ax ax (iC 0 a m (((t:Nat):Int):Rat)) 66 (lY [Xg 0 []]) (λi k hi hk=>absurd hi (Nat.not_lt_zero _));conv=>whnf
   (repeat((first|refine aq aD ?_|refine aN aJ ?_|refine oe aJ rfl ?_|refine ay t1 ?_|refine an Q6 ?_|rw[t1]|rw[υ]);conv=>whnf))
   refine Fh 10 (λ_ h=>h) rfl rfl ax rfl ?_;refine cv hE ?_;conv=>whnf
   (repeat((first|refine aX Q3 ?_|refine ao Q3 ?_|refine aN aJ ?_|refine an Gv ?_|rw[t2]|rw[ι]|rw[υ]);conv=>whnf))
   exact⟨0+1 - (t+1),λk=>k,[2,3,7,8,30,31],[28],aa,aD,t+1,rfl,aE,rfl,by rw[eJ,<-fG (e:=0) aE lV];rfl⟩
  ·obtain⟨r,hrn⟩:∃r,r=n:=⟨_,rfl⟩;have kb:=wD (r:=r) a m (((t:Nat):Int):Rat) hrn aa aa ha hm (λi q hi hq=>by have:=hz t aa i q hi hq;omega);have kM:=EV ha.r ha.c (iC n a m (((t:Nat):Int):Rat)) 66 (lY [Xg n ((List.range r).map (bq n (iC n a m (((t:Nat):Int):Rat))))]) (λi k hi hk=>by rw[hrn];exact Xm _ i k hi hk aa);generalize iC n a m (((t:Nat):Int):Rat)=X at*;rcases(show r=1\/r=2\/r=3\/r=4 by omega)with e1|e1|e1|e1
   all_goals
    rw[e1]at kb kM;conv=>whnf
    (repeat((first|refine aq aD ?_|refine aN aJ ?_|refine ay t1 ?_|refine an Q6 ?_|refine⟨[],_,qC _ n _,[],kb,aF,Sr ax,ar, ?_⟩|rw[t1]|rw[υ]);conv=>whnf))
    refine HO (n:=n) (X:=X) 10 [2,3,7,8,9,30,31] [28] (λ_ h=>h) rfl rfl rfl rfl (by intro j hj;rcases(show j=0\/j=1\/j=2\/j=3 by omega)with e|e|e|e<;>first|omega|(subst e;rfl)) ax ax aD aD aD rfl ax hE ?_;refine cv hE ?_;conv=>whnf
    (repeat((first|refine aX Q3 ?_|refine ao Q3 ?_|refine aN aJ ?_|refine an Gv ?_|rw[t2]|rw[ι]|rw[υ]);conv=>whnf))
    exact⟨n+1 - (t+1),λk=>k,[2,3,7,8,30,31],[28],aa,aD,t+1,rfl,aE,rfl,by rw[eJ,<-fG (e:=0) aE lV];rfl⟩
 ·have t1:=iH aE;obtain rfl:t=n+1:=aa;rw[gD lV];clear kD hz ha hm h;conv=>whnf
  (repeat(first|(refine aG t1 ?_;conv=>whnf)|(rw[t1];conv=>whnf)))
  refine av hE (λk=>k) [7,8,13] [28] (λm' fr hp=>∃(k E:Nat) (v:List Rat),m'=k/\k<=n/\v.length=n+1/\IJ n k v=N/\(∀q,fs (v.getD q 0)<=E)/\2^k*(E+130)<=1000000000/\
   fr=[(7,iv n),(8,.aM 28 5 0 (n+1)),(13,iv ((n+1 - k:Nat)))]/\hp=[(28,eJ v)]) n ?_ ?_ ?_
  ·kernel_rfl
  ·refine⟨n,40960000,V,rfl,ζ _,lV,hN,sV, ?_,by rw[show n+1 - n=1 by omega];rfl,rfl⟩;have h5:2^n<=2^4:=ύ ax hn4;exact Ι (ο _ h5) ax
  clear sV lV hN;rintro k _ _ ⟨_,E,v,rfl,hk,lv,hv,sv,hE2,rfl,rfl⟩;by_cases Xn:k=0
  ·subst Xn;have t2:decide (((n+1 - 0:Nat):Int)<=(n:Int))=false:=decide_eq_false aa;rw[IJ]at hv;subst hv;have hE3:E+130<=1000000000:=aa;clear hE2;conv=>whnf
   (repeat((first|refine ao Q3 ?_|refine aG t2 ?_|rw[t2]|rw[w1]|rw[ι]);conv=>whnf))
   refine av hE (λk=>k) [7,8,15,16] [28,87] (λm' fr hp=>∃(k G:Nat) (w:List Rat),m'=k/\k<=n+1/\w.length=n+1/\FQ n v k w=R/\(∀q,fs (w.getD q 0)<=G)/\2^k*(G+2000000000)<=100000000000/\
    fr=[(7,iv n),(8,.aM 28 5 0 (n+1)),(15,.aM 87 5 0 (n+1)),(16,iv ((k:Int) - 1))]/\hp=[(28,eJ v),(87,eJ w)]) (n+1) ?_ ?_ ?_
   ·kernel_rfl
   ·refine⟨n+1,2,θ (n+1) 0,rfl,ζ _,by simp,hR,λq=> ?_, ?_,by rw[show(((n+1:Nat):Int) - 1)=(n:Int) by omega];rfl,rfl⟩
    ·have:=acr (p:=q) (EA (n+1)) (ζ _);exact this
    ·have h5:2^(n+1)<=2^5:=ύ ax aa;exact Ι (ο _ h5) ax
   clear hR;rintro k _ _ ⟨_,G,w,rfl,hk,lw,hR,sw,hG,rfl,rfl⟩;by_cases Xn:k=0
   ·subst Xn;have t3:decide ((((0:Nat):Int) - 1)>=0)=false:=ax;rw[FQ]at hR;subst hR;conv=>whnf
    (repeat(first|(refine ae rfl rfl ?_;conv=>whnf)))
    exact Q17
   ·obtain⟨j,rfl⟩:∃j,k=j+1:=⟨k - 1,aa⟩;rw[show(((j+1:Nat):Int) - 1)=(j:Int) by omega];rw[FQ]at hR;have t3:decide ((j:Int)>=0)=true:=decide_eq_true aa;have hG2:2*(G+2000000000)<=100000000000:=by
     refine Ι (ο _ ?_) hG;exact alM aa 2
    obtain⟨W1,hW1⟩:∃W1,L6 j (n+1) w=W1:=⟨_,rfl⟩;rw[hW1]at hR;conv=>whnf
    (repeat(first|(refine ag rfl rfl ?_;conv=>whnf)|(rw[t3];conv=>whnf)))
    refine av hE (λk=>k) [7,8,15,16,17] [28,87] (λm' fr hp=>∃(i:Nat) (u:List Rat),m'=i/\i<=n+1/\u.length=n+1/\L6 j i u=W1/\(∀q,q<i->fs (u.getD q 0)<=G)/\(∀q,fs (u.getD q 0)<=2*G+130)/\
     fr=[(7,iv n),(8,.aM 28 5 0 (n+1)),(15,.aM 87 5 0 (n+1)),(16,iv (j:Nat)),(17,iv ((i:Int) - 1))]/\hp=[(28,eJ v),(87,eJ u)]) (n+1) ?_ ?_ ?_
    ·kernel_rfl
    ·exact⟨n+1,w,rfl,ζ _,lw,hW1,λq _=>sw q,λq=>by have:=sw q;omega,by rw[show(((n+1:Nat):Int) - 1)=(n:Int) by omega];rfl,rfl⟩
    rintro i _ _ ⟨_,u,rfl,hi,lu,hu,su,su2,rfl,rfl⟩;by_cases hi0:i=0
    ·subst hi0;have t4:decide ((((0:Nat):Int) - 1)>=0)=false:=ax;have t5:ε.wrap ((j:Int) - 1)=(j:Int) - 1:=wrap_i64 aa aa;rw[L6]at hu;rw[<-hu]at hR;have g1:=su2 0;have g2:=sv j;have hj:j<v.length:=aa;have h0:0<u.length:=aa;have ka:=uq (u.getD 0 0) (v.getD j 0) aa;have g3:=fW (u.getD 0 0) (v.getD j 0);have hG3:2^j*(2*G+130+(E+130)+2000000000)<=100000000000:=by
      refine Ι ?_ hG;rw[ϙ,Ϛ];exact ϧ (2^j) (acs G E hE3)
     have Xb:=Fm (p:=0) (x:=u.getD 0 0+v.getD j 0) su2 (show 2*G+130<=2*G+130+(E+130) by omega) aa;clear su su2 sv sw;conv=>whnf
     (repeat((first|refine ae rfl rfl ?_|refine aq aD ?_|refine aX Q3 ?_|refine ao Q3 ?_|refine aN aJ ?_|rw[t4]|rw[t5]|rw[ι]|rw[υ]);conv=>whnf))
     exact⟨j,λk=>k,[7,8,15,16],[28,87],aa,aD,j,2*G+130+(E+130),u.set 0 (u.getD 0 0+v.getD j 0),rfl,aa,by rw[ϒ];exact lu,hR,Xb,hG3,rfl,rfl⟩
    ·obtain⟨p,rfl⟩:∃p,i=p+1:=⟨i - 1,aa⟩;rw[show(((p+1:Nat):Int) - 1)=(p:Int) by omega];rw[L6]at hu;have t4:decide ((p:Int)>=0)=true:=decide_eq_true aa;have t5:ε.wrap ((p:Int) - 1)=(p:Int) - 1:=wrap_i64 aa aa;have t6:ε.wrap (0 - (j:Int))= -(j:Int):=by rw[wrap_i64 aa aa];omega
     have hp:p<u.length:=aa;have kf:C0 35 [iv (-(j:Int))] (.frac ((-(j:Int):Int):Rat)):=dH _ aa aa;have fj:fs ((-(j:Int):Int):Rat)<=130:=by rw[Rat.intCast_neg,ju];exact zq j aa
     have g1:=su p aa;have g4:=cH (u.getD p 0) ((-(j:Int):Int):Rat);generalize ((-(j:Int):Int):Rat)=c at*;have km:=pa (u.getD p 0) c aa;by_cases vD:0<p
     ·rw[if_pos vD]at hu;have t7:decide ((p:Int)>0)=true:=decide_eq_true aa;have t8:ε.wrap ((p:Int) - 1)=((p - 1:Nat):Int):=by rw[wrap_i64 aa aa];omega
      have hp1:p - 1<u.length:=aa;have g2:=su (p - 1) aa;have e1:(u.set p (u.getD p 0*c)).getD p 0=u.getD p 0*c:=p0 hp;have e2:(u.set p (u.getD p 0*c)).getD (p - 1) 0=u.getD (p - 1) 0:=gT aa;have iD:(u.set p (u.getD p 0*c)).length=n+1:=by rw[ϒ];exact lu
      have ka:=uq (u.getD p 0*c) (u.getD (p - 1) 0) aa;have g3:=fW (u.getD p 0*c) (u.getD (p - 1) 0);have Xb:=Fm (p:=p) (x:=u.getD p 0*c+u.getD (p - 1) 0) su2 (ζ _) aa;have hso:∀q,q<p->fs ((u.set p (u.getD p 0*c+u.getD (p - 1) 0)).getD q 0)<=G:=λq hq=>by rw[gT aa];exact su q aa
      have t9:(((p - 1:Nat):Int))=(p:Int) - 1:=aa;have n8:(u.set p (u.getD p 0*c)).set p (u.getD p 0*c+u.getD (p - 1) 0)=u.set p (u.getD p 0*c+u.getD (p - 1) 0):=List.set_set ..;clear su su2 sv sw;conv=>whnf
      (repeat((first|refine ag rfl rfl ?_|refine aq aD ?_|refine aX Q3 ?_|refine ao Q3 ?_|refine aN aJ ?_|refine ay t7 ?_|rw[t4]|rw[t6]|rw[t7]|rw[t8]|rw[e1]|rw[e2]|rw[ι]|rw[υ]);conv=>whnf))
      refine⟨p,λk=>k,[7,8,15,16,17],[28,87],aa,aD,p,u.set p (u.getD p 0*c+u.getD (p - 1) 0),rfl,aa,by rw[ϒ];exact lu,hu,hso,Xb,by rw[<-t9];rfl,by rw[<-n8];rfl⟩
     ·rw[if_neg vD]at hu;have t7:decide ((p:Int)>0)=false:=decide_eq_false aa;have Xb:=Fm (p:=p) (x:=u.getD p 0*c) su2 (ζ _) aa;have hso:∀q,q<p->fs ((u.set p (u.getD p 0*c)).getD q 0)<=G:=λq hq=>by rw[gT aa];exact su q aa
      clear su su2 sv sw;conv=>whnf
      (repeat((first|refine ag rfl rfl ?_|refine aq aD ?_|refine aX Q3 ?_|refine ao Q3 ?_|refine aN aJ ?_|refine aG t7 ?_|rw[t4]|rw[t6]|rw[t7]|rw[t5]|rw[ι]|rw[υ]);conv=>whnf))
      exact⟨p,λk=>k,[7,8,15,16,17],[28,87],aa,aD,p,u.set p (u.getD p 0*c),rfl,aa,by rw[ϒ];exact lu,hu,hso,Xb,rfl,rfl⟩
  ·obtain⟨q,rfl⟩:∃q,k=q+1:=⟨k - 1,aa⟩;rw[IJ]at hv;obtain⟨o,ho⟩:∃o,o=n - q:=⟨_,rfl⟩;rw[show n+1 - (q+1)=o by omega];rw[<-ho]at hv;have t2:decide ((o:Int)<=(n:Int))=true:=decide_eq_true aa;have t3:=bW (i:=o) aa;have kf:=kF o aa;have fo:=zq o aa;have ho0:((o:Int):Rat)≠0:=λe=>by
    have:(o:Int)=0:=Rat.intCast_inj.1 e;omega
   have ahK:2^q*(2*E+130+130)<=1000000000:=by
    refine Ι ?_ hE2;rw[ϙ,Ϛ];exact ϧ _ aa
   have hE3:2*(E+130)<=1000000000:=Ι (ο _ (alM aa 2)) hE2;clear hE2 hR kF;obtain⟨N1,hN1⟩:∃N1,Og o (q+1) v=N1:=⟨_,rfl⟩;rw[hN1]at hv;conv=>whnf
   (repeat(first|(refine ay t2 ?_;conv=>whnf)|(rw[t2];conv=>whnf)))
   refine av hE (λk=>k) [7,8,13,14] [28] (λm' fr hp=>∃(t:Nat) (u:List Rat),m'=t+1 - o/\o<=t+1/\t<=n/\u.length=n+1/\Og o (t+1 - o) u=N1/\(∀q,q<=t->fs (u.getD q 0)<=E)/\(∀q,fs (u.getD q 0)<=2*E+130)/\
    fr=[(7,iv n),(8,.aM 28 5 0 (n+1)),(13,iv (o:Nat)),(14,iv (t:Nat))]/\hp=[(28,eJ u)]) (q+1) ?_ ?_ ?_
   ·kernel_rfl
   ·exact⟨n,v,aa,aa,ζ _,lv,by rw[show n+1 - o=q+1 by omega];exact hN1,λq _=>sv q,λq=>by have:=sv q;omega,rfl,rfl⟩
   rintro m' _ _ ⟨t,u,rfl,ht,htn,lu,hu,su,su2,rfl,rfl⟩;by_cases hot:o<=t
   ·have t4:decide ((t:Int)>=(o:Int))=true:=decide_eq_true aa;have t5:ε.wrap ((t:Int) - 1)=((t - 1:Nat):Int):=by rw[wrap_i64 aa aa];omega
    rw[Sq aa hot]at hu;have b1:t<u.length:=aa;have b2:t - 1<u.length:=aa;have g1:=su t (ζ _);have g2:=su (t - 1) aa;have g3:=rh (u.getD t 0) (u.getD (t - 1) 0);have g4:=rl (u.getD t 0 - u.getD (t - 1) 0) ((o:Int):Rat);have k2:=Hx (u.getD t 0) (u.getD (t - 1) 0) aa;have k3:=Dv (u.getD t 0 - u.getD (t - 1) 0) ((o:Int):Rat) ho0 aa;have Xb:=Fm (p:=t) (x:=(u.getD t 0 - u.getD (t - 1) 0)/((o:Int):Rat)) su2 (ζ _) aa;have hso:∀q,q<=t - 1->fs ((u.set t ((u.getD t 0 - u.getD (t - 1) 0)/((o:Int):Rat))).getD q 0)<=E:=λq hq=>by rw[gT aa];exact su q aa
    clear su su2 sv;conv=>whnf
    (repeat((first|refine aq aD ?_|refine aX Q3 ?_|refine ao Q3 ?_|refine aN aJ ?_|refine ay t4 ?_|rw[t4]|rw[t5]|rw[ι]|rw[υ]);conv=>whnf))
    exact⟨t - 1+1 - o,λk=>k,[7,8,13,14],[28],aa,aD,t - 1,u.set t ((u.getD t 0 - u.getD (t - 1) 0)/((o:Int):Rat)),rfl,aa,aa,by rw[ϒ];exact lu,hu,hso,Xb,rfl,rfl⟩
   ·have t4:decide ((t:Int)>=(o:Int))=false:=decide_eq_false aa;rw[show t+1 - o=0 by omega,Og]at hu;subst hu;conv=>whnf
    (repeat(first|(refine aG t4 ?_;conv=>whnf)|(rw[t4];conv=>whnf)|(rw[t3];conv=>whnf)))
    exact⟨q,λk=>k,[7,8,13],[28],aa,aD,q,2*E+130,u,rfl,aa,lu,hv,su2,ahK,by rw[show n+1 - q=o+1 by omega];rfl,rfl⟩
