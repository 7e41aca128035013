/- The texts Ah. -/
import Derived.Test.YtfpagioknjjacaaGreatDoorQMModesCount27
namespace Go.Proofs.YtfpagioknjjacaaGreatDoor
open Go.Sx
set_option linter.unusedSimpArgs false
set_option linter.unusedVariables false
set_option maxRecDepth 100000
set_option maxHeartbeats 40000000
theorem wQ (i:Nat) (h:i≤8):fs (((i:Nat):Int):Rat)≤130:=by
 have:∀i,i<9→fs (((i:Nat):Int):Rat)≤130:=by decide+kernel
 exact this i aa
theorem CW {v:List Rat} {p B C:Nat} {x:Rat} (h:∀q,fs (v.getD q 0)≤B) (hB:B≤C) (hx:fs x≤C):∀q,fs ((v.set p x).getD q 0)≤C:=fun q=>by
 have h0:2≤fs x:=LZ x
 by_cases e:q=p
 ·subst e
  by_cases hq:q<v.length
  ·rw[qQ hq];exact hx
  ·rw[List.getD_eq_getElem?_getD,List.getElem?_eq_none (by rw[List.length_set];omega)]
   have:fs (0:Rat)≤C:=by rw[eh];omega
   exact this
 ·rw[fZ e];exact Nat.le_trans (h q) hB
theorem acB (G E:Nat) (h:E+130≤1000000000):2*G+130+(E+130)+2000000000≤2*(G+2000000000):=aa
theorem y9 {n B C:Nat} {a m:List Rat} (h:zI n B C a m) (hn4:n≤4) (h2:2≤C) (hs:B+(130+C)≤10000):
  af Tryz.prog 35 [mA n n a,mA n n m] [] (.cC [cD (vG n a m),iv 0]) [] []:=by
 have k1:=iR (h.ok h2 aa)
 have kF:∀t:Nat,t≤8→af Tryz.prog 18 [iv (t:Nat)] [] (.frac (((t:Nat):Int):Rat)) [] []:=fun t ht=>eG _ aa aa
 have lV:=Fo n a m
 have gV:∀t,t<n+1→(CV n a m).getD t 0=bD n (el (mk n n (ie n a m (((t:Nat):Int):Rat))) n):=fun t ht=>Fp ht
 have sB:∀t:Nat,t≤8→Sm 10000 (mk n n (ie n a m (((t:Nat):Int):Rat))):=fun t ht=>Mb fun i k hi hk=>by
  have h0:=wQ t ht
  have h1:=h.size h0 (Nat.le_refl _) i k hi hk
  have h3:=uv (a.getD (i*n+k) 0) ((((t:Nat):Int):Rat)*m.getD (i*n+k) 0)
  have h4:=cT (((t:Nat):Int):Rat) (m.getD (i*n+k) 0)
  show fs (a.getD (i*n+k) 0 - (((t:Nat):Int):Rat)*m.getD (i*n+k) 0)≤10000
  omega
 have oB:∀t:Nat,ot n n (mk n n (ie n a m (((t:Nat):Int):Rat))):=fun t=>ab7 h.ka.r h.ka.c
 have kD:∀t:Nat,t<n+1→af Tryz.prog 118 [mA n n (mk n n (ie n a m (((t:Nat):Int):Rat)))] [] (.cC [.frac ((CV n a m).getD t 0),iv 0]) [] []:=fun t ht=>by
  rw[gV t ht];exact ack (oB t) aa (sB t aa) aH aH
 have sV:∀q,fs ((CV n a m).getD q 0)≤40960000:=fun q=>by
  by_cases hq:q<n+1
  ·rw[gV q hq];exact acs (oB q) aa (sB q aa) aH
  ·rw[List.getD_eq_getElem?_getD,List.getElem?_eq_none aa]
   have:fs (0:Rat)≤40960000:=by rw[eh];decide
   exact this
 have ha:=h.ka
 have hm:=h.km
 have hz:=fun t ht=>h.size (T:=130) (wQ t ht) (Nat.le_refl _)
 obtain⟨R,hR⟩:∃R,vG n a m=R:=⟨_,rfl⟩
 unfold vG at hR
 rw[show vG n a m=R from hR]
 clear gV sB oB
 generalize CV n a m=V at*
 obtain⟨N,hN⟩:∃N,FD n n V=N:=⟨_,rfl⟩
 rw[hN]at hR
 have w1:=cp (i:=n) aa
 refine qU [2,3,100010] Tryz.func35 ?_
 intro w0 ρ0 hE
 conv=>whnf
 (repeat((first|refine ag rfl rfl ?_|refine av Q3 ?_|refine a8 (by assumption) ?_|rw[bne_self_eq_false]|refine aC Q6 ?_|refine aC Q9 ?_|rw[w1]|rw[Int.toNat_natCast]);conv=>whnf))
 refine az hE (fun k=>k) [2,3,7,8,30,31] [28] (fun m' fr hp=>∃t:Nat,m'=n+1 - t∧t≤n+1∧fr=[(2,cx (mC n n a)),(3,cx (mC n n m)),(7,iv n),(8,.aK 28 5 0 (n+1)),(30,iv ((n+1:Nat))),(31,iv (t:Nat))]∧hp=[(28,gk (V.take t++List.replicate (n+1 - t) 0))]) (n+1) ?_ ?_ ?_
 ·kernel_rfl
 ·exact⟨0,rfl,Nat.zero_le _,rfl,rfl⟩
 rintro m' _ _ ⟨t,rfl,ht,rfl,rfl⟩
 have hlen:=gW (d:=(0:Rat)) ht lV
 by_cases aI:t<n+1
 ·have t1:=jD aI
  have t2:=cp (i:=t) aa
  have kf:=kF t aa
  have kd:=kD t aI
  have oJ:t<(V.take t++List.replicate (n+1 - t) 0).length:=aa
  clear kD kF k1 hR hN sV
  by_cases Pn:n=0
  ·subst Pn
   have kb:=y5 a m (((t:Nat):Int):Rat)
   have kM:=CL (r:=0) (c:=0) aH aH (ie 0 a m (((t:Nat):Int):Rat)) 140 (Bx [RV 0 []]) (fun i k hi hk=>absurd hi (Nat.not_lt_zero _))
   conv=>whnf
   (repeat((first|refine aB aF ?_|refine a8 (by assumption) ?_|refine oR (by assumption) rfl ?_|refine aN t1 ?_|refine aC Q6 ?_|rw[t1]|rw[Nat.zero_add]);conv=>whnf))
   refine CT 10 (fun _ h=>h) rfl rfl aH rfl ?_
   refine kG hE ?_
   conv=>whnf
   (repeat((first|refine bg Q3 ?_|refine av Q3 ?_|refine a8 (by assumption) ?_|refine aC Pa ?_|rw[t2]|rw[Int.toNat_natCast]|rw[Nat.zero_add]);conv=>whnf))
   exact⟨0+1 - (t+1),fun k=>k,[2,3,7,8,30,31],[28],aa,aF,t+1,rfl,aI,rfl,by rw[gk,←jo (e:=0) aI lV];rfl⟩
  ·obtain⟨r,hrn⟩:∃r,r=n:=⟨_,rfl⟩
   have kb:=wK (r:=r) a m (((t:Nat):Int):Rat) hrn aa aa ha hm (fun i q hi hq=>by have:=hz t aa i q hi hq;omega)
   have kM:=CL ha.r ha.c (ie n a m (((t:Nat):Int):Rat)) 140 (Bx [RV n ((List.range r).map (bz n (ie n a m (((t:Nat):Int):Rat))))]) (fun i k hi hk=>by rw[hrn];exact Sd _ i k hi hk aa)
   generalize ie n a m (((t:Nat):Int):Rat)=X at*
   rcases(show r=1∨r=2∨r=3∨r=4 by omega)with e1|e1|e1|e1
   all_goals
    rw[e1]at kb kM
    conv=>whnf
    (repeat((first|refine aB aF ?_|refine a8 (by assumption) ?_|refine aN t1 ?_|refine aC Q6 ?_|refine⟨[],_,pU _ n _,[],kb,aD,ON aH,ar, ?_⟩|rw[t1]|rw[Nat.zero_add]);conv=>whnf))
    refine Fi (n:=n) (X:=X) 10 [2,3,7,8,9,30,31] [28] (fun _ h=>h) rfl rfl rfl rfl (by intro j hj;rcases(show j=0∨j=1∨j=2∨j=3 by omega)with e|e|e|e<;>first|omega|(subst e;rfl)) aH aH aF aF aF rfl aH hE ?_
    refine kG hE ?_
    conv=>whnf
    (repeat((first|refine bg Q3 ?_|refine av Q3 ?_|refine a8 (by assumption) ?_|refine aC Pa ?_|rw[t2]|rw[Int.toNat_natCast]|rw[Nat.zero_add]);conv=>whnf))
    exact⟨n+1 - (t+1),fun k=>k,[2,3,7,8,30,31],[28],aa,aF,t+1,rfl,aI,rfl,by rw[gk,←jo (e:=0) aI lV];rfl⟩
 ·have t1:=jP aI
  obtain rfl:t=n+1:=aa
  rw[kQ lV]
  clear kD hz ha hm h
  conv=>whnf
  (repeat(first|(refine aW t1 ?_;conv=>whnf)|(rw[t1];conv=>whnf)))
  refine az hE (fun k=>k) [7,8,13] [28] (fun m' fr hp=>∃(k E:Nat) (v:List Rat),m'=k∧k≤n∧v.length=n+1∧FD n k v=N∧(∀q,fs (v.getD q 0)≤E)∧2^k*(E+130)≤1000000000∧
   fr=[(7,iv n),(8,.aK 28 5 0 (n+1)),(13,iv ((n+1 - k:Nat)))]∧hp=[(28,gk v)]) n ?_ ?_ ?_
  ·kernel_rfl
  ·refine⟨n,40960000,V,rfl,Nat.le_refl _,lV,hN,sV, ?_,by rw[show n+1 - n=1 by omega];rfl,rfl⟩
   have h5:2^n≤2^4:=Nat.pow_le_pow_right aH hn4
   exact Nat.le_trans (Nat.mul_le_mul_right _ h5) aH
  clear sV lV hN
  rintro k _ _ ⟨_,E,v,rfl,hk,lv,hv,sv,hE2,rfl,rfl⟩
  by_cases QN:k=0
  ·subst QN
   have t2:decide (((n+1 - 0:Nat):Int)≤(n:Int))=false:=decide_eq_false aa
   rw[FD]at hv
   subst hv
   have hE3:E+130≤1000000000:=aa
   clear hE2
   conv=>whnf
   (repeat((first|refine av Q3 ?_|refine aW t2 ?_|rw[t2]|rw[w1]|rw[Int.toNat_natCast]);conv=>whnf))
   refine az hE (fun k=>k) [7,8,15,16] [28,87] (fun m' fr hp=>∃(k G:Nat) (w:List Rat),m'=k∧k≤n+1∧w.length=n+1∧C9 n v k w=R∧(∀q,fs (w.getD q 0)≤G)∧2^k*(G+2000000000)≤100000000000∧
    fr=[(7,iv n),(8,.aK 28 5 0 (n+1)),(15,.aK 87 5 0 (n+1)),(16,iv ((k:Int) - 1))]∧hp=[(28,gk v),(87,gk w)]) (n+1) ?_ ?_ ?_
   ·kernel_rfl
   ·refine⟨n+1,2,List.replicate (n+1) 0,rfl,Nat.le_refl _,by simp,hR,fun q=> ?_, ?_,by rw[show(((n+1:Nat):Int) - 1)=(n:Int) by omega];rfl,rfl⟩
    ·have:=acx (p:=q) (HG (n+1)) (Nat.le_refl _);exact this
    ·have h5:2^(n+1)≤2^5:=Nat.pow_le_pow_right aH aa
     exact Nat.le_trans (Nat.mul_le_mul_right _ h5) aH
   clear hR
   rintro k _ _ ⟨_,G,w,rfl,hk,lw,hR,sw,hG,rfl,rfl⟩
   by_cases QN:k=0
   ·subst QN
    have t3:decide ((((0:Nat):Int) - 1)≥0)=false:=aH
    rw[C9]at hR
    subst hR
    conv=>whnf
    (repeat(first|(refine ag rfl rfl ?_;conv=>whnf)))
    exact Q17
   ·obtain⟨j,rfl⟩:∃j,k=j+1:=⟨k - 1,aa⟩
    rw[show(((j+1:Nat):Int) - 1)=(j:Int) by omega]
    rw[C9]at hR
    have t3:decide ((j:Int)≥0)=true:=decide_eq_true aa
    have hG2:2*(G+2000000000)≤100000000000:=by
     refine Nat.le_trans (Nat.mul_le_mul_right _ ?_) hG
     exact Nat.le_self_pow aa 2
    obtain⟨W1,hW1⟩:∃W1,IN j (n+1) w=W1:=⟨_,rfl⟩
    rw[hW1]at hR
    conv=>whnf
    (repeat(first|(refine ah rfl rfl ?_;conv=>whnf)|(rw[t3];conv=>whnf)))
    refine az hE (fun k=>k) [7,8,15,16,17] [28,87] (fun m' fr hp=>∃(i:Nat) (u:List Rat),m'=i∧i≤n+1∧u.length=n+1∧IN j i u=W1∧(∀q,q<i→fs (u.getD q 0)≤G)∧(∀q,fs (u.getD q 0)≤2*G+130)∧
     fr=[(7,iv n),(8,.aK 28 5 0 (n+1)),(15,.aK 87 5 0 (n+1)),(16,iv (j:Nat)),(17,iv ((i:Int) - 1))]∧hp=[(28,gk v),(87,gk u)]) (n+1) ?_ ?_ ?_
    ·kernel_rfl
    ·exact⟨n+1,w,rfl,Nat.le_refl _,lw,hW1,fun q _=>sw q,fun q=>by have:=sw q;omega,by rw[show(((n+1:Nat):Int) - 1)=(n:Int) by omega];rfl,rfl⟩
    rintro i _ _ ⟨_,u,rfl,hi,lu,hu,su,su2,rfl,rfl⟩
    by_cases hi0:i=0
    ·subst hi0
     have t4:decide ((((0:Nat):Int) - 1)≥0)=false:=aH
     have t5:IntKind.i64.wrap ((j:Int) - 1)=(j:Int) - 1:=wrap_i64 aa aa
     rw[IN]at hu
     rw[←hu]at hR
     have g1:=su2 0
     have g2:=sv j
     have hj:j<v.length:=aa
     have h0:0<u.length:=aa
     have ka:=yT (u.getD 0 0) (v.getD j 0) aa
     have g3:=iH (u.getD 0 0) (v.getD j 0)
     have hG3:2^j*(2*G+130+(E+130)+2000000000)≤100000000000:=by
      refine Nat.le_trans ?_ hG
      rw[Nat.pow_succ,Nat.mul_assoc]
      exact Nat.mul_le_mul_left (2^j) (acB G E hE3)
     have RL:=CW (p:=0) (x:=u.getD 0 0+v.getD j 0) su2 (show 2*G+130≤2*G+130+(E+130) by omega) aa
     clear su su2 sv sw
     conv=>whnf
     (repeat((first|refine ag rfl rfl ?_|refine aB aF ?_|refine bg Q3 ?_|refine av Q3 ?_|refine a8 (by assumption) ?_|rw[t4]|rw[t5]|rw[Int.toNat_natCast]|rw[Nat.zero_add]);conv=>whnf))
     exact⟨j,fun k=>k,[7,8,15,16],[28,87],aa,aF,j,2*G+130+(E+130),u.set 0 (u.getD 0 0+v.getD j 0),rfl,aa,by rw[List.length_set];exact lu,hR,RL,hG3,rfl,rfl⟩
    ·obtain⟨p,rfl⟩:∃p,i=p+1:=⟨i - 1,aa⟩
     rw[show(((p+1:Nat):Int) - 1)=(p:Int) by omega]
     rw[IN]at hu
     have t4:decide ((p:Int)≥0)=true:=decide_eq_true aa
     have t5:IntKind.i64.wrap ((p:Int) - 1)=(p:Int) - 1:=wrap_i64 aa aa
     have t6:IntKind.i64.wrap (0 - (j:Int))= -(j:Int):=by rw[wrap_i64 aa aa];omega
     have hp:p<u.length:=aa
     have kf:af Tryz.prog 18 [iv (-(j:Int))] [] (.frac ((-(j:Int):Int):Rat)) [] []:=eG _ aa aa
     have fj:fs ((-(j:Int):Int):Rat)≤130:=by rw[Rat.intCast_neg,oX];exact wQ j aa
     have g1:=su p aa
     have g4:=cT (u.getD p 0) ((-(j:Int):Int):Rat)
     generalize ((-(j:Int):Int):Rat)=c at*
     have km:=s7 (u.getD p 0) c aa
     by_cases vV:0<p
     ·rw[if_pos vV]at hu
      have t7:decide ((p:Int)>0)=true:=decide_eq_true aa
      have t8:IntKind.i64.wrap ((p:Int) - 1)=((p - 1:Nat):Int):=by rw[wrap_i64 aa aa];omega
      have Fz:p - 1<u.length:=aa
      have g2:=su (p - 1) aa
      have e1:(u.set p (u.getD p 0*c)).getD p 0=u.getD p 0*c:=qQ hp
      have e2:(u.set p (u.getD p 0*c)).getD (p - 1) 0=u.getD (p - 1) 0:=fZ aa
      have gI:(u.set p (u.getD p 0*c)).length=n+1:=by rw[List.length_set];exact lu
      have ka:=yT (u.getD p 0*c) (u.getD (p - 1) 0) aa
      have g3:=iH (u.getD p 0*c) (u.getD (p - 1) 0)
      have RL:=CW (p:=p) (x:=u.getD p 0*c+u.getD (p - 1) 0) su2 (Nat.le_refl _) aa
      have hso:∀q,q<p→fs ((u.set p (u.getD p 0*c+u.getD (p - 1) 0)).getD q 0)≤G:=fun q hq=>by rw[fZ aa];exact su q aa
      have t9:(((p - 1:Nat):Int))=(p:Int) - 1:=aa
      have rh:(u.set p (u.getD p 0*c)).set p (u.getD p 0*c+u.getD (p - 1) 0)=u.set p (u.getD p 0*c+u.getD (p - 1) 0):=List.set_set ..
      clear su su2 sv sw
      conv=>whnf
      (repeat((first|refine ah rfl rfl ?_|refine aB aF ?_|refine bg Q3 ?_|refine av Q3 ?_|refine a8 (by assumption) ?_|refine aN t7 ?_|rw[t4]|rw[t6]|rw[t7]|rw[t8]|rw[e1]|rw[e2]|rw[Int.toNat_natCast]|rw[Nat.zero_add]);conv=>whnf))
      refine⟨p,fun k=>k,[7,8,15,16,17],[28,87],aa,aF,p,u.set p (u.getD p 0*c+u.getD (p - 1) 0),rfl,aa,by rw[List.length_set];exact lu,hu,hso,RL,by rw[←t9];rfl,by rw[←rh];rfl⟩
     ·rw[if_neg vV]at hu
      have t7:decide ((p:Int)>0)=false:=decide_eq_false aa
      have RL:=CW (p:=p) (x:=u.getD p 0*c) su2 (Nat.le_refl _) aa
      have hso:∀q,q<p→fs ((u.set p (u.getD p 0*c)).getD q 0)≤G:=fun q hq=>by rw[fZ aa];exact su q aa
      clear su su2 sv sw
      conv=>whnf
      (repeat((first|refine ah rfl rfl ?_|refine aB aF ?_|refine bg Q3 ?_|refine av Q3 ?_|refine a8 (by assumption) ?_|refine aW t7 ?_|rw[t4]|rw[t6]|rw[t7]|rw[t5]|rw[Int.toNat_natCast]|rw[Nat.zero_add]);conv=>whnf))
      exact⟨p,fun k=>k,[7,8,15,16,17],[28,87],aa,aF,p,u.set p (u.getD p 0*c),rfl,aa,by rw[List.length_set];exact lu,hu,hso,RL,rfl,rfl⟩
  ·obtain⟨q,rfl⟩:∃q,k=q+1:=⟨k - 1,aa⟩
   rw[FD]at hv
   obtain⟨o,ho⟩:∃o,o=n - q:=⟨_,rfl⟩
   rw[show n+1 - (q+1)=o by omega]
   rw[←ho]at hv
   have t2:decide ((o:Int)≤(n:Int))=true:=decide_eq_true aa
   have t3:=cp (i:=o) aa
   have kf:=kF o aa
   have fo:=wQ o aa
   have ho0:((o:Int):Rat)≠0:=fun e=>by
    have:(o:Int)=0:=Rat.intCast_inj.1 e
    omega
   have aiq:2^q*(2*E+130+130)≤1000000000:=by
    refine Nat.le_trans ?_ hE2
    rw[Nat.pow_succ,Nat.mul_assoc]
    exact Nat.mul_le_mul_left _ aa
   have hE3:2*(E+130)≤1000000000:=Nat.le_trans (Nat.mul_le_mul_right _ (Nat.le_self_pow aa 2)) hE2
   clear hE2 hR kF
   obtain⟨N1,hN1⟩:∃N1,Kp o (q+1) v=N1:=⟨_,rfl⟩
   rw[hN1]at hv
   conv=>whnf
   (repeat(first|(refine aN t2 ?_;conv=>whnf)|(rw[t2];conv=>whnf)))
   refine az hE (fun k=>k) [7,8,13,14] [28] (fun m' fr hp=>∃(t:Nat) (u:List Rat),m'=t+1 - o∧o≤t+1∧t≤n∧u.length=n+1∧Kp o (t+1 - o) u=N1∧(∀q,q≤t→fs (u.getD q 0)≤E)∧(∀q,fs (u.getD q 0)≤2*E+130)∧
    fr=[(7,iv n),(8,.aK 28 5 0 (n+1)),(13,iv (o:Nat)),(14,iv (t:Nat))]∧hp=[(28,gk u)]) (q+1) ?_ ?_ ?_
   ·kernel_rfl
   ·exact⟨n,v,aa,aa,Nat.le_refl _,lv,by rw[show n+1 - o=q+1 by omega];exact hN1,fun q _=>sv q,fun q=>by have:=sv q;omega,rfl,rfl⟩
   rintro m' _ _ ⟨t,u,rfl,ht,htn,lu,hu,su,su2,rfl,rfl⟩
   by_cases hot:o≤t
   ·have t4:decide ((t:Int)≥(o:Int))=true:=decide_eq_true aa
    have t5:IntKind.i64.wrap ((t:Int) - 1)=((t - 1:Nat):Int):=by rw[wrap_i64 aa aa];omega
    rw[OM aa hot]at hu
    have b1:t<u.length:=aa
    have b2:t - 1<u.length:=aa
    have g1:=su t (Nat.le_refl _)
    have g2:=su (t - 1) aa
    have g3:=uv (u.getD t 0) (u.getD (t - 1) 0)
    have g4:=qz (u.getD t 0 - u.getD (t - 1) 0) ((o:Int):Rat)
    have k2:=IF (u.getD t 0) (u.getD (t - 1) 0) aa
    have k3:=E5 (u.getD t 0 - u.getD (t - 1) 0) ((o:Int):Rat) ho0 aa
    have RL:=CW (p:=t) (x:=(u.getD t 0 - u.getD (t - 1) 0)/((o:Int):Rat)) su2 (Nat.le_refl _) aa
    have hso:∀q,q≤t - 1→fs ((u.set t ((u.getD t 0 - u.getD (t - 1) 0)/((o:Int):Rat))).getD q 0)≤E:=fun q hq=>by rw[fZ aa];exact su q aa
    clear su su2 sv
    conv=>whnf
    (repeat((first|refine aB aF ?_|refine bg Q3 ?_|refine av Q3 ?_|refine a8 (by assumption) ?_|refine aN t4 ?_|rw[t4]|rw[t5]|rw[Int.toNat_natCast]|rw[Nat.zero_add]);conv=>whnf))
    exact⟨t - 1+1 - o,fun k=>k,[7,8,13,14],[28],aa,aF,t - 1,u.set t ((u.getD t 0 - u.getD (t - 1) 0)/((o:Int):Rat)),rfl,aa,aa,by rw[List.length_set];exact lu,hu,hso,RL,rfl,rfl⟩
   ·have t4:decide ((t:Int)≥(o:Int))=false:=decide_eq_false aa
    rw[show t+1 - o=0 by omega,Kp]at hu
    subst hu
    conv=>whnf
    (repeat(first|(refine aW t4 ?_;conv=>whnf)|(rw[t4];conv=>whnf)|(rw[t3];conv=>whnf)))
    exact⟨q,fun k=>k,[7,8,13],[28],aa,aF,q,2*E+130,u,rfl,aa,lu,hv,su2,aiq,by rw[show n+1 - q=o+1 by omega];rfl,rfl⟩
end Go.Proofs.YtfpagioknjjacaaGreatDoor
