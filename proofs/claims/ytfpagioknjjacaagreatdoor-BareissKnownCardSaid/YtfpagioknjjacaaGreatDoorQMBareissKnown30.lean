/- The texts Or. -/
import Derived.Test.YtfpagioknjjacaaGreatDoorQMBareissKnown29
namespace Go.Proofs.YtfpagioknjjacaaGreatDoor
open Go.Sx
set_option linter.unusedSimpArgs false
set_option linter.unusedVariables false
set_option maxRecDepth 100000
set_option maxHeartbeats 40000000
theorem HU (r c n many s:Int) (hn:0≤n∧n<256) (hm:0≤many∧many<256) (h:cc r c (n % 40).toNat≠0):
  ab Tryz.prog 48 [iv r,iv c,fV .u8 n,fV .u8 many,iv s] [] (.val (.bool true)) [] []:=by
 have kw:=fO
 obtain⟨e1,e2⟩:=pU n hn 40 aF
 obtain⟨e3,e4⟩:=pU many hm 9 aF
 have hN:(n % 40).toNat≤39:=aa
 have hM:(many % 9).toNat≤8:=aa
 generalize (n % 40).toNat=N at*
 generalize (many % 9).toNat=M at*
 have hz:=nq N
 have hl:=EJ N
 have a1:=oO r c (zL N) aa
 have a2:=iP r c (zz N) aa (eu N)
 have a3:=xh r c (zz N) aa (eu N)
 rw[hz,if_neg h]at a3
 have a4:=K7 r c (zL N) aa (by rw[hl];exact h)
 have a5:=K4 r c (zz N) aa (eu N) (by rw[hz];exact h)
 have a6:=K6 r c (zz N) aa (eu N) s (by rw[hz];exact h)
 have Li:F6 r c (zz N).length=cc r c N:=by rw[F6,hz,if_neg h]
 have a7:=K3 r c (zz N) aa (eu N) (by rw[Li];exact h)
 have a8:=yY r c (zz N) aa (eu N) (zz M) (by rw[Li];exact h)
 have a9:=uv r c (zz N) aa (eu N) (by rw[Li];exact h)
 have a10:=sn r c (zz N) aa (eu N) (by rw[Po];exact Om r c (zL N) aa (by rw[hl];exact h))
 have a11:=Md r c (zz N) aa
 rw[Li]at a7 a8 a9
 rw[hz]at a2 a5 a6
 rw[hl]at a1 a4
 clear Li
 generalize cc r c N=E at*
 have t1:(E==0)=false:=beq_eq_false_iff_ne.2 h
 have t2:(E != E)=false:=bne_self_eq_false _
 have t3:(E != 0)=true:=bne_iff_ne.2 h
 refine bP [100000] Tryz.func48 ?_
 intro W0 w0 ρ0 hE
 conv=>whnf
 refine eG 39 (blk:=Ho []) rfl rfl ?_
 refine eG 46 (blk:=hZ []) rfl rfl ?_
 refine eG 64 (blk:=Ho []) rfl rfl ?_
 refine dC hE ?_
 conv=>whnf
 (repeat((first|refine ag rfl rfl ?_|refine af rfl rfl ?_|refine bN Q3 ?_|refine aS (by assumption) ?_|refine ak jJ ?_|refine ak jo ?_|rw[beq_self_eq_true]|rw[bne_self_eq_false]|refine aM t1 ?_|refine aE t3 ?_|refine ak cO ?_|refine ak Q30 ?_|refine ak Q31 ?_|refine⟨_,eJ aL df rfl (aj rfl) (aj rfl) rfl rfl rfl rfl (fN _ _) et, ?_⟩|rw[t1]|rw[t3]|rw[e2]|rw[e4]);conv=>whnf));exact Q5
theorem xD {a b N:Nat} (h:a*b≤39) (ha:a≤N) (hb:a≤b):a≤6:=by
 refine Nat.le_of_not_lt fun g=> ?_
 have:=Nat.mul_le_mul (show 7≤a by omega) (show 7≤b by omega)
 omega
theorem Pp {k:Nat} (h:k≤7):2*(2*4^k)≤1073741824:=by
 have:4^k≤4^7:=Nat.pow_le_pow_right aF h
 omega
theorem Pq {R C:Nat} (hR:R≤40) (hC:C≤40) (hN:R*C≤39) (s:Int):∃(u1 u2:Bool) (a b:Int) (l:List Int) (e:Int),decide (s<0)=u1∧decide (s>if (C:Int)<(R:Int)then(C:Int)else(R:Int))=u2∧
  ab Tryz.prog 157 [wA R C (zz (R*C)),iv s] [] (.ct [wA a b l,iv e]) [] []∧((u1=true∧e=1∧l=[]∧a=0)∨(u1=false∧u2=true∧e=1∧l=[]∧a=0)∨(u1=false∧u2=false∧e=0)):=by
 have uE:gu R C (zz (R*C)):=⟨aa,aa,nq _⟩
 by_cases h1:s<0
 ·exact⟨true,_,_,_,_,_,decide_eq_true h1,rfl,CL uE (eu _) (.inl h1),.inl ⟨rfl,rfl,rfl,rfl⟩⟩
 ·by_cases h2:s>if (C:Int)<(R:Int)then(C:Int)else(R:Int)
  ·refine⟨false,true,_,_,_,_,decide_eq_false h1,decide_eq_true h2,CL uE (eu _) (.inr ?_),.inr (.inl ⟨rfl,rfl,rfl,rfl,rfl⟩)⟩
   split at h2<;>omega
  ·have hle:s≤R∧s≤C:=by split at h2<;>omega
   obtain⟨q,rfl⟩:∃q:Nat,s=q:=⟨s.toNat,aa⟩
   have hq:q≤6:=xD (N:=q) (a:=q) (b:=q) (Nat.le_trans (Nat.mul_le_mul (show q≤R by omega) (show q≤C by omega)) hN) (Nat.le_refl _) (Nat.le_refl _)
   exact⟨false,false,_,_,_,_,decide_eq_false h1,decide_eq_false h2,oU uE (zn _) aF aa (Pp aa) aa aa,.inr (.inr ⟨rfl,rfl,rfl⟩)⟩
theorem Mf {R C M:Nat} (hR:R≤40) (hC:C≤40) (hN:R*C≤39) (hM:M≤8):∃(v1 v2 v3:Bool) (d:Int) (l:List Int) (a b:Int) (ad:List Int) (x q:Int) (D:Int),((R:Int) != (C:Int))=v1∧((M:Int) != (R:Int))=v2∧decide ((R:Int)>0)=v3∧
  ab Tryz.prog 160 [wA R C (zz (R*C))] [] (.ct [.int D,iv q]) [] []∧ab Tryz.prog 159 [wA R C (zz (R*C))] [] (.ct [wA a b ad,iv q]) [] []∧
  ab Tryz.prog 173 [wA R C (zz (R*C)),gO (zz M)] [] (.ct [.int d,gO l,iv x]) [] []∧
  ((v1=true∧q=1∧x=1∧d=0∧l=[]∧a=0∧ad=[])∨(v1=false∧v2=true∧q=0∧x=1∧d=0∧l=[])∨(v1=false∧v2=false∧v3=true∧q=0∧x=6∧d=0∧l=[])∨(v1=false∧v2=false∧v3=false∧q=0∧x=0)):=by
 have hl:=nq (R*C)
 have hsm:=eu (R*C)
 have YT:cc R C (R*C)=0:=dB aa aa rfl
 by_cases h1:R=C
 ·subst h1
  have uE:gu R R (zz (R*R)):=⟨aa,aa,nq _⟩
  have h6:R≤6:=xD (N:=R) hN (Nat.le_refl _) (Nat.le_refl _)
  have f1:((R:Int) != (R:Int))=false:=bne_self_eq_false _
  have kd:=rn uE (zn _) aF aF hR (Pp aa)
  have ka:=ng uE (zn _) aF aF hR (Pp aa)
  by_cases h2:M=R
  ·have f2:((M:Int) != (R:Int))=false:=by rw[h2];exact bne_self_eq_false _
   have kc:=xl uE (zn _) (b:=zz M) (by rw[nq,h2]) (zn M) aF aF hR (Pp aa)
   by_cases h3:0<R
   ·rw[if_pos (HT h3)]at kc
    exact⟨_,_,_,_,_,_,_,_,_,_,_,f1,f2,decide_eq_true aa,kd,ka,kc,.inr (.inr (.inl ⟨rfl,rfl,rfl,rfl,rfl,rfl,rfl⟩))⟩
   ·obtain rfl:R=0:=aa
    rw[if_neg (show ¬bo 0 (bl (zz (0*0)) 0)=0 from by show ¬(1:Int)=0;decide)]at kc
    exact⟨_,_,_,_,_,_,_,_,_,_,_,f1,f2,decide_eq_false aa,kd,ka,kc,.inr (.inr (.inr ⟨rfl,rfl,rfl,rfl,rfl⟩))⟩
  ·have f2:((M:Int) != (R:Int))=true:=bne_iff_ne.2 aa
   have kc:=Hw uE hsm (b:=zz M) (by rw[nq];exact h2)
   exact⟨_,_,_,_,_,_,_,_,_,_,_,f1,f2,rfl,kd,ka,kc,.inr (.inl ⟨rfl,rfl,rfl,rfl,rfl,rfl⟩)⟩
 ·have f1:((R:Int) != (C:Int))=true:=bne_iff_ne.2 aa
  have Li:F6 R C (zz (R*C)).length=1:=by rw[F6,hl,if_pos YT,if_neg aa]
  have kd:=K3 R C (zz (R*C)) aa hsm (by rw[Li];decide)
  have ka:=uv R C (zz (R*C)) aa hsm (by rw[Li];decide)
  have kc:=yY R C (zz (R*C)) aa hsm (zz M) (by rw[Li];decide)
  rw[Li]at kd ka kc
  exact⟨_,_,_,_,_,_,_,_,_,_,_,f1,rfl,rfl,kd,ka,kc,.inl ⟨rfl,rfl,rfl,rfl,rfl,rfl,rfl⟩⟩
theorem Mg (R C:Nat) (n many s:Int) (hn:0≤n∧n<256) (hm:0≤many∧many<256) (hR:R≤2048) (hC:C≤2048) (hN:R*C=(n % 40).toNat):
  ab Tryz.prog 48 [iv R,iv C,fV .u8 n,fV .u8 many,iv s] [] (.val (.bool true)) [] []:=by
 have kw:=fO
 obtain⟨e1,e2⟩:=pU n hn 40 aF
 obtain⟨e3,e4⟩:=pU many hm 9 aF
 have hN2:R*C≤39:=aa
 have hM:(many % 9).toNat≤8:=aa
 rw[←hN]at e2
 clear hN
 generalize (many % 9).toNat=M at*
 have a1:=kI (⟨hR,hC,EJ _⟩:jq R C (zL (R*C)))
 by_cases h40:R≤40∧C≤40
 ·obtain⟨hR,hC⟩:=h40
  have u1:decide ((R:Int)>40)=false:=decide_eq_false aa
  have u2:decide ((C:Int)>40)=false:=decide_eq_false aa
  have uE:gu R C (zz (R*C)):=⟨aa,aa,nq _⟩
  have YT:cc R C (R*C)=0:=dB aa aa rfl
  have hl:=nq (R*C)
  have a2:=iP R C (zz (R*C)) aa (eu _)
  have a3:=xh R C (zz (R*C)) aa (eu _)
  rw[hl,YT]at a2
  rw[hl,if_pos YT]at a3
  have a4:=oV (r:=R) (c:=C) (B:=2) (a:=zL (R*C)) (⟨aa,aa,EJ _⟩:jq R C (zL (R*C))) (fun p hp=>by rw[zL,List.getD_eq_getElem?_getD,List.getElem?_replicate];split<;>(rw[Option.getD];exact Nat.le_of_eq mU)) aF aa
  have a5:=ve uE (zn _) aF (by
   have:(R+1)*(1+(C+1)*2)≤41*(1+41*2):=Nat.mul_le_mul aa aa
   omega)
  have a11:=Md R C (zz (R*C)) aa
  obtain⟨w1,w2,sa,sb,sl,se,f1,f2,kS,hS⟩:=Pq hR hC hN2 s
  obtain⟨v1,v2,v3,d,l,qa,qb,ad,x,q,D,g1,g2,g3,kD,kA,kC,hQ⟩:=Mf (M:=M) hR hC hN2 hM
  have ph:=nq M
  rcases hS with⟨rfl,rfl,rfl,rfl⟩|⟨rfl,rfl,rfl,rfl,rfl⟩|⟨rfl,rfl,rfl⟩
  all_goals rcases hQ with⟨rfl,rfl,rfl,rfl,rfl,rfl,rfl⟩|⟨rfl,rfl,rfl,rfl,rfl,rfl⟩|⟨rfl,rfl,rfl,rfl,rfl,rfl,rfl⟩|⟨rfl,rfl,rfl,rfl,rfl⟩
  all_goals
   rw[←ph]at g2
   refine bP [100000] Tryz.func48 ?_
   intro W0 w0 ρ0 hE
   conv=>whnf
   refine eG 39 (blk:=Ho []) rfl rfl ?_
   refine eG 46 (blk:=hZ []) rfl rfl ?_
   refine eG 64 (blk:=Ho []) rfl rfl ?_
   refine dC hE ?_
   conv=>whnf
   (repeat((first|refine ag rfl rfl ?_|refine af rfl rfl ?_|refine bN Q3 ?_|refine aS (by assumption) ?_|refine ak jJ ?_|refine ak jo ?_|rw[beq_self_eq_true]|rw[bne_self_eq_false]|refine aM u2 ?_|refine aE f2 ?_|refine aM f2 ?_|refine aE g1 ?_|refine aM g1 ?_|refine aE g2 ?_|refine aM g2 ?_|refine aE g3 ?_|refine aM g3 ?_|refine ak cO ?_|refine ak Q30 ?_|refine ak Q31 ?_|refine⟨_,eJ aL df rfl (aj rfl) (aj rfl) rfl rfl rfl rfl (fN _ _) et, ?_⟩|rw[u1]|rw[u2]|rw[f1]|rw[e2]|rw[e4]);conv=>whnf));exact Q5
 ·have u3:(decide ((R:Int)>40)=true)∨(decide ((R:Int)>40)=false∧decide ((C:Int)>40)=true):=by
   by_cases h:R≤40
   ·exact .inr ⟨decide_eq_false aa,decide_eq_true aa⟩
   ·exact .inl (decide_eq_true aa)
  rcases u3 with u1|⟨u1,u2⟩
  all_goals
   refine bP [100000] Tryz.func48 ?_
   intro W0 w0 ρ0 hE
   conv=>whnf
   refine eG 39 (blk:=Ho []) rfl rfl ?_
   refine eG 46 (blk:=hZ []) rfl rfl ?_
   refine eG 64 (blk:=Ho []) rfl rfl ?_
   refine dC hE ?_
   conv=>whnf
   (repeat((first|refine ag rfl rfl ?_|refine af rfl rfl ?_|refine bN Q3 ?_|refine aS (by assumption) ?_|refine ak jJ ?_|refine ak jo ?_|rw[beq_self_eq_true]|refine aE u2 ?_|refine ak Q30 ?_|refine ak Q31 ?_|rw[u1]|rw[e2]);conv=>whnf));exact Q5
end Go.Proofs.YtfpagioknjjacaaGreatDoor
