/- The texts Qi. -/
import Derived.Test.YtadphegfhgmgmaaGreatDoorQMModesKnown14
set_option linter.unusedSimpArgs false
set_option linter.unusedVariables false
set_option maxHeartbeats 40000000
set_option maxRecDepth 100000
open Int renaming toNat_natCast->ι
open List renaming length_map->Χ,length_nil->ajM,range->Η,take->afH
open Nat renaming beq->ϋ,le_of_ble_eq_true->abW,le_of_eq->ake,le_refl->ζ,lt_of_lt_of_le->Ϟ,lt_succ_self->gq,one_mul->ajk,pow_zero->agF,sub_lt_sub_left->adj,succ_ne_zero->Ϗ,zero_add->υ,zero_le->Γ
namespace Go.Proofs.YtadphegfhgmgmaaGreatDoor
open Go.Sx
abbrev yD:Nat->Int:=λx=>(x:Int)
abbrev RZ (r c:Nat):List SV:=(Η r).map λi=>.aM (3010+i) 5 0 c
def R3 (M:Nat->List Rat):Nat->Nat->List (Nat×aC)
 |0,_=>[]
 |n+1,i=>(3010+i,xy true (M i))::R3 M n (i+1)
abbrev Dx (r:Nat):List Nat:=(Η r).map λj=>3010+j
abbrev Zn (r:Nat):List (Nat×aC):=wz (Dx r)
abbrev ahC (r m:Nat) (d:Rat):aC:=⟨183,true,.one [.aM 1002 1 0 r,iv m,.val (.slice none 0 0),.frac d]⟩
abbrev hpH (r m c:Nat) (w:Mx):List (Nat×aC):=(1001,ahC r m 1)::(1002,Hw true (RZ r c))::R3 (bq c w) r 0
abbrev hpR (r m c p:Nat) (sw:Mx) (sp:List Nat) (sd:Rat):List (Nat×aC):=Zn r++hpE true true true (λ_=>true) r m c p sd (sp.map yD) (bq c sw)
abbrev Zo (r q:Nat):List Nat:=Dx r++(1001::1002::q::(Η r).map λj=>1010+j)
theorem xF {r:Nat} (m c A:Nat) (w:Mx) (s:St) (hr:r<=6) (Cz:1<=r) (hm:m<=c) (hc:c<=4096) (hA:∀a q,a<r->q<c->fs (w a q)<=A) (h2:2<=A) (hA2:4096*A<=4398046511104) (hs:ni r m ⟨w,[],1⟩=s):
  aL Tryz.prog 111 [.ptr 1001 0 0 0] (hpH r m c w) (.ptr 1001 0 0 0) ((1003,pvB true (s.bP.map yD))::nU (λ_=>true) (bq c s.w) r 0)
   ((1001,wkB true r m s.bP.length s.d)::(1002,Hw true (jy r c))::Zn r):=by
 obtain⟨KR,hKR⟩:∃K,K=Zo r 1003:=⟨_,rfl⟩;obtain⟨K5,hK5⟩:∃K,K=Zo r 55:=⟨_,rfl⟩;rcases(show r=1\/r=2\/r=3\/r=4\/r=5\/r=6 by omega)with e1|e1|e1|e1|e1|e1
 all_goals first|omega|skip
 all_goals
  rw[e1];refine Bv (Z:=[100010]) aH bC Tryz.func111 rfl aD (jz.of rfl rfl rfl rfl rfl rfl rfl rfl rfl rfl rfl) rfl (bl.id rfl) ?_;intro W0 w0 ρ0 hE;conv=>whnf
  (repeat(first|(rw[υ];conv=>whnf)))
  refine Rm hE (λk=>cond (Nat.ble 3010 k) (k - 2000) k) [0,9,10] (1001::1002::Dx r) (Dx r) (by subst e1;kernel_rfl) ?_;refine uS (j:=1001) (p:=2) (k:=1003) (s:=1) (blk:=pvB true []) (by subst e1;rfl) rfl (by subst e1;rfl) rfl rfl ?_;refine av hE (λk=>k) [0,9,10] KR (λm' fr hp=>∃(k p:Nat) (sw:Mx) (sp:List Nat) (sd:Rat),m'=m - k/\k<=m/\ni r k ⟨w,[],1⟩=⟨sw,sp,sd⟩/\Zi r c A ⟨sw,sp,sd⟩/\sp.length=p/\p<=r/\fr=[(0,.ptr 1001 0 0 0),(9,iv m),(10,iv k)]/\hp=hpR r m c p sw sp sd) m ?_ ?_ ?_
  ·subst e1 hKR;kernel_rfl
  ·refine⟨0,0,w,[],1,rfl,Γ _,rfl,⟨λa q ha hq=>by rw[ajM,agF,ajk];exact hA a q ha hq,by rw[ajM,agF,ajk];exact Nat.le_trans (ake jv) h2⟩,rfl,Γ _,by subst e1;rfl,by subst e1 hKR;rfl⟩
  rintro m' _ _ ⟨k,p,sw,sp,sd,rfl,hk,hrd,gM,hp,hpr,rfl,rfl⟩;by_cases aE:k<m
  ·have t1:=gZ aE;have t2:=bW (i:=k) aa;have hpd:p=0\/p=1\/p=2\/p=3\/p=4\/p=5\/p=6:=aa;rcases hpd with e2|e2|e2|e2|e2|e2|e2
   all_goals first|omega|skip
   all_goals
    rw[e1,e2];conv=>whnf
    (repeat(first|(refine ay t1 ?_;conv=>whnf)|(rw[t1];conv=>whnf)|(rw[υ];conv=>whnf)))
    refine av hE (λk=>k) [0,3,4,5,9,10] KR (λm'' fr hp=>∃i:Nat,m''=r - i/\p<=i/\i<=r/\(∀a,p<=a->a<i->sw a k=0)/\fr=[(0,.ptr 1001 0 0 0),(3,iv k),(4,iv p),(5,iv i),(9,iv m),(10,iv k)]/\hp=hpR r m c p sw sp sd) (r - p) ?_ ?_ ?_
    ·subst e1 hKR;kernel_rfl
    ·exact⟨p,by subst e1 e2;rfl,ζ _,hpr,λa h1 h2=>aa,by subst e1 e2;rfl,by subst e1 e2 hKR;rfl⟩
    rintro m'' _ _ ⟨i,rfl,hpi,Lh,hz,rfl,rfl⟩;have hid:i=0\/i=1\/i=2\/i=3\/i=4\/i=5\/i=6:=aa;by_cases hi:i<r
    ·have x1:(bq c sw i).length=c:=dm _ _;have x2:(bq c sw i).getD k 0=sw i k:=dr (Ϟ aE hm);have k2:=iI (sw i k);by_cases Cy:sw i k=0
     ·have t3:decide ((sw i k).num.sign=0)=true:=by rw[pb];exact decide_eq_true Cy
      have hz':∀a,p<=a->a<i+1->sw a k=0:=λa h1 h2=>by
       by_cases e:a=i
       ·rw[e];exact Cy
       ·exact hz a h1 aa
      subst e1 e2;rcases hid with e3|e3|e3|e3|e3|e3|e3
      all_goals first|omega|skip
      all_goals
       subst e3;conv=>whnf
       (repeat((first|refine ag rfl rfl ?_|refine aX Q3 ?_|refine ao Q3 ?_|refine aN aJ ?_|refine ay t3 ?_|refine dc rfl (ai rfl) rfl (ez rfl) rfl (Ϗ _) rfl ?_|rw[x1]|rw[x2]|rw[ι]|rw[υ]);conv=>whnf))
       exact⟨_,λk=>k,[0,3,4,5,9,10],KR,adj hi (gq _),by subst hKR;kernel_rfl,_,rfl,Nat.le_succ_of_le hpi,hi,hz',rfl,by subst hKR;rfl⟩
     ·have t3:decide ((sw i k).num.sign=0)=false:=by rw[pb];exact decide_eq_false Cy
      have uz:p<r:=aa;have nv:=ND (r:=r) (sp:=sp) (sd:=sd) aa hi (λa h1 h2=>hz a aa h2) Cy;have R4:=gM.step (k:=k) (i:=i) (Ϟ aE hm) hi aa;rw[hp]at nv R4;have NI:ni r (k+1) ⟨w,[],1⟩=⟨wC (aP sw i p) p k r,sp++[k],(if i=p then sd else - sd)*aP sw i p p k⟩:=by rw[p6,hrd];exact nv
      have iD:(sp++[k]).length=p+1:=by rw[List.length_append,hp];rfl
      have h4:4*(4^p*A)<=4398046511104:=by
       have h5:4^p<=1024:=Nat.pow_le_pow_right (n:=4) ax (show p<=5 by omega);have h6:=Nat.mul_le_mul_right A h5;omega
      have afn:=HG (i:=i) (p:=p) gM.w hi uz;have hsd:=gM.d;simp only[hp]at afn hsd;have qE:fs (if i=p then sd else - sd)+4^p*A<=4398046511104:=by
       have:fs (if i=p then sd else - sd)=fs sd:=by split<;>simp[ju]
       omega
      have k4:=RA (k:=k) m c p (4^p*A) (if i=p then sd else - sd) (sp.map yD) (aP sw i p) hr uz (Ϟ aE hm) hc (by rw[Dc];exact Cy) afn h4 qE;have lI:(sp++[k]).map yD=afH p (sp.map yD)++afH 1 (List.drop 0 [(k:Int)]):=by rw[List.map_append,List.take_of_length_le (by rw[Χ];exact ake hp)];rfl
      have Uz:(sp.map yD).length=p:=by rw[Χ];exact hp
      by_cases Xa:i=p
      ·have k3:=WM i;subst Xa
       all_goals first|(exfalso;omega)|skip
       all_goals
        subst e1 e2;simp only[if_true]at k4 NI R4;conv=>whnf
        (repeat((first|refine ag rfl rfl ?_|refine aX Q3 ?_|refine ao Q3 ?_|refine aN aJ ?_|refine aG t3 ?_|refine dc rfl (ai rfl) rfl (ez rfl) rfl (Ϗ _) rfl ?_|refine Co k3 Vm ar ?_|rw[x1]|rw[x2]|rw[ι]|rw[υ]);conv=>whnf))
        refine cv hE ?_;conv=>whnf
        (repeat((first|refine ao Q3 ?_|refine Co k4 Vm (jd rfl rfl) ?_|rw[t2]|rw[υ]);conv=>whnf))
        exact⟨_,λq=>cond (ϋ q 55) 1003 q,[0,9,10],K5,adj aE (gq _),by subst hK5;kernel_rfl,_,_,_,_,_,rfl,aE,NI,R4,iD,uz,rfl,by unfold hpR;rw[lI];subst hK5;rfl⟩
      ·have k3:=ab5 m c p sd (sp.map yD) (bq c sw) hr hi (show p<i by omega);obtain⟨σ,hσ⟩:∃f:Nat->Nat,f=λq=>cond (ϋ q (1010+i)) (1010+p) (cond (ϋ q (1010+p)) (1010+i) q):=⟨_,rfl⟩
       simp only[if_neg Xa]at k4 NI R4;subst e1 e2;rcases hid with e3|e3|e3|e3|e3|e3|e3
       all_goals first|omega|skip
       all_goals
        subst e3;conv=>whnf
        (repeat((first|refine ag rfl rfl ?_|refine aX Q3 ?_|refine ao Q3 ?_|refine aN aJ ?_|refine aG t3 ?_|refine dc rfl (ai rfl) rfl (ez rfl) rfl (Ϗ _) rfl ?_|refine Co k3 Vm (jd rfl rfl) ?_|rw[x1]|rw[x2]|rw[ι]|rw[υ]);conv=>whnf))
        refine Rn hE σ [0,3,4,9,10] KR (by subst hσ hKR;kernel_rfl) ?_;subst hσ hKR;refine cv hE ?_;conv=>whnf
        (repeat((first|refine ao Q3 ?_|refine Co k4 Vm (jd rfl rfl) ?_|refine And.intro ⟨ake Uz.symm,ζ _,abW rfl,abW rfl⟩ ?_|rw[t2]|rw[υ]);conv=>whnf))
        exact⟨_,λq=>cond (ϋ q 55) 1003 q,[0,9,10],K5,adj aE (gq _),by subst hK5;kernel_rfl,_,_,_,_,_,rfl,aE,NI,R4,iD,uz,rfl,by unfold hpR;rw[lI];subst hK5;rfl⟩
    ·obtain rfl:i=r:=aa;have nv:=NF (r:=i) (k:=k) (sw:=sw) (sp:=sp) (sd:=sd) aa λa h1 h2=>hz a aa h2
     have NI:ni i (k+1) ⟨w,[],1⟩=⟨sw,sp,sd⟩:=by rw[p6,hrd];exact nv
     subst e1 e2;conv=>whnf
     (repeat(first|(refine ae rfl rfl ?_;conv=>whnf)|(rw[t2];conv=>whnf)|(rw[υ];conv=>whnf)))
     exact⟨_,λk=>k,[0,9,10],KR,adj aE (gq _),by subst hKR;kernel_rfl,_,_,sw,sp,sd,rfl,aE,NI,gM,hp,hpr,rfl,by subst hKR;rfl⟩
  ·obtain rfl:k=m:=aa;have t1:=iH aE;have Xb:s=⟨sw,sp,sd⟩:=by rw[<-hs];exact hrd
   subst Xb hp;rw[e1];conv=>whnf
   (repeat(first|(refine aG t1 ?_;conv=>whnf)))
   subst e1;exact⟨au.refl _,by repeat(first|exact get_nil|refine cI rfl ?_),by repeat(first|exact get_nil|refine cI rfl ?_)⟩
