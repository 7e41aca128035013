/- The texts Mf. -/
import Derived.Test.YtadphegfhgmgmaaGreatDoorQMModesKnown10
import Derived.Test.YtadphegfhgmgmaaGreatDoorQMModesKnown14
import Derived.Test.YtadphegfhgmgmaaGreatDoorQMModesKnown6
set_option linter.unusedSimpArgs false
set_option linter.unusedVariables false
set_option maxHeartbeats 40000000
set_option maxRecDepth 100000
open Int renaming toNat_natCast->ι
open List renaming mem_cons_self->η
open Nat renaming beq->ϋ,lt_succ_self->gq,one_pos->alw,sub_lt_sub_left->adj,zero_add->υ,zero_le->Γ
namespace Go.Proofs.YtadphegfhgmgmaaGreatDoor
open Go.Sx
def iC (n:Nat) (a m:List Rat) (t:Rat):Mx:=λi q=>a.getD (i*n+q) 0 - t*m.getD (i*n+q) 0
def Cq (w:Mx) (i k:Nat):Nat->Rat:=λq=>if q<k then w i q else 0
theorem J2 (w:Mx) (n i:Nat):List.replicate n (0:Rat)=zi n (Cq w i 0):=by
 refine mF (by simp) λq hq=> ?_
 unfold Cq;rw[if_neg aa];simp[List.getD_eq_getElem?_getD,List.getElem?_replicate,hq]
theorem RN {n k:Nat} (w:Mx) (i:Nat) (hk:k<n):(zi n (Cq w i k)).set k (w i k)=zi n (Cq w i (k+1)):=by
 refine mF (by rw[List.length_set,dm]) λq hq=> ?_
 by_cases e:q=k
 ·subst e;rw[p0 (by rw[dm];exact hk)];unfold Cq;rw[if_pos aa]
 ·rw[gT e,dr hq];unfold Cq;by_cases g:q<k
  ·rw[if_pos g,if_pos aa]
  ·rw[if_neg g,if_neg aa]
theorem RO (w:Mx) (i n:Nat):zi n (Cq w i n)=zi n (w i):=List.map_congr_left λq hq=>by
 unfold Cq;rw[if_pos (List.mem_range.1 hq)]
def stS (n:Nat) (w:Mx):Nat->List (Nat×aC)
 |0=>[(1001,⟨123,true,.one [iv n,.val (.slice none 0 0)]⟩)]
 |i+1=>(1001,sqB (i+1) n)::(1002,Hw true (jy (i+1) n))::nU (λ_=>true) (bq n w) (i+1) 0
abbrev Zj (r:Nat):List Nat:=(List.range r).map λj=>1010+j
def ksS:Nat->List Nat
 |0=>[1001]
 |i+1=>1001::1002::Zj (i+1)
theorem wD {r n:Nat} (a m:List Rat) (t:Rat) (hrn:r=n) (hr:r<=5) (Cz:1<=r) (ha:fa n n a) (hm:fa n n m)
  (hA:∀i q,i<n->q<n->fs (a.getD (i*n+q) 0)+(fs t+fs (m.getD (i*n+q) 0))<=4398046511104):
  aL Tryz.prog 56 [mA n n a,mA n n m,.frac t] [] (.ptr 1001 0 0 0) (qC r n (iC n a m t)) []:=by
 obtain⟨w,hw⟩:∃w,iC n a m t=w:=⟨_,rfl⟩;rw[hw];rcases(show r=1\/r=2\/r=3\/r=4\/r=5 by omega)with e1|e1|e1|e1|e1
 all_goals
  rw[e1];refine Bv (Z:=[3,4,5]) aH bC Tryz.func56 rfl aD (jz.of rfl rfl rfl rfl rfl rfl rfl rfl rfl rfl rfl) rfl (bl.id rfl) ?_;intro W0 w0 ρ0 hE;conv=>whnf
  (repeat(first|(refine an Q6 ?_;conv=>whnf)|(refine an Q9 ?_;conv=>whnf)))
  refine av hE (λk=>cond (ϋ k 14) 1001 k) [3,4,5,7,16,17] [14] (λm' fr hp=>∃i:Nat,m'=n - i/\i<=n/\fr=[(3,b9 (mC n n a)),(4,b9 (mC n n m)),(5,b9 [.frac t]),(7,.ptr 1001 0 0 0),(16,iv n),(17,iv i)]/\hp=stS n w i) n ?_ ?_ ?_
  ·kernel_rfl
  ·exact⟨0,rfl,Γ _,rfl,rfl⟩
  rintro m' _ _ ⟨i,rfl,hi,rfl,rfl⟩;by_cases aE:i<n
  ·have hid:i=0\/i=1\/i=2\/i=3\/i=4:=aa;have t9:=gZ aE;have t5:=bW (i:=i) aa;obtain⟨KB,hKB⟩:∃K,K=22::ksS i:=⟨_,rfl⟩;obtain⟨KE,hKE⟩:∃K,K=(1001::62::Zj i)++[22]:=⟨_,rfl⟩;obtain⟨σ,hσ⟩:∃f:Nat->Nat,f=λq=>cond (ϋ q 62) 1002 (cond (ϋ q 22) (1010+i) q):=⟨_,rfl⟩
   rcases hid with e3|e3|e3|e3|e3
   all_goals first|omega|skip
   all_goals
    have s9:=t9;have s5:=t5;rw[e3]at s9 s5;rw[e3];conv=>whnf
    (repeat((first|refine ao Q3 ?_|refine ay s9 ?_|refine an Q6 ?_|refine an Q9 ?_|rw[s9]|rw[ι]|rw[υ]);conv=>whnf))
    refine av hE (λk=>k) [3,4,5,7,8,9,16,17,24,25] KB (λm'' fr hp=>∃k:Nat,m''=n - k/\k<=n/\fr=[(3,b9 (mC n n a)),(4,b9 (mC n n m)),(5,b9 [.frac t]),(7,.ptr 1001 0 0 0),(8,iv i),(9,.aM 22 5 0 n),(16,iv n),(17,iv i),(24,iv n),(25,iv k)]/\hp=(22,eJ (zi n (Cq w i k)))::stS n w i) n ?_ ?_ ?_
    ·subst e3 hKB;kernel_rfl
    ·exact⟨0,rfl,Γ _,by subst e3;rfl,by rw[<-J2];subst e3 hKB;rfl⟩
    rintro m'' _ _ ⟨k,rfl,hk,rfl,rfl⟩;have hz:=dm n (Cq w i k);by_cases JY:k<n
    ·have t6:=gZ JY;have t7:=bW (i:=k) aa;have oy:i*n+k<n*n:=Nat.lt_of_lt_of_le (show i*n+k<(i+1)*n by rw[Nat.succ_mul];omega) (Nat.mul_le_mul_right n aE);obtain⟨t3,t4⟩:=rD (i:=i) (k:=k) (c:=n) aa aa aa;have ha1:i*n+k<a.length:=by rw[ha.n];exact oy
     have Of:i*n+k<m.length:=by rw[hm.n];exact oy
     have hs:=hA i k aE JY;have k1:=pa t (m.getD (i*n+k) 0) aa;have k2:=Hx (a.getD (i*n+k) 0) (t*m.getD (i*n+k) 0) (by have:=cH t (m.getD (i*n+k) 0);omega);have n8:=RN w i JY;rw[<-hw]at n8;rw[show iC n a m t i k=a.getD (i*n+k) 0 - t*m.getD (i*n+k) 0 from rfl,hw]at n8;rw[e3]at hz t3 t4 ha1 Of k1 k2 n8;rw[e3];conv=>whnf
     (repeat((first|refine aq aD ?_|refine aX Q3 ?_|refine ao Q3 ?_|refine aN aJ ?_|refine ay t6 ?_|refine an Q6 ?_|refine an Q22 ?_|refine an Q9 ?_|rw[t6]|rw[t7]|rw[t3]|rw[t4]|rw[ι]|rw[υ]);conv=>whnf))
     exact⟨_,λk=>k,[3,4,5,7,8,9,16,17,24,25],KB,adj JY (gq _),by subst e3 hKB;kernel_rfl,k+1,rfl,JY,by subst e3;rfl,by rw[<-n8];subst e3 hKB;rfl⟩
    ·have t6:=iH JY;obtain rfl:k=n:=aa;rw[RO];rw[e3];conv=>whnf
     (repeat((first|refine aG t6 ?_|refine⟨_,[],[(61,⟨33,true,.one [.aM 22 5 0 k]⟩)],[],rI rfl (aH.get (t:=121) rfl) rfl (aH.get (t:=33) rfl) rfl rfl rfl rfl ax,aF,eh rfl,ar, ?_⟩|refine⟨_,[(61,⟨33,true,.one [.aM 22 5 0 k]⟩)],[(62,_)],[],yo (kn:=62) rfl rfl rfl (ai rfl) (ai rfl) (aH.get (t:=121) rfl) rfl (aH.get (t:=121) rfl) rfl (aH.get (t:=33) rfl) (η ..) rfl alw rfl rfl ax ax,eB rfl,eh rfl,ar, ?_⟩|refine⟨_,[(1002,_),(61,⟨33,true,.one [.aM 22 5 0 k]⟩)],[(62,_)],[(1002,_)],By (kn:=62) rfl rfl rfl (ai rfl) (ai rfl) (aH.get (t:=121) rfl) rfl (aH.get (t:=121) rfl) rfl (aH.get (t:=33) rfl) (η ..) (List.mem_cons_of_mem _ (η ..)) (by rfl) rfl alw rfl (by rfl) rfl ax ax,gC rfl rfl,eh rfl,eT (η ..) rfl rfl rfl, ?_⟩|rw[t6]|rw[s5]|rw[υ]);conv=>whnf))
     subst e3;exact⟨_,σ,[3,4,5,7,16,17],KE,adj aE (gq _),by subst hσ hKE;kernel_rfl,_,rfl,aE,by subst hσ;rfl,by subst hσ hKE;rfl⟩
  ·have t9:=iH aE;have e3:i=r:=aa;rw[e3,e1]at t9;rw[e3,e1];conv=>whnf
   (repeat(first|(refine aG t9 ?_;conv=>whnf)))
   exact⟨au.refl _,by repeat(first|exact get_nil|refine cI rfl ?_),get_nil⟩
