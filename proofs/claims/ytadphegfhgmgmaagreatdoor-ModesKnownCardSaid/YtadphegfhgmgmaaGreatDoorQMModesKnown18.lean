/- The texts Qj. -/
import Derived.Test.YtadphegfhgmgmaaGreatDoorQMModesKnown17
import Derived.Test.YtadphegfhgmgmaaGreatDoorQMModesKnown14
import Derived.Test.YtadphegfhgmgmaaGreatDoorQMModesKnown6
set_option linter.unusedSimpArgs false
set_option linter.unusedVariables false
set_option maxHeartbeats 40000000
set_option maxRecDepth 100000
open Go.IntKind renaming i64->ε
open Int renaming toNat_natCast->ι
open List renaming getD_eq_getElem?_getD->δ,map_cons->ϲ,mem_cons_self->η,replicate->θ
open Nat renaming add_sub_cancel_left->ahU,beq->ϋ,lt_succ_self->gq,one_pos->alw,sub_lt_sub_left->adj,zero_add->υ,zero_le->Γ
namespace Go.Proofs.YtadphegfhgmgmaaGreatDoor
open Go.Sx
theorem yp {ρ:bY}:∀(xs:List Rat) (z:List (List Value)),aw ρ (xs.map .frac) z->z=xs.map bL
 |[],z,h=>by simpa only[List.map_nil,aw]using h
 |x::xs,z,h=>by
  simp only[ϲ,aw]at h;obtain⟨y,r,rfl,h1,h2⟩:=h;rw[yp xs r h2];simp only[aI]at h1;rw[h1,ϲ]
theorem J3 (xs:List Rat):∀(ρ:bY) z,aw (cW ρ.aW ρ.cA) (xs.map .frac) z->(∀x∈xs.map SV.frac,x.width=5)->Go.Sx.Rows ρ 5 (.cf xs) z:=
 λρ z h _=>⟨rfl,yp xs z h⟩
def qD (a:List Rat) (c:Nat) (b:Mx):Mx:=λi q=>if q<c then el a c i q else b i (q - c)
def Cr (a:List Rat) (c:Nat) (b:Mx) (i k:Nat):Nat->Rat:=λq=>if q<c then el a c i q else if q<c+k then b i (q - c)else 0
theorem Ff {n:Nat} {f:Nat->Rat} {l:List Rat} (hl:l.length=n) (h:∀q,q<n->l.getD q 0=f q):l=zi n f:=mF hl h
theorem R5 {l m:List Rat} {q:Nat}:(l++m).getD q 0=if q<l.length then l.getD q 0 else m.getD (q - l.length) 0:=by
 simp only[δ];by_cases h:q<l.length
 ·rw[if_pos h,List.getElem?_append_left h]
 ·rw[if_neg h,List.getElem?_append_right aa]
theorem NJ {r c more:Nat} {a:List Rat} (b:Mx) {i:Nat} (hi:i<r) (ha:a.length=r*c):oX a c i++θ more 0=zi (c+more) (Cr a c b i 0):=by
 have hl:=gI hi ha;refine Ff (by simp[hl]) λq hq=> ?_
 rw[R5,hl];unfold Cr;by_cases h:q<c
 ·rw[if_pos h,if_pos h,lD h]
 ·rw[if_neg h,if_neg h,if_neg aa];simp[δ,List.getElem?_replicate];split<;>rfl
theorem Xc {c more k:Nat} {a:List Rat} {b:Mx} {i:Nat} (hk:k<more):(zi (c+more) (Cr a c b i k)).set (c+k) (b i k)=zi (c+more) (Cr a c b i (k+1)):=by
 refine Ff (by rw[List.length_set,dm]) λq hq=> ?_
 by_cases e:q=c+k
 ·subst e;rw[p0 Pj];unfold Cr;rw[if_neg aa,if_pos aa,ahU]
 ·rw[gT e,dr hq];unfold Cr;by_cases h:q<c
  ·rw[if_pos h,if_pos h]
  ·rw[if_neg h,if_neg h];by_cases g:q<c+k
   ·rw[if_pos g,if_pos aa]
   ·rw[if_neg g,if_neg aa]
theorem Xd {c more:Nat} {a:List Rat} {b:Mx} {i:Nat}:zi (c+more) (Cr a c b i more)=zi (c+more) (qD a c b i):=by
 refine Ff (dm _ _) λq hq=> ?_
 rw[dr hq];unfold Cr qD;by_cases h:q<c
 ·rw[if_pos h,if_pos h]
 ·rw[if_neg h,if_neg h,if_pos hq]
def stB (c n:Nat) (w:Mx):Nat->List (Nat×aC)
 |0=>[(1001,⟨183,true,.one [.val (.slice none 0 0),iv c,.val (.slice none 0 0),.frac 1]⟩)]
 |i+1=>(1001,⟨183,true,.one [.aM 1002 1 0 (i+1),iv c,.val (.slice none 0 0),.frac 1]⟩)::(1002,Hw true (RZ (i+1) n))::R3 (bq n w) (i+1) 0
def ksB:Nat->List Nat
 |0=>[1001]
 |i+1=>1001::1002::Dx (i+1)
theorem R6 {c more:Nat} {l:List Rat} (hl:l.length=c):x7 (.cf (θ (c+more) 0)) 0 (.cf l) 0 c=some (.cf (l++θ more 0)):=by
 simp only[x7,List.take_zero,List.nil_append,List.drop_zero,υ,List.drop_replicate,ahU];rw[List.take_of_length_le aa]
theorem BB {r c:Nat} (more:Nat) (a:List Rat) (b:Mx) (g:FuncId) (hr:r<=6) (Cz:1<=r) (ha:fa r c a) (hc:c<=40) (hm:more<=40)
  (hb:∀i k,i<r->k<more->C0 g ([]++([iv (i:Nat),iv (k:Nat)]++[])) (.frac (b i k))):
  aL Tryz.prog 109 [mA r c a,iv more,.clo g [] []] [] (.ptr 1001 0 0 0) (hpH r c (c+more) (qD a c b)) []:=by
 have t0:ε.wrap ((c:Int)+(more:Int))=((c+more:Nat):Int):=by rw[wrap_i64 aa aa];omega
 have k0:C0 35 [iv 1] (.frac 1):=dH 1 ax ax;rcases(show r=1\/r=2\/r=3\/r=4\/r=5\/r=6 by omega)with e1|e1|e1|e1|e1|e1
 all_goals first|omega|skip
 all_goals
  rw[e1];refine Bv (Z:=[3]) aH bC Tryz.func109 rfl aD (jz.of rfl rfl rfl rfl rfl rfl rfl rfl rfl rfl rfl) rfl (bl.id rfl) ?_;intro W0 w0 ρ0 hE;conv=>whnf
  (repeat((first|refine aq aD ?_|refine aN aJ ?_|refine an Q6 ?_|refine an Q9 ?_);conv=>whnf))
  refine av hE (λk=>cond (ϋ k 15) 1001 k) [1,2,3,7,17,18] [15] (λm' fr hp=>∃i:Nat,m'=r - i/\i<=r/\fr=[(1,iv more),(2,.clo g [] []),(3,b9 (mC r c a)),(7,.ptr 1001 0 0 0),(17,iv r),(18,iv i)]/\hp=stB c (c+more) (qD a c b) i) r ?_ ?_ ?_
  ·kernel_rfl
  ·exact⟨0,rfl,Γ _,by subst e1;rfl,rfl⟩
  rintro m' _ _ ⟨i,rfl,hi,rfl,rfl⟩;by_cases aE:i<r
  ·have hid:i=0\/i=1\/i=2\/i=3\/i=4\/i=5:=aa;obtain⟨t3,t4,t5⟩:=QH (i:=i) (c:=c) aa aa;have hl:=gI aE ha.n;have FH:=NJ (more:=more) b aE ha.n;have oy:(i+1)*c<=a.length:=by rw[ha.n];exact Nat.mul_le_mul_right c aE
   obtain⟨KB,hKB⟩:∃K,K=25::ksB i:=⟨_,rfl⟩;obtain⟨KE,hKE⟩:∃K,K=(1001::62::Dx i)++[25]:=⟨_,rfl⟩;obtain⟨σ,hσ⟩:∃f:Nat->Nat,f=λq=>cond (ϋ q 62) 1002 (cond (ϋ q 25) (3010+i) q):=⟨_,rfl⟩
   rcases hid with e3|e3|e3|e3|e3|e3
   all_goals first|omega|skip
   all_goals
    have s3:=t3;have s4:=t4;have s5:=t5;have V6:=hl;have hX:List.take ((i+1)*c - i*c) (List.drop (i*c) a)=oX a c i:=by rw[Nat.succ_mul,ahU]
    have ahE:=oy;rw[e3]at s3 s4 s5 V6 ahE hX;rw[e1,e3];conv=>whnf
    (repeat(first|(refine ag rfl rfl ?_;conv=>whnf)|(refine ao Q3 ?_;conv=>whnf)|(refine an Q6 ?_;conv=>whnf)|(refine an Q9 ?_;conv=>whnf)|(refine an Q20 ?_;conv=>whnf)|(refine⟨_,[(25,eJ (θ (c+more) 0))],[],[(25,eJ (oX a c _++θ more 0))],RM (c:=c) (n:=c+more) (m:=c) (i:=0) (k:=25) rfl rfl rfl (ai rfl) (ai rfl) (J3 _) (aH.get (t:=33) rfl) rfl (aH.get (t:=49) rfl) (η ..) rfl rfl (by simp[gu]) (by rw[List.length_map];exact V6.symm) (by show 0+c<=List.length _;omega) (Nat.min_eq_left (Nat.le_add_right _ _)).symm (R6 V6),eB rfl,ak,eT (η ..) rfl rfl rfl, ?_⟩;conv=>whnf)|(rw[t0];conv=>whnf)|(rw[s3];conv=>whnf)|(rw[s4];conv=>whnf)|(rw[s5];conv=>whnf)|(rw[hX];conv=>whnf)|(rw[ι];conv=>whnf)|(rw[υ];conv=>whnf)))
    refine av hE (λk=>k) [1,2,3,7,8,9,17,18,40,41] KB (λm'' fr hp=>∃k:Nat,m''=more - k/\k<=more/\fr=[(1,iv more),(2,.clo g [] []),(3,b9 (mC r c a)),(7,.ptr 1001 0 0 0),(8,iv i),(9,.aM 25 5 0 (c+more)),(17,iv r),(18,iv i),(40,iv more),(41,iv k)]/\hp=(25,eJ (zi (c+more) (Cr a c b i k)))::stB c (c+more) (qD a c b) i) more ?_ ?_ ?_
    ·subst e1 e3 hKB;kernel_rfl
    ·exact⟨0,rfl,Γ _,by subst e1 e3;rfl,by rw[<-FH];subst e1 e3 hKB;rfl⟩
    rintro m'' _ _ ⟨k,rfl,hk,rfl,rfl⟩;have hz:=dm (c+more) (Cr a c b i k);by_cases JY:k<more
    ·have t6:=gZ JY;have t7:=bW (i:=k) aa;have t8:ε.wrap ((c:Int)+(k:Int))=((c+k:Nat):Int):=by rw[wrap_i64 aa aa];omega
     have kb:=hb i k aE JY;have n8:=Xc (a:=a) (b:=b) (c:=c) (i:=i) JY;rw[e3]at hz kb;rw[e1,e3];conv=>whnf
     (repeat((first|refine aq aD ?_|refine aX Q3 ?_|refine ao Q3 ?_|refine aN aJ ?_|refine ay t6 ?_|refine an Q6 ?_|refine an Q9 ?_|rw[t6]|rw[t7]|rw[t8]|rw[ι]|rw[υ]);conv=>whnf))
     exact⟨_,λk=>k,[1,2,3,7,8,9,17,18,40,41],KB,adj JY (gq _),by subst e1 e3 hKB;kernel_rfl,k+1,rfl,JY,by subst e1 e3;rfl,by subst e1 e3 hKB;rw[<-n8];rfl⟩
    ·have t6:=iH JY;obtain rfl:k=more:=aa;have hpe:=Xd (a:=a) (b:=b) (c:=c) (more:=k) (i:=i);rw[hpe];rw[e1,e3];conv=>whnf
     (repeat((first|refine aG t6 ?_|refine⟨_,[],[(61,⟨33,true,.one [.aM 25 5 0 (c+k)]⟩)],[],rI rfl (aH.get (t:=121) rfl) rfl (aH.get (t:=33) rfl) rfl rfl rfl rfl ax,aF,eh rfl,ar, ?_⟩|refine⟨_,[(61,⟨33,true,.one [.aM 25 5 0 (c+k)]⟩)],[(62,_)],[],yo (kn:=62) rfl rfl rfl (ai rfl) (ai rfl) (aH.get (t:=121) rfl) rfl (aH.get (t:=121) rfl) rfl (aH.get (t:=33) rfl) (η ..) rfl alw rfl rfl ax ax,eB rfl,eh rfl,ar, ?_⟩|refine⟨_,[(1002,_),(61,⟨33,true,.one [.aM 25 5 0 (c+k)]⟩)],[(62,_)],[(1002,_)],By (kn:=62) rfl rfl rfl (ai rfl) (ai rfl) (aH.get (t:=121) rfl) rfl (aH.get (t:=121) rfl) rfl (aH.get (t:=33) rfl) (η ..) (List.mem_cons_of_mem _ (η ..)) (by rfl) rfl alw rfl (by rfl) rfl ax ax,gC rfl rfl,eh rfl,eT (η ..) rfl rfl rfl, ?_⟩|rw[t6]|rw[s5]|rw[υ]);conv=>whnf))
     subst e1 e3;exact⟨_,σ,[1,2,3,7,17,18],KE,adj aE (gq _),by subst hσ hKE;kernel_rfl,_,rfl,aE,by subst hσ;rfl,by subst hσ hKE;rfl⟩
  ·obtain rfl:i=r:=aa;subst e1;conv=>whnf
   (repeat(first|(refine ae rfl rfl ?_;conv=>whnf)))
   exact⟨au.refl _,by repeat(first|exact get_nil|refine cI rfl ?_),get_nil⟩
