/- The texts Mh. -/
import Derived.Test.YtadphegfhgmgmaaGreatDoorQMModesKnown11
set_option linter.unusedSimpArgs false
set_option linter.unusedVariables false
set_option maxHeartbeats 40000000
set_option maxRecDepth 100000
open Classical renaming byContradiction->Ο
open Int renaming toNat_natCast->ι
open List renaming mem_cons->Λ,mem_cons_of_mem->Δ,mem_cons_self->η
open Nat renaming lt_of_lt_of_eq->ald,lt_or_ge->Ϝ,succ_ne_zero->Ϗ,zero_add->υ,zero_le->Γ
namespace Go.Proofs.YtadphegfhgmgmaaGreatDoor
open Go.Sx
theorem uU {r n:Nat} {X:Mx} {hp:List (Nat×aC)} (h1:find hp 1001=some (sqB r n)) (h2:find hp 1002=some (Hw true (jy r n))) (h:∀j,j<r->find hp (1010+j)=some (xy true (bq n X j))):yx hp (qC r n X):=by
 intro k b hm;rcases Λ.1 hm with e|hm
 ·cases e;exact h1
 ·rcases Λ.1 hm with e|hm
  ·cases e;exact h2
  ·exact Fb h k b hm
theorem p5 {r n:Nat} {X Y:Mx}:mK (qC r n X) (qC r n Y):=by
 intro k b hm;rcases Λ.1 hm with e|hm
 ·cases e;exact⟨_,η ..,rfl,rfl,rfl⟩
 ·rcases Λ.1 hm with e|hm
  ·cases e;exact⟨_,Δ _ (η ..),rfl,rfl,rfl⟩
  ·obtain⟨b0,h1,h2⟩:=Br k b hm;exact⟨b0,Δ _ (Δ _ h1),h2⟩
theorem sign_eq {q:Rat} (h:q=0):(q.num.sign != 0)=false:=by rw[bne,ym,decide_eq_true h];rfl
theorem W2 {q:Rat} (h:q≠0):(q.num.sign != 0)=true:=by rw[bne,ym,decide_eq_false h];rfl
theorem HD {r n i k:Nat} (A:Nat) (X Y:Mx) (d:Nat->Bool) (ri:Int) (rb:Bool) (hrn:r=n) (hr:r<=5) (Cz:1<=r) (hi:i<=n) (hA:∀a q,a<n->q<n->fs (X a q)<=A) (hH:4*A+6<=4398046511104) (h0:∀j,j<n->d j=true\/X j j=0)
  (hlex:∀j l,j<n->l<n->(j<i\/(j=i/\l<k))->d j=true\/d l=true\/X j l=0)
  (hf:i<n->k<n/\d i=false/\d k=false/\X i k≠0/\ri=i/\rb=true/\Y=lK X i k 1) (he:i=n->ri=0/\rb=false/\Y=X):
  aL Tryz.prog 121 [.ptr 1001 0 0 0,.aM 1003 1 0 n] (zn r n X d) (.bQ [iv ri,.val (.bool rb)]) [] (zn r n Y d):=by
 obtain⟨KR,hKR⟩:∃K,K=1003::1001::1002::(List.range r).map λj=>1010+j:=⟨_,rfl⟩
 have k0:C0 35 [iv 1] (.frac 1):=dH 1 ax ax;rcases(show r=1\/r=2\/r=3\/r=4\/r=5 by omega)with e1|e1|e1|e1|e1
 all_goals
  rw[e1];refine rH (Z:=[700019,700028,700031,700054,700060,700070,700073]) aH bC Tryz.func121 rfl aD (cb.of rfl rfl rfl rfl rfl rfl rfl rfl rfl rfl rfl) rfl ?_;intro W0 w0 ρ0 hE;conv=>whnf
  (repeat(first|(rw[υ];conv=>whnf)))
  refine av hE (λk=>k) [0,1,12,13] KR (λm' fr hp=>∃q:Nat,m'=n - q/\q<=n/\fr=[(0,.ptr 1001 0 0 0),(1,.aM 1003 1 0 n),(12,iv n),(13,iv q)]/\hp=zn r n X d) n ?_ ?_ ?_
  ·subst e1 hKR;kernel_rfl
  ·exact⟨0,rfl,Γ _,rfl,by subst e1 hKR;rfl⟩
  rintro m' _ _ ⟨q,rfl,hq,rfl,rfl⟩;by_cases aE:q<n
  ·have t1:=gZ aE;have t2:=bW (i:=q) aa;have Zh:=ald aE hrn.symm;have hs:=je (n:=n) aa Zh;have qE:=ng (n:=n) (X:=X) (d:=d) Zh;have k1:=iI (X q q);rw[e1]at qE hs;rw[e1];cases hdq:d q with
   |true=>
    conv=>whnf
    (repeat((first|refine ae rfl rfl ?_|refine ao Q3 ?_|refine an dZ ?_|refine ay t1 ?_|refine eV rfl (ai rfl) rfl (ez rfl) aE hdq rfl rfl ?_|rw[t1]|rw[t2]|rw[ι]|rw[υ]);conv=>whnf))
    exact⟨n - (q+1),λk=>k,[0,1,12,13],KR,aa,by subst e1 hKR;kernel_rfl,q+1,rfl,aE,rfl,by subst e1 hKR;rfl⟩
   |false=>
    have t3:((X q q).num.sign != 0)=false:=sign_eq ((h0 q aE).resolve_left (by rw[hdq];decide));conv=>whnf
    (repeat(first|(refine ag rfl rfl ?_;conv=>whnf)|(refine ao Q3 ?_;conv=>whnf)|(refine aN aJ ?_;conv=>whnf)|(refine an er ?_;conv=>whnf)|(refine ay t1 ?_;conv=>whnf)|(refine aG t3 ?_;conv=>whnf)|(refine eV rfl (ai rfl) rfl (ez rfl) aE hdq rfl rfl ?_;conv=>whnf)|(refine dc rfl (ai rfl) rfl (ez rfl) hs (Ϗ _) rfl ?_;conv=>whnf)|(refine kG rfl (ai rfl) qE (ez rfl) Pj (dr aa) rfl (Ϗ _) rfl ?_;conv=>whnf)|(rw[t1];conv=>whnf)|(rw[t2];conv=>whnf)|(rw[t3];conv=>whnf)|(rw[ι];conv=>whnf)|(rw[υ];conv=>whnf)))
    exact⟨n - (q+1),λk=>k,[0,1,12,13],KR,aa,by subst e1 hKR;kernel_rfl,q+1,rfl,aE,rfl,by subst e1 hKR;rfl⟩
  have t1:=iH aE;rw[e1];conv=>whnf
  (repeat(first|(refine aG t1 ?_;conv=>whnf)|(rw[t1];conv=>whnf)|(rw[υ];conv=>whnf)))
  clear t1 aE hq;refine av hE (λk=>k) [0,1,40,41] KR (λm' fr hp=>∃q:Nat,m'=n - q/\q<=i/\fr=[(0,.ptr 1001 0 0 0),(1,.aM 1003 1 0 n),(40,iv n),(41,iv q)]/\hp=zn r n X d) n ?_ ?_ ?_
  ·subst e1 hKR;kernel_rfl
  ·exact⟨0,rfl,Γ _,rfl,by subst e1 hKR;rfl⟩
  clear q;rintro m' _ _ ⟨q,rfl,hq,rfl,rfl⟩;by_cases aE:q<n
  ·have t1:=gZ aE;have t2:=bW (i:=q) aa;have Zh:=ald aE hrn.symm;have hs:=je (n:=n) aa Zh;have qE:=ng (n:=n) (X:=X) (d:=d) Zh;rw[e1]at qE hs;rw[e1];conv=>whnf
   (repeat(first|(refine ay t1 ?_;conv=>whnf)|(rw[t1];conv=>whnf)|(rw[υ];conv=>whnf)))
   refine av hE (λk=>k) [0,1,7,40,41,47,48] KR (λm' fr hp=>∃l:Nat,m'=n - l/\l<=n/\(q=i->l<=k)/\fr=[(0,.ptr 1001 0 0 0),(1,.aM 1003 1 0 n),(7,iv q),(40,iv n),(41,iv q),(47,iv n),(48,iv l)]/\hp=zn r n X d) n ?_ ?_ ?_
   ·subst e1 hKR;kernel_rfl
   ·exact⟨0,rfl,Γ _,λ_=>Γ _,rfl,by subst e1 hKR;rfl⟩
   rintro m' _ _ ⟨l,rfl,hl,hlk,rfl,rfl⟩;by_cases D0:l<n
   ·have t4:=gZ D0;have t5:=bW (i:=l) aa;have k1:=iI (X q l);by_cases hxx:d q=false/\d l=false/\X q l≠0
    ·obtain⟨x1,x2,x3⟩:=hxx;have WZ:q=i:=by
      rcases Ϝ q i with g|g
      ·rcases hlex q l aE D0 (.inl g)with y|y|y
       ·rw[y]at x1;cases x1
       ·rw[y]at x2;cases x2
       ·exact absurd y x3
      ·omega
     have aht:l=k:=by
      rcases Ϝ l k with g|g
      ·rcases hlex q l aE D0 (.inr ⟨WZ,g⟩)with y|y|y
       ·rw[y]at x1;cases x1
       ·rw[y]at x2;cases x2
       ·exact absurd y x3
      ·have:=hlk WZ;omega
     subst WZ aht;obtain⟨_,_,_,_,f5,f6,f7⟩:=hf aE;have a8:q≠l:=λe=>by
      rcases h0 q aE with y|y
      ·rw[y]at x1;cases x1
      ·rw[<-e]at x3;exact x3 y
     have ab9:=Zf (t:=q) (f:=l) A 2 X 1 hrn aa aE D0 a8 hA (Nat.le_of_eq jv) aa;rw[<-f7]at ab9;have hfa:=λj=>ng (r:=r) (n:=n) (j:=j) (X:=X) (d:=d)
     have t3:=W2 x3;rw[e1]at ab9 hfa;rw[e1,f5,f6];conv=>whnf
     (repeat(first|(refine ag rfl rfl ?_;conv=>whnf)|(refine ao Q3 ?_;conv=>whnf)|(refine aN aJ ?_;conv=>whnf)|(refine an er ?_;conv=>whnf)|(refine ay t4 ?_;conv=>whnf)|(refine ay t3 ?_;conv=>whnf)|(refine eV rfl (ai rfl) rfl (ez rfl) aE x1 rfl rfl ?_;conv=>whnf)|(refine eV rfl (ai rfl) rfl (ez rfl) D0 x2 rfl rfl ?_;conv=>whnf)|(refine dc rfl (ai rfl) rfl (ez rfl) hs (Ϗ _) rfl ?_;conv=>whnf)|(refine kG rfl (ai rfl) qE (ez rfl) Pj (dr aa) rfl (Ϗ _) rfl ?_;conv=>whnf)|(refine⟨_,_,[],_,ab9,uU rfl rfl hfa,ak,p5, ?_⟩;conv=>whnf)|(rw[t4];conv=>whnf)|(rw[ι];conv=>whnf)|(rw[υ];conv=>whnf)))
     exact⟨au.refl _,get_nil,by repeat(first|exact get_nil|refine cI rfl ?_)⟩
    ·have acb:q=i->l+1<=k:=λe=>by
      have g:=hlk e;rcases Ϝ l k with g2|g2
      ·omega
      ·obtain rfl:l=k:=aa;subst e;obtain⟨_,f2,f3,f4,_⟩:=hf aE;exact absurd ⟨f2,f3,f4⟩ hxx
     rw[e1];cases x1:d q with
     |true=>
      conv=>whnf
      (repeat((first|refine ae rfl rfl ?_|refine ao Q3 ?_|refine an dZ ?_|refine ay t4 ?_|refine eV rfl (ai rfl) rfl (ez rfl) aE x1 rfl rfl ?_|rw[t4]|rw[t5]|rw[ι]|rw[υ]);conv=>whnf))
      exact⟨n - (l+1),λk=>k,[0,1,7,40,41,47,48],KR,aa,by subst e1 hKR;kernel_rfl,l+1,rfl,D0,acb,rfl,by subst e1 hKR;rfl⟩
     |false=>
      cases x2:d l with
      |true=>
       conv=>whnf
       (repeat((first|refine ag rfl rfl ?_|refine ae rfl rfl ?_|refine ao Q3 ?_|refine an er ?_|refine an dZ ?_|refine ay t4 ?_|refine eV rfl (ai rfl) rfl (ez rfl) aE x1 rfl rfl ?_|refine eV rfl (ai rfl) rfl (ez rfl) D0 x2 rfl rfl ?_|rw[t4]|rw[t5]|rw[ι]|rw[υ]);conv=>whnf))
       exact⟨n - (l+1),λk=>k,[0,1,7,40,41,47,48],KR,aa,by subst e1 hKR;kernel_rfl,l+1,rfl,D0,acb,rfl,by subst e1 hKR;rfl⟩
      |false=>
       have t3:=sign_eq (q:=X q l) (Ο λy=>hxx ⟨x1,x2,y⟩);conv=>whnf
       (repeat(first|(refine ag rfl rfl ?_;conv=>whnf)|(refine ao Q3 ?_;conv=>whnf)|(refine aN aJ ?_;conv=>whnf)|(refine an er ?_;conv=>whnf)|(refine ay t4 ?_;conv=>whnf)|(refine aG t3 ?_;conv=>whnf)|(refine eV rfl (ai rfl) rfl (ez rfl) aE x1 rfl rfl ?_;conv=>whnf)|(refine eV rfl (ai rfl) rfl (ez rfl) D0 x2 rfl rfl ?_;conv=>whnf)|(refine dc rfl (ai rfl) rfl (ez rfl) hs (Ϗ _) rfl ?_;conv=>whnf)|(refine kG rfl (ai rfl) qE (ez rfl) Pj (dr aa) rfl (Ϗ _) rfl ?_;conv=>whnf)|(rw[t4];conv=>whnf)|(rw[t5];conv=>whnf)|(rw[t3];conv=>whnf)|(rw[ι];conv=>whnf)|(rw[υ];conv=>whnf)))
       exact⟨n - (l+1),λk=>k,[0,1,7,40,41,47,48],KR,aa,by subst e1 hKR;kernel_rfl,l+1,rfl,D0,acb,rfl,by subst e1 hKR;rfl⟩
   ·have t4:=iH D0;have WZ:q+1<=i:=by
     rcases Ϝ q i with g|g
     ·exact g
     ·obtain rfl:q=i:=aa;have:=hlk rfl;have:=(hf aE).1;omega
    rw[e1];conv=>whnf
    (repeat(first|(refine aG t4 ?_;conv=>whnf)|(rw[t4];conv=>whnf)|(rw[t2];conv=>whnf)))
    exact⟨n - (q+1),λk=>k,[0,1,40,41],KR,aa,by subst e1 hKR;kernel_rfl,q+1,rfl,WZ,rfl,by subst e1 hKR;rfl⟩
  ·have t1:=iH aE;obtain⟨f5,f6,f7⟩:=he aa;rw[e1,f5,f6,f7];conv=>whnf
   (repeat(first|(refine aG t1 ?_;conv=>whnf)))
   exact⟨au.refl _,get_nil,by repeat(first|exact get_nil|refine cI rfl ?_)⟩
