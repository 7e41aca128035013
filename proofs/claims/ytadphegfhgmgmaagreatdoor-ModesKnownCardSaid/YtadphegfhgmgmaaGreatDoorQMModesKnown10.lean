/- The texts Me. -/
import Derived.Test.YtadphegfhgmgmaaGreatDoorQMModesKnown9
set_option linter.unusedSimpArgs false
set_option linter.unusedVariables false
set_option maxHeartbeats 40000000
set_option maxRecDepth 100000
open Int renaming toNat_natCast->ι
open List renaming mem_cons_of_mem->Δ,mem_cons_self->η
open Nat renaming succ_ne_zero->Ϗ,zero_add->υ,zero_le->Γ
namespace Go.Proofs.YtadphegfhgmgmaaGreatDoor
open Go.Sx
def A1 (X:Mx) (t f:Nat) (c:Rat) (q:Nat):Mx:=λa l=>if a=t/\l<q then X a l+c*X f l else X a l
def A2 (X:Mx) (t f:Nat) (c:Rat) (k:Nat):Mx:=λa l=>if l=t/\a<k then X a l+c*X a f else X a l
theorem WV (X:Mx) (t f:Nat) (c:Rat):A1 X t f c 0=X:=by funext a l;unfold A1;rw[if_neg aa]
theorem WW (X:Mx) (t f:Nat) (c:Rat):A2 X t f c 0=X:=by funext a l;unfold A2;rw[if_neg aa]
theorem Ze (X:Mx) (t f q a:Nat) (c:Rat):A1 X t f c q a q=X a q:=by unfold A1;rw[if_neg aa]
theorem LQ (X:Mx) (t f k l:Nat) (c:Rat):A2 X t f c k k l=X k l:=by unfold A2;rw[if_neg aa]
theorem WX (X:Mx) (t f q:Nat) (c:Rat):Cp (A1 X t f c q) t q (A1 X t f c q t q+c*A1 X t f c q f q)=A1 X t f c (q+1):=by
 funext a l;rw[Ze,Ze];unfold Cp A1;by_cases e:a=t/\l=q
 ·rw[if_pos e,if_pos aa,e.1,e.2]
 ·rw[if_neg e];by_cases g:a=t/\l<q
  ·rw[if_pos g,if_pos aa]
  ·rw[if_neg g,if_neg aa]
theorem WY (X:Mx) (t f k:Nat) (c:Rat):Cp (A2 X t f c k) k t (A2 X t f c k k t+c*A2 X t f c k k f)=A2 X t f c (k+1):=by
 funext a l;rw[LQ,LQ];unfold Cp A2;by_cases e:a=k/\l=t
 ·rw[if_pos e,if_pos aa,e.1,e.2]
 ·rw[if_neg e];by_cases g:l=t/\a<k
  ·rw[if_pos g,if_pos aa]
  ·rw[if_neg g,if_neg aa]
theorem HA {n t f:Nat} {X:Mx} {c:Rat} (a8:t≠f):∀a l,a<n->l<n->t<n->f<n->A2 (A1 X t f c n) t f c n a l=lK X t f c a l:=by
 intro a l ha hl ht hf;unfold A2 A1 lK;by_cases h1:a=t
 ·by_cases h2:l=t
  ·rw[if_pos ⟨h2,ha⟩,if_pos ⟨h1,hl⟩,if_pos ⟨h1,hf⟩,if_pos h1,if_pos h2,if_pos h1,if_pos h2];subst h1 h2;grind
  ·rw[if_neg aa,if_pos ⟨h1,hl⟩,if_pos h1,if_neg h2,if_pos h1,if_neg h2];grind
 ·by_cases h2:l=t
  ·rw[if_pos ⟨h2,ha⟩,if_neg aa,if_neg aa,if_neg h1,if_pos h2,if_neg h1];grind
  ·rw[if_neg aa,if_neg aa,if_neg h1,if_neg h2,if_neg h1];grind
theorem HB {n a:Nat} {X Y:Mx} (h:∀l,l<n->X a l=Y a l):bq n X a=bq n Y a:=List.map_congr_left λl hl=>h l (List.mem_range.1 hl)
theorem HC {r n:Nat} {X Y:Mx} (h:∀a l,a<r->l<n->X a l=Y a l):yl r n X=yl r n Y:=yk r 0 λa _ h2=>HB λl hl=>h a l aa hl
theorem xB {r n:Nat} {X Y:Mx} (h:∀a l,a<r->l<n->X a l=Y a l):qC r n X=qC r n Y:=by unfold qC;rw[HC h]
theorem JZ {n A C q:Nat} {X:Mx} {t f:Nat} {c:Rat} (hA:∀a q,a<n->q<n->fs (X a q)<=A) (hC:fs c<=C) (hf:f<n):∀a l,a<n->l<n->fs (A1 X t f c q a l)<=2*A+C:=by
 intro a l ha hl;unfold A1;split
 ·have h1:=fW (X a l) (c*X f l);have h2:=cH c (X f l);have h3:=hA a l ha hl;have h4:=hA f l hf hl;omega
 ·have h3:=hA a l ha hl;omega
theorem RF {n A C:Nat} {X:Mx} {t f:Nat} {c:Rat} (hA:∀a q,a<n->q<n->fs (X a q)<=A) (hC:fs c<=C) (ht:t<n) (hf:f<n) (a8:t≠f):∀a l,a<n->l<n->fs (lK X t f c a l)<=4*A+3*C:=by
 intro a l ha hl;rw[<-HA a8 a l ha hl ht hf];unfold A2;have h5:=JZ (q:=n) (t:=t) hA hC hf a l ha hl;split
 ·have h1:=fW (A1 X t f c n a l) (c*A1 X t f c n a f);have h2:=cH c (A1 X t f c n a f);have h3:=JZ (q:=n) (t:=t) hA hC hf a f ha hf;omega
 ·omega
theorem Zf {r n t f:Nat} (A C:Nat) (X:Mx) (c:Rat) (hrn:r=n) (hr:r<=6) (ht:t<n) (hf:f<n) (a8:t≠f) (hA:∀a q,a<n->q<n->fs (X a q)<=A) (hC:fs c<=C) (hH:4*A+3*C<=4398046511104):
  aL Tryz.prog 122 [.ptr 1001 0 0 0,iv t,iv f,.frac c] (qC r n X) (.bQ []) [] (qC r n (lK X t f c)):=by
 rw[<-xB (r:=r) (n:=n) (X:=A2 (A1 X t f c n) t f c n) λa l ha hl=>HA a8 a l aa hl ht hf];obtain⟨KR,hKR⟩:∃K,K=1001::1002::(List.range r).map λj=>1010+j:=⟨_,rfl⟩
 have Zg:=je (r:=r) (n:=n) (j:=t) aa aa;have La:=je (r:=r) (n:=n) (j:=f) aa aa;have htr:t<r:=aa;have hfr:f<r:=aa;have hz:=λq=>JZ (n:=n) (t:=t) (f:=f) (q:=q) hA hC hf
 rcases(show r=1\/r=2\/r=3\/r=4\/r=5\/r=6 by omega)with e1|e1|e1|e1|e1|e1
 all_goals
  rw[e1];rw[e1]at Zg La;refine rH (Z:=[7,700026,700035,700038,700055,700064,700067]) aH bC Tryz.func122 rfl aD (cb.of rfl rfl rfl rfl rfl rfl rfl rfl rfl rfl rfl) rfl ?_;intro W0 w0 ρ0 hE;conv=>whnf
  (repeat(first|(refine an Gv ?_;conv=>whnf)|(rw[υ];conv=>whnf)))
  refine av hE (λk=>k) [0,1,2,8,15,16] KR (λm' fr hp=>∃q:Nat,m'=n - q/\q<=n/\fr=[(0,.ptr 1001 0 0 0),(1,iv t),(2,iv f),(8,.clo 168 [] [b9 [.frac c]]),(15,iv n),(16,iv q)]/\hp=qC r n (A1 X t f c q)) n ?_ ?_ ?_
  ·subst e1 hKR;kernel_rfl
  ·exact⟨0,rfl,Γ _,rfl,by rw[WV];subst e1 hKR;rfl⟩
  rintro m' _ _ ⟨q,rfl,hq,rfl,rfl⟩;by_cases aE:q<n
  ·have t1:=gZ aE;have t2:=bW (i:=q) aa;have hy:=hz q f q hf aE;have kc:=RD (A1 X t f c q) c (A1 X t f c q f q) htr aE (by have:=hz q t q ht aE;omega);rw[WX]at kc;have qE:=λj=>Bs (r:=r) (n:=n) (j:=j) (X:=A1 X t f c q)
   have KC:=hfr;rw[e1]at kc qE KC;rw[e1];conv=>whnf
   (repeat(first|(refine aq aD ?_;conv=>whnf)|(refine ao Q3 ?_;conv=>whnf)|(refine x0 aJ rfl rfl ?_;conv=>whnf)|(refine⟨[_,_],_,[],[_,_],aJ,gC rfl rfl,ak,rZ (η ..) rfl rfl rfl (Δ _ (η ..)) rfl rfl rfl, ?_⟩;conv=>whnf)|(refine ay t1 ?_;conv=>whnf)|(refine dc rfl (ai rfl) rfl (ez rfl) Zg (Ϗ _) rfl ?_;conv=>whnf)|(refine dc rfl (ai rfl) rfl (ez rfl) La (Ϗ _) rfl ?_;conv=>whnf)|(refine kG rfl (ai rfl) (qE f KC) (ez rfl) Pj (dr aa) rfl (Ϗ _) rfl ?_;conv=>whnf)|(refine⟨_,_,[],_,kc,Fb qE,ak,Br, ?_⟩;conv=>whnf)|(rw[t1];conv=>whnf)|(rw[t2];conv=>whnf)|(rw[ι];conv=>whnf)|(rw[υ];conv=>whnf)))
   exact⟨n - (q+1),λk=>k,[0,1,2,8,15,16],KR,aa,by subst e1 hKR;kernel_rfl,q+1,rfl,aE,rfl,by subst e1 hKR;rfl⟩
  ·have t1:=iH aE;obtain rfl:q=n:=aa;rw[e1];conv=>whnf
   (repeat(first|(refine aG t1 ?_;conv=>whnf)|(rw[t1];conv=>whnf)|(rw[υ];conv=>whnf)))
   refine av hE (λk=>k) [0,1,2,8,44,45] KR (λm' fr hp=>∃k:Nat,m'=q - k/\k<=q/\fr=[(0,.ptr 1001 0 0 0),(1,iv t),(2,iv f),(8,.clo 168 [] [b9 [.frac c]]),(44,iv q),(45,iv k)]/\hp=qC r q (A2 (A1 X t f c q) t f c k)) q ?_ ?_ ?_
   ·subst e1 hKR;kernel_rfl
   ·exact⟨0,rfl,Γ _,rfl,by rw[WW];subst e1 hKR;rfl⟩
   rintro m' _ _ ⟨k,rfl,hk,rfl,rfl⟩;by_cases hlk:k<q
   ·have t3:=gZ hlk;have t2:=bW (i:=k) aa;have hkr:=Nat.lt_of_lt_of_eq hlk hrn.symm;have hs3:=je (n:=q) aa hkr;have kc:=RD (A2 (A1 X t f c q) t f c k) c (A2 (A1 X t f c q) t f c k k f) hkr ht (by rw[LQ,LQ];have h1:=hz q k t hlk ht;have h2:=hz q k f hlk hf;omega);rw[WY]at kc;have qE:=λj=>Bs (r:=r) (n:=q) (j:=j) (X:=A2 (A1 X t f c q) t f c k)
    rw[e1]at kc qE hkr hs3;rw[e1];conv=>whnf
    (repeat(first|(refine aq aD ?_;conv=>whnf)|(refine ao Q3 ?_;conv=>whnf)|(refine x0 aJ rfl rfl ?_;conv=>whnf)|(refine⟨[_,_],_,[],[_,_],aJ,gC rfl rfl,ak,rZ (η ..) rfl rfl rfl (Δ _ (η ..)) rfl rfl rfl, ?_⟩;conv=>whnf)|(refine ay t3 ?_;conv=>whnf)|(refine dc rfl (ai rfl) rfl (ez rfl) hs3 (Ϗ _) rfl ?_;conv=>whnf)|(refine kG rfl (ai rfl) (qE k hkr) (ez rfl) Pj (dr aa) rfl (Ϗ _) rfl ?_;conv=>whnf)|(refine⟨_,_,[],_,kc,Fb qE,ak,Br, ?_⟩;conv=>whnf)|(rw[t3];conv=>whnf)|(rw[t2];conv=>whnf)|(rw[ι];conv=>whnf)|(rw[υ];conv=>whnf)))
    exact⟨q - (k+1),λk=>k,[0,1,2,8,44,45],KR,aa,by subst e1 hKR;kernel_rfl,k+1,rfl,hlk,rfl,by subst e1 hKR;rfl⟩
   ·have t3:=iH hlk;obtain rfl:k=q:=aa;rw[e1];conv=>whnf
    (repeat(first|(refine aG t3 ?_;conv=>whnf)))
    exact⟨au.refl _,get_nil,by repeat(first|exact get_nil|refine cI rfl ?_)⟩
