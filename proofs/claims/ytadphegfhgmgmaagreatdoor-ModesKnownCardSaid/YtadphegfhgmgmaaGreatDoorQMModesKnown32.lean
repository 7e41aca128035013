/- The texts Xa, Xb, Xc, Xd, Xe, Xf, Xg, Xh, Xi, Xj, Xm, Xr, Xn. -/
import Derived.Test.YtadphegfhgmgmaaGreatDoorQMModesKnown5
import Derived.Test.YtadphegfhgmgmaaGreatDoorQMModesKnown6
set_option linter.unusedSimpArgs false
set_option linter.unusedVariables false
set_option maxHeartbeats 40000000
set_option maxRecDepth 100000
open Bool renaming false_eq_true->Κ,not_false->acP,not_true->ahI
open Classical renaming byContradiction->Ο
open Go.Result renaming andThen_ok->ν
open Go.Sem renaming run_bind->Β
open Iff renaming rfl->ajy
open List renaming cons_append->af3,drop_eq_getElem_cons->ajL,drop_length->alm,drop_succ_cons->ahg,drop_zero->afg,ext_getElem->aju,getD_cons_succ->abt,getD_eq_getElem?_getD->δ,getElem?_eq_getElem->φ,getElem?_eq_none->Ϙ,getElem?_replicate->aii,length_append->ξ,length_cons->ϊ,length_drop->ϗ,length_map->Χ,length_set->ϒ,length_take->ψ,map_append->agf,map_cons->ϲ,map_nil->af6,map_replicate->ai8,map_set->agu,mem_append->ϖ,mem_cons->Λ,mem_cons_of_mem->Δ,mem_cons_self->η,mem_filter->ajB,mem_singleton->μ,range->Η,range_succ->ahb,replicate->θ,replicate_succ->acT,take_append_drop->ϟ,take_succ_cons->aiS,take_zero->agq
open Nat renaming add_assoc->af1,beq->ϋ,le_refl->ζ,lt_irrefl->afU,lt_of_not_le->ajO,lt_succ_self->gq,not_lt_zero->abe,sub_zero->ahF,zero_add->υ,zero_le->Γ
open Option.some renaming injEq->κ
open Prod.mk renaming injEq->ς
open Rat renaming inv_pos->afu,le_refl->Ϥ,mul_comm->afY,mul_eq_zero->acO,mul_inv_cancel->Ν,mul_nonneg->π,mul_one->alx,mul_pos->ϡ,mul_zero->ahe,natCast_add->aix,natCast_le_natCast->aa3,not_le->aiV,not_lt->agi,num_eq_zero->ajR,num_nonneg->ajn,pow_pos->amo,pow_succ->ace,pow_zero->afN,sub_self->amf,zero_mul->ai9
namespace Go.Proofs.YtadphegfhgmgmaaGreatDoor
open Go.Sx
theorem H5 (n:Nat) (A:Mx) (s:Rat) (z x:Nat->Rat):bf n A z (λi=>s*x i)=s*bf n A z x:=by
 unfold bf;rw[<-sum_smul];refine ah n λi _=> ?_
 rw[ah n (g:=λk=>s*(A i k*x k)) λk _=>by grind,sum_smul];grind
theorem H6 (n:Nat) (A:Mx) (s:Rat) (x z:Nat->Rat):bf n A (λi=>s*x i) z=s*bf n A x z:=by
 unfold bf;rw[<-sum_smul];exact ah n λi _=>by grind
theorem SL (n:Nat) (A:Mx) (z:Nat->Rat):bf n A z (λ_=>0)=0:=bh λi _=>by
 rw[bh λk _=>by grind];grind
theorem SM (n:Nat) (A:Mx) (z:Nat->Rat):bf n A (λ_=>0) z=0:=bh λi _=>by grind
theorem BH (n:Nat) (A:Mx) (z c:Nat->Rat) (V:Mx):∀k,bf n A z (comb k c V)=aj k λj=>c j*bf n A z (V j)
 |0=>SL n A z
 |k+1=>by
  rw[aj,<-BH n A z c V k,<-H5,<-y0];rfl
theorem H7 (n:Nat) (A:Mx) (z c:Nat->Rat) (V:Mx):∀k,bf n A (comb k c V) z=aj k λj=>c j*bf n A (V j) z
 |0=>SM n A z
 |k+1=>by
  rw[aj,<-H7 n A z c V k,<-H6,<-Lt];rfl
def pull (N:Nat) (A:Mx) (V:Mx):Mx:=λj l=>bf N A (V j) (V l)
theorem wK (N k:Nat) (A V:Mx) (x y:Nat->Rat):bf k (pull N A V) x y=bf N A (comb k x V) (comb k y V):=by
 rw[H7];refine ah k λj _=> ?_
 rw[BH];congr 1;exact ah k λl _=>afY ..
theorem wL (N k:Nat) (A V:Mx) (y:Nat->Rat):qf k (pull N A V) y=qf N A (comb k y V):=by rw[ll,wK,<-ll]
theorem H8 {N k:Nat} {A V:Mx} (h:dq N A):dq k (pull N A V):=λj l _ _=>y3 h _ _
theorem Xw {n:Nat} {A:Mx} (hs:dq n A) (h:∀x,0<=qf n A x) (v w:Nat->Rat):bf n A v w*bf n A v w<=qf n A v*qf n A w:=by
 have key:∀s:Rat,0<=s*s*qf n A v+2*(s*bf n A v w)+qf n A w:=λs=>by
  have h1:=h λi=>s*v i+w i
  have h2:=EN hs (λi=>s*v i) w;rw[H6,oV]at h2;rw[h2]at h1;grind
 have hv:=h v;by_cases g:qf n A v=0
 ·by_cases gb:bf n A v w=0
  ·rw[gb,g];grind
  ·exfalso;have h1:=key (-(qf n A w+1)*(2*bf n A v w)⁻¹);rw[g]at h1;have h2:2*bf n A v w*(2*bf n A v w)⁻¹=1:=Ν _ (by grind);have h3:2*(-(qf n A w+1)*(2*bf n A v w)⁻¹*bf n A v w)= -(qf n A w+1):=by
    have:2*(-(qf n A w+1)*(2*bf n A v w)⁻¹*bf n A v w)= -(qf n A w+1)*(2*bf n A v w*(2*bf n A v w)⁻¹):=by
     generalize (2*bf n A v w)⁻¹=y;clear h1 h2;grind
    rw[this,h2,alx]
   rw[h3,ahe]at h1;grind
 ·have h1:=key (-(bf n A v w)*(qf n A v)⁻¹);have h2:qf n A v*(qf n A v)⁻¹=1:=Ν _ g;have h3:0<qf n A v:=by grind
  have h4:=π hv h1;have h5:qf n A v*(-(bf n A v w)*(qf n A v)⁻¹*(-(bf n A v w)*(qf n A v)⁻¹)*qf n A v+2*(-(bf n A v w)*(qf n A v)⁻¹*bf n A v w)+qf n A w)=qf n A v*qf n A w - bf n A v w*bf n A v w:=by grind
  rw[h5]at h4;grind
theorem xN (q:Rat):∃K:Nat,q<K:=by
 refine⟨(q.floor+1).toNat, ?_⟩;have h1:=Rat.lt_floor_add_one q;have h2:((q.floor+1:Int):Rat)<=(((q.floor+1).toNat:Int):Rat):=Rat.intCast_le_intCast.2 aa;rw[Rat.intCast_natCast]at h2;grind
theorem yu (k:Nat):((k:Nat):Rat)<=4^k:=by
 induction k with
 |zero=>decide
 |succ k ih=>
  rw[ace,aix];have:(1:Rat)<=4^k:=by
   clear ih;induction k with
   |zero=>decide
   |succ k ih=>rw[ace];grind
  have:((1:Nat):Rat)=1:=rfl;grind
theorem SN {a:Rat} (ha:0<a):∃s:Rat,s≠0/\1<=s*s*a/\s*s*a<=4:=by
 have p4:∀k:Nat,(0:Rat)<4^k:=λk=>amo ax
 have sq:∀k:Nat,(2:Rat)^k*2^k=4^k:=λk=>by
  induction k with
  |zero=>rw[afN,afN,alx]
  |succ k ih=>rw[ace,ace];grind
 have p2:∀k:Nat,(0:Rat)<2^k:=λk=>amo ax
 by_cases h1:1<=a
 ·-- the least k with a <= 4^(k+1)
  obtain⟨K,hK⟩:=xN a
  obtain⟨k,_,hk,hl⟩:=least (P:=λk=>a<=4^(k+1)) (b:=K) (by
   have:=yu (K+1);rw[aix]at this;have:((1:Nat):Rat)=1:=rfl
   grind)
  have qv:4^k<=a:=by
   cases k with
   |zero=>rw[afN];exact h1
   |succ j=>have:=hl j aa;grind
  refine⟨(2^k)⁻¹,λe=> ?_, ?_, ?_⟩
  ·have:=afu.2 (p2 k);grind
  all_goals
   have e1:(2:Rat)^k*(2^k)⁻¹=1:=Ν _ (by have:=p2 k;grind);have e2:=sq k;have e3:=afu.2 (p2 k);rw[ace]at hk;have e4:=ϡ e3 e3;have e5:(2^k)⁻¹*(2^k)⁻¹*(4:Rat)^k=1:=by rw[<-e2];grind
  ·have:=π (show(0:Rat)<=(2^k)⁻¹*(2^k)⁻¹ by grind) (show(0:Rat)<=a - 4^k by grind);grind
  ·have:=π (show(0:Rat)<=(2^k)⁻¹*(2^k)⁻¹ by grind) (show(0:Rat)<=4^k*4 - a by grind);grind
 ·obtain⟨K,hK⟩:=xN a⁻¹;have ha1:a*a⁻¹=1:=Ν _ (by grind)
  obtain⟨k,_,hk,hl⟩:=least (P:=λk=>1<=4^k*a) (b:=K) (by
   have h2:=yu K;have h3:=π (show(0:Rat)<=4^K - a⁻¹ by grind) (show(0:Rat)<=a by grind)
   grind)
  refine⟨2^k,by have:=p2 k;grind,by rw[sq];exact hk, ?_⟩;rw[sq];cases k with
  |zero=>rw[afN];grind
  |succ j=>
   have:=hl j aa;rw[ace];grind
structure AD (n:Nat) (S M:Mx) (e:Rat) (T:Mx):Prop where
 acy:∀i j,i<n->j<n->i≠j->bf n M (T i) (T j)=0
 Xx:∀i,i<n->1<=bf n M (T i) (T i)/\bf n M (T i) (T i)<=4
 Xy:∀i j,i<n->j<n->i≠j-> -e<=bf n S (T i) (T j)/\bf n S (T i) (T j)<=e
theorem acz {x e:Rat} (he:0<=e) (h:x*x<=e*e): -e<=x/\x<=e:=by
 constructor
 ·refine agi.1 λg=> ?_
  have:=ϡ (show(0:Rat)< -x - e by grind) (show(0:Rat)< -x+e by grind);grind
 ·refine agi.1 λg=> ?_
  have:=ϡ (show(0:Rat)<x - e by grind) (show(0:Rat)<x+e by grind);grind
theorem acA {n:Nat} {S M:Mx} {R e:Rat} (hM:iP (n+1) M) (hR:∀x,qf (n+1) S x<=R*qf (n+1) M x/\ -(R*qf (n+1) M x)<=qf (n+1) S x) (he:0<e):
  ∃(u:Rat) (v:Nat->Rat),(-R - e<=u/\u<=R)/\(∀x,qf (n+1) S x<=u*qf (n+1) M x)/\(1<=qf (n+1) M v/\qf (n+1) M v<=4)/\(u - e)*qf (n+1) M v<=qf (n+1) S v:=by
 have hd:∃i,i<n+1/\delta 0 i≠0:=⟨0,aa,by unfold delta;rw[if_pos rfl];decide⟩;have hM0:=hM _ hd;obtain⟨K,hK⟩:=xN (2*R*e⁻¹);have hee:e*e⁻¹=1:=Ν _ (by grind);have hKe:2*R<K*e:=by
  have h1:=ϡ (show(0:Rat)<K - 2*R*e⁻¹ by grind) he;have h2:((K:Rat) - 2*R*e⁻¹)*e=K*e - 2*R*(e*e⁻¹):=by generalize e⁻¹=y;grind
  rw[h2,hee]at h1;grind
 obtain⟨k,hkK,hk,hl⟩:=least (P:=λk:Nat=>∃x,(R - k*e)*qf (n+1) M x<qf (n+1) S x) (b:=K) ⟨delta 0,by
  have h1:=(hR (delta 0)).2;have h2:=ϡ (show(0:Rat)<K*e - 2*R by grind) hM0
  grind⟩
 obtain⟨x,hx⟩:=hk;have Xn:k≠0:=λe0=>by
  subst e0;have h1:=(hR x).1;have h2:((0:Nat):Rat)=0:=rfl;rw[h2]at hx;grind
 obtain⟨j,rfl⟩:∃j,k=j+1:=⟨k - 1,aa⟩;have hj:∀x,qf (n+1) S x<=(R - j*e)*qf (n+1) M x:=λx=>by
  have:=hl j aa;exact agi.1 λg=>this ⟨x,g⟩
 have hx0:∃i,i<n+1/\x i≠0:=Ο λBY=>by
  have hz:∀i,i<n+1->x i=0:=λi hi=>Ο λg=>BY ⟨i,hi,g⟩
  rw[we hz,we hz]at hx;grind
 have hMx:=hM x hx0;obtain⟨s,hs0,Zg,hs4⟩:=SN hMx;have ej:(((j+1:Nat):Nat):Rat)=(j:Rat)+1:=by rw[aix];rfl
 rw[ej]at hx;refine⟨R - j*e,λi=>s*x i,⟨?_, ?_⟩,hj, ?_, ?_⟩
 ·-- the step before is at least -R
  refine agi.1 λg=> ?_
  have h1:=hj (delta 0);have h2:=(hR (delta 0)).2;have h3:=ϡ (show(0:Rat)< -R - e - (R - j*e) by grind) hM0;have h4:=ϡ he hM0;grind
 ·have:((0:Nat):Rat)<=(j:Rat):=aa3.2 (Γ _);have h0:((0:Nat):Rat)=0:=rfl;have:=π (show(0:Rat)<=(j:Rat) by grind) (show(0:Rat)<=e by grind);grind
 ·rw[oV];exact⟨Zg,hs4⟩
 ·rw[oV,oV];have h1:=ϡ (sq_pos hs0) (show(0:Rat)<qf (n+1) S x - (R - (j+1)*e)*qf (n+1) M x by grind);grind
theorem ahP {e1 R ee:Rat} (h:e1*(16*(2*R+1)+ee)=ee) (h2:0<e1*ee):16*e1*(2*R+1)<=ee:=by grind
theorem Mf:∀(n:Nat) {S M:Mx} {R e:Rat},dq n S->dq n M->iP n M->0<=R->(∀x,qf n S x<=R*qf n M x/\ -(R*qf n M x)<=qf n S x)->0<e->∃T,AD n S M e T
 |0,S,M,R,e,_,_,_,_,_,_=>⟨λ_ _=>0,λi j hi=>absurd hi (abe _),λi hi=>absurd hi (abe _),λi j hi=>absurd hi (abe _)⟩
 |n+1,S,M,R,e,hS,hMs,hM,UF,hR,he=>by
  obtain⟨d,hd⟩:∃d,d=16*(2*R+1)+e*e:=⟨_,rfl⟩;have hee:=ϡ he he;have hdp:0<d:=by grind
  have UD:d*d⁻¹=1:=Ν _ (by grind);have hdn:=afu.2 hdp;obtain⟨e1,he1⟩:∃e1,e1=e*e*d⁻¹:=⟨_,rfl⟩;have afw:0<e1:=by rw[he1];exact ϡ hee hdn
  have ahQ:e1*d=e*e:=by rw[he1];grind
  have akY:e1<=1:=by
   have:=π (show(0:Rat)<=d - e*e by grind) (show(0:Rat)<=d⁻¹ by grind);grind
  have akZ:16*e1*(2*R+1)<=e*e:=ahP (by rw[<-hd];exact ahQ) (ϡ afw hee);obtain⟨u,v,⟨hu1,B7⟩,uI,⟨hv1,hv4⟩,hvt⟩:=acA hM hR afw;have hvM:0<qf (n+1) M v:=by grind
  obtain⟨q,hq,hvq⟩:∃q,q<n+1/\v q≠0:=Ο λBY=>by
   rw[we λi hi=>Ο λg=>BY ⟨i,hi,g⟩]at hvM;grind
  obtain⟨b,hb⟩:∃b:Nat->Rat,b=λj=>bf (n+1) M v (delta (sk q j))*(qf (n+1) M v)⁻¹:=⟨_,rfl⟩
  obtain⟨V,hV⟩:∃V:Mx,V=λj i=>delta (sk q j) i+(-b j)*v i:=⟨_,rfl⟩
  have hMi:qf (n+1) M v*(qf (n+1) M v)⁻¹=1:=Ν _ (by grind);have afx:∀j,bf (n+1) M v (V j)=0:=λj=>by
   rw[hV];show bf (n+1) M v (λi=>delta (sk q j) i+(-b j)*v i)=0;rw[y0,H5,<-ll,hb];grind
  have Zu:∀y i,comb n y V i=aj n (λj=>y j*delta (sk q j) i)+(-v i)*aj n λj=>y j*b j:=λy i=>by
   rw[<-sum_smul,<-sum_add,hV];exact ah n λj _=>by grind
  have ahR:∀y:Nat->Rat,(∀i,i<n+1->comb n y V i=0)->∀l,l<n->y l=0:=λy hy l hl=>by
   have h1:=hy q hq
   rw[Zu,bh λj _=>by
    show y j*delta (sk q j) q=0
    unfold delta;rw[if_neg (GQ q j)];grind]at h1
   have h2:aj n (λj=>y j*b j)=0:=by
    have:v q*aj n (λj=>y j*b j)=0:=by grind
    exact(acO.1 this).resolve_left hvq
   have h3:=hy (sk q l) (AP hl)
   rw[Zu,h2,eu (j:=l) n hl λj _ a8=>by
    show y j*delta (sk q j) (sk q l)=0
    unfold delta;rw[if_neg (λg=>a8 (by have:=congrArg (un q) g;rwa [GR,GR]at this))];grind]at h3
   have:y l*delta (sk q l) (sk q l)=y l:=by unfold delta;rw[if_pos rfl];grind
   grind
  have hM':iP n (pull (n+1) M V):=λy ⟨l,hl,hy⟩=>by
   rw[wL];refine hM _ (Ο λBY=>hy (ahR y (λi hi=>Ο λg=>BY ⟨i,hi,g⟩) l hl))
  obtain⟨T,hT⟩:=Mf n (H8 hS) (H8 hMs) hM' UF (λy=>by rw[wL,wL];exact hR _) he;have hN:∀x,0<=qf (n+1) (λi k=>u*M i k+(-1)*S i k) x:=λx=>by
   rw[xm,ey,ey];have:=uI x;grind
  have hNs:dq (n+1) λi k=>u*M i k+(-1)*S i k:=λi k hi hk=>by show u*M i k+(-1)*S i k=u*M k i+(-1)*S k i;rw[hS i k hi hk,hMs i k hi hk]
  have ahS:∀x y,bf (n+1) (λi k=>u*M i k+(-1)*S i k) x y=u*bf (n+1) M x y - bf (n+1) S x y:=λx y=>by
   unfold bf;have h1:∀i,aj (n+1) (λk=>(u*M i k+(-1)*S i k)*y k)=u*aj (n+1) (λk=>M i k*y k)+(-1)*aj (n+1) λk=>S i k*y k:=λi=>by
    rw[<-sum_smul,<-sum_smul,<-sum_add];exact ah _ λk _=>by grind
   rw[ah (n+1) (g:=λi=>u*(x i*aj (n+1) λk=>M i k*y k)+(-1)*(x i*aj (n+1) λk=>S i k*y k)) λi _=>by rw[h1];grind,sum_add,sum_smul,sum_smul];grind
  have Kj:∀y,bf (n+1) M v (comb n y V)=0:=λy=>by
   rw[BH];exact bh λj _=>by rw[afx];grind
  have SO:∀i,i<n-> -e<=bf (n+1) S v (comb n (T i) V)/\bf (n+1) S v (comb n (T i) V)<=e:=λi hi=>by
   have h1:=Xw hNs hN v (comb n (T i) V);rw[ahS,Kj,ahe]at h1;have h2:qf (n+1) (λi k=>u*M i k+(-1)*S i k) v<=4*e1:=by
    rw[xm,ey,ey];have:=π (show(0:Rat)<=e1 by grind) (show(0:Rat)<=4 - qf (n+1) M v by grind);grind
   have hw:qf (n+1) M (comb n (T i) V)<=4/\1<=qf (n+1) M (comb n (T i) V):=by
    have:=hT.Xx i hi;rw[wK,<-ll]at this;exact⟨this.2,this.1⟩
   have h3:qf (n+1) (λi k=>u*M i k+(-1)*S i k) (comb n (T i) V)<=4*(2*R+1):=by
    rw[xm,ey,ey];have g1:=(hR (comb n (T i) V)).2;have g2:=π (show(0:Rat)<=R - u by grind) (show(0:Rat)<=qf (n+1) M (comb n (T i) V) by grind);have g3:=π (show(0:Rat)<=2*R+1 by grind) (show(0:Rat)<=4 - qf (n+1) M (comb n (T i) V) by grind);grind
   have h4:=hN v;have h5:=hN (comb n (T i) V);have h6:=π h4 (show(0:Rat)<=4*(2*R+1) - qf (n+1) (λi k=>u*M i k+(-1)*S i k) (comb n (T i) V) by grind);have h7:=π (show(0:Rat)<=4*e1 - qf (n+1) (λi k=>u*M i k+(-1)*S i k) v by grind) (show(0:Rat)<=4*(2*R+1) by grind);refine acz (by grind) ?_;grind
  refine⟨λi=>if i=0 then v else comb n (T (i - 1)) V,λi j hi hj a8=> ?_,λi hi=> ?_,λi j hi hj a8=> ?_⟩
  ·cases i with
   |zero=>
    cases j with
    |zero=>exact absurd rfl a8
    |succ j=>exact Kj _
   |succ i=>
    cases j with
    |zero=>exact(y3 hMs _ _).trans (Kj _)
    |succ j=>
     have:=hT.acy i j aa aa aa;rw[wK]at this;exact this
  ·cases i with
   |zero=>exact⟨by show 1<=bf (n+1) M v v;rw[<-ll];exact hv1,by show bf (n+1) M v v<=4;rw[<-ll];exact hv4⟩
   |succ i=>
    have:=hT.Xx i aa;rw[wK]at this;exact this
  ·cases i with
   |zero=>
    cases j with
    |zero=>exact absurd rfl a8
    |succ j=>exact SO j aa
   |succ i=>
    cases j with
    |zero=>
     have:=SO i aa;rw[y3 hS]at this;exact this
    |succ j=>
     have:=hT.Xy i j aa aa aa;rw[wK]at this;exact this
theorem rN:∀(x y:List Rat) (j:Nat),(nA x y).getD j 0=x.getD j 0+y.getD j 0
 |[],y,j=>by rw[nA];simp;grind
 |a::x,[],j=>by rw[nA];simp;grind;simp
 |a::x,b::y,0=>by rw[nA];rfl
 |a::x,b::y,j+1=>by
  rw[nA];show(nA x y).getD j 0=x.getD j 0+y.getD j 0;exact rN x y j
theorem lF (s:Rat):∀(x:List Rat) (j:Nat),(x.map (s*·)).getD j 0=s*x.getD j 0
 |[],j=>by simp
 |a::x,0=>rfl
 |a::x,j+1=>lF s x j
theorem Fp (s a:Rat) (l:List Rat) (j:Nat):(qd s (a::l)).getD j 0=l.getD j 0+s*(qd s l).getD j 0:=by rw[qd,rN,lF]
theorem H9 (s:Rat):∀(l:List Rat) (a:Rat) (j:Nat),(qd s (a::l)).getD (j+1) 0=(qd s l).getD j 0
 |[],a,j=>by rw[Fp];simp[qd];grind
 |b::l,a,j=>by
  rw[Fp,Fp s b l j,H9 s l b j];rfl
theorem Xz (s a:Rat) (l:List Rat) (j:Nat):(a::l).getD (j+1) 0=(qd s (a::l)).getD j 0 - s*(qd s (a::l)).getD (j+1) 0:=by
 rw[H9,Fp];show l.getD j 0=_;grind
theorem Mg (l:List Rat):cM l 0=l.getD 0 0:=by
 cases l with
 |nil=>rfl
 |cons a l=>simp only[cM];rw[ai9,Rat.add_zero];rfl
theorem Fq:∀d:Nat,∃C:Rat,0<=C/\∀(l:List Rat) (e:Rat),l.length<=d->0<=e->(∀k:Nat,k<d->Bd (cM l k) e)->∀j,Bd (l.getD j 0) (C*e)
 |0=>⟨0,ax,λl e hl _ _ j=>by
  obtain rfl:l=[]:=List.eq_nil_of_length_eq_zero aa
  rw[ai9];exact⟨by simp,by simp⟩⟩
 |d+1=>by
  obtain⟨C,hC,ih⟩:=Fq d;have w8:(0:Rat)<=(d:Rat):=by
   have:((0:Nat):Rat)<=(d:Rat):=aa3.2 (Γ _);exact this
  refine⟨1+(1+d)*(2*C), ?_,λl e hl he h j=> ?_⟩
  ·have:=π w8 hC;grind
  have hCe:=π hC he;have hdC:=π w8 hCe;cases l with
  |nil=>exact⟨by show -_<=(0:Rat);grind,by show(0:Rat)<=_;grind⟩
  |cons a l=>
   have hq:=ih (qd d (a::l)) (2*e) (by have:=JB (d:Rat) (a::l);simp at hl this;omega) (by grind) λk hk=>by
    have h1:=EG (d:Rat) (a::l) (k:Rat);have h2:=h k aa;have h3:=h d aa;have h4:((k:Nat):Rat)+1<=(d:Rat):=by
     have:((k+1:Nat):Rat)<=(d:Rat):=aa3.2 hk;rw[aix]at this;exact this
    obtain⟨g1,g2⟩:=h2;obtain⟨g3,g4⟩:=h3;generalize cM (qd (d:Rat) (a::l)) k=y at*;have h5:((d:Rat) - k)*y<=2*e/\ -(2*e)<=((d:Rat) - k)*y:=by grind
    constructor
    ·refine agi.1 λg=> ?_
     have:=π (show(0:Rat)<=(d:Rat) - k - 1 by grind) (show(0:Rat)<= -y by grind);grind
    ·refine agi.1 λg=> ?_
     have:=π (show(0:Rat)<=(d:Rat) - k - 1 by grind) (show(0:Rat)<=y by grind);grind
   cases j with
   |zero=>
    have h0:=h 0 aa;rw[show((0:Nat):Rat)=0 from rfl,Mg]at h0;exact h0.mono (by grind)
   |succ j=>
    rw[Xz (d:Rat)];have h1:=hq j;have h2:=hq (j+1);have h3:=Bd.mul (x:=(d:Rat)) (a:=(d:Rat)) ⟨by grind,Ϥ⟩ h2;have h4:=h1.add h3.neg;rw[<-Rat.sub_eq_add_neg]at h4;exact h4.mono (by grind)
theorem zu {d:Nat} {l m:List Rat} (hl:l.length=d) (hm:m.length=d) (h:∀k:Nat,k<d->cM l k=cM m k):l=m:=by
 obtain⟨C,hC,hn⟩:=Fq d;have h1:=hn (nA l (m.map (-1*·))) 0 (vV _ _ _ aa (by rw[Χ];omega)) Ϥ λk hk=>by
  rw[oT,mb,h k hk];constructor<;>grind
 refine aju aa λj g1 g2=> ?_
 have h2:=h1 j;rw[rN,lF,ahe]at h2;obtain⟨g3,g4⟩:=h2;have e1:l.getD j 0=l[j]:=by rw[δ,φ g1];rfl
 have e2:m.getD j 0=m[j]:=by rw[δ,φ g2];rfl
 rw[<-e1,<-e2];grind
theorem Ia (d:Nat):∃C:Rat,0<=C/\∀(l m:List Rat) (e:Rat),l.length<=d->m.length<=d->0<=e->(∀k:Nat,k<d->Bd (cM l k - cM m k) e)->∀j,Bd (l.getD j 0 - m.getD j 0) (C*e):=by
 obtain⟨C,hC,hn⟩:=Fq d;refine⟨C,hC,λl m e hl hm he h j=> ?_⟩;have h1:=hn (nA l (m.map (-1*·))) e (vV _ _ _ hl (by rw[Χ];exact hm)) he λk hk=>by
  rw[oT,mb,show cM l k+ -1*cM m k=cM l k - cM m k by grind];exact h k hk
 have h2:=h1 j;rw[rN,lF,show l.getD j 0+ -1*m.getD j 0=l.getD j 0 - m.getD j 0 by grind]at h2;exact h2
theorem Mh (c:Rat) (n:Nat):aj n (λ_=>c)=n*c:=sr c n
theorem SP:∀(n:Nat) (B:Rat),∃D:Rat,0<=D/\∀X:Mx,(∀i k,i<n->k<n->Bd (X i k) B)->Bd (bz n X) D
 |0,B=>⟨1,ax,λX _=>(show Bd 1 1 from⟨ax,ax⟩)⟩
 |n+1,B=>by
  obtain⟨D,hD,h⟩:=SP n B;by_cases hB:0<=B
  ·refine⟨((n+1:Nat):Rat)*(B*D), ?_,λX hX=> ?_⟩
   ·have:((0:Nat):Rat)<=((n+1:Nat):Rat):=aa3.2 (Γ _);exact π this (π hB hD)
   ·rw[ca,<-Mh];refine Bd.sum (n+1) λk hk=> ?_
    have h1:=h (mn X k) λi j hi hj=>hX _ _ aa (AP hj)
    have:=((hX 0 k aa hk).mul h1).sg k;rwa [show sg k*X 0 k*bz n (mn X k)=sg k*(X 0 k*bz n (mn X k)) by grind]
  ·exact⟨0,Ϥ,λX hX=>absurd (hX 0 0 aa aa).AV hB⟩
theorem Mi:∀(n:Nat) (B:Rat),∃L:Rat,0<=L/\∀(X Y:Mx) (e:Rat),0<=e->(∀i k,i<n->k<n->Bd (X i k) B/\Bd (Y i k) B/\Bd (X i k - Y i k) e)->Bd (bz n X - bz n Y) (L*e)
 |0,B=>⟨0,Ϥ,λX Y e he _=>by
  rw[show bz 0 X - bz 0 Y=0 from by show(1:Rat) - 1=0;grind,ai9]
  exact⟨ax,ax⟩⟩
 |n+1,B=>by
  obtain⟨L,hL,h⟩:=Mi n B;obtain⟨D,hD,hd⟩:=SP n B;by_cases hB:0<=B
  ·refine⟨((n+1:Nat):Rat)*(D+B*L), ?_,λX Y e he hX=> ?_⟩
   ·have:((0:Nat):Rat)<=((n+1:Nat):Rat):=aa3.2 (Γ _);exact π this (by have:=π hB hL;grind)
   ·have e1:bz (n+1) X - bz (n+1) Y=aj (n+1) λk=>sg k*X 0 k*bz n (mn X k)+(-1)*(sg k*Y 0 k*bz n (mn Y k)):=by
     rw[sum_add,sum_smul,ca,ca];grind
    rw[e1,Rat.mul_assoc,<-Mh];refine Bd.sum (n+1) λk hk=> ?_
    have h1:=h (mn X k) (mn Y k) e he λi j hi hj=>hX _ _ aa (AP hj)
    have h2:=hd (mn X k) λi j hi hj=>(hX _ _ aa (AP hj)).1
    obtain⟨b1,b2,b3⟩:=hX 0 k aa hk;have h3:=((b3.mul h2).add (b2.mul h1)).sg k;have e2:sg k*X 0 k*bz n (mn X k)+ -1*(sg k*Y 0 k*bz n (mn Y k))=sg k*((X 0 k - Y 0 k)*bz n (mn X k)+Y 0 k*(bz n (mn X k) - bz n (mn Y k))):=by grind
    rw[e2];exact h3.mono (by grind)
  ·exact⟨0,Ϥ,λX Y e he hX=>absurd (hX 0 0 aa aa).1.AV hB⟩
def vr:Int->List Rat->Nat
 |_,[]=>0
 |s,a::r=>if a=0 then vr s r else(if s≠0/\a.num.sign≠s then 1 else 0)+vr a.num.sign r
theorem XA {a:Rat} (h:0<a):a.num.sign=1:=by
 have h1:0<=a.num:=ajn.2 (by grind);have h2:a.num≠0:=λg=>by have:=ajR.1 g;grind
 exact Int.sign_eq_one_of_pos aa
theorem XB {a:Rat} (h:a<0):a.num.sign= -1:=by
 have:¬0<=a.num:=λg=>by have:=ajn.1 g;grind
 exact Int.sign_eq_neg_one_of_neg aa
theorem dy (s:Int) (r:List Rat):vr s (0::r)=vr s r:=by rw[vr,if_pos rfl]
theorem dd {s:Int} {a:Rat} {r:List Rat} (h:0<a):vr s (a::r)=(if s= -1\/(s≠0/\s≠1/\s≠ -1)then 1 else 0)+vr 1 r:=by
 rw[vr,if_neg (by grind),XA h];congr 1;by_cases g:s= -1\/(s≠0/\s≠1/\s≠ -1)
 ·rw[if_pos g,if_pos aa]
 ·rw[if_neg g,if_neg aa]
theorem de {s:Int} {a:Rat} {r:List Rat} (h:a<0):vr s (a::r)=(if s=1\/(s≠0/\s≠1/\s≠ -1)then 1 else 0)+vr (-1) r:=by
 rw[vr,if_neg (by grind),XB h];congr 1;by_cases g:s=1\/(s≠0/\s≠1/\s≠ -1)
 ·rw[if_pos g,if_pos aa]
 ·rw[if_neg g,if_neg aa]
def jA (d u:Rat):Rat->List Rat->List Rat
 |p,[]=>[-(u*p)]
 |p,a::l=>(d*a - u*p)::jA d u a l
theorem BI (d u:Rat):∀(l:List Rat) (p:Rat),(jA d u p l).length=l.length+1
 |[],_=>rfl
 |_::l,_=>by rw[jA,ϊ,BI d u l,ϊ]
theorem BJ (d u x:Rat):∀(l:List Rat) (p:Rat),cM (jA d u p l) x=(d - u*x)*cM l x - u*p
 |[],p=>by rw[jA];simp only[cM];grind
 |a::l,p=>by rw[jA];simp only[cM];rw[BJ d u x l a];grind
theorem SQ {d u:Rat} (hd:0<d) (hu:0<u):∀(l:List Rat) (p:Rat),
  (0<p->vr 1 l+1<=vr 1 (jA d u p l))/\(0<=p->vr 1 l<=vr (-1) (jA d u p l))/\(p<0->vr (-1) l+1<=vr (-1) (jA d u p l))/\(p<=0->vr (-1) l<=vr 1 (jA d u p l))
 |[],p=>by
  have zL:∀{x:Rat},0<x->0<u*x:=λh=>ϡ hu h
  refine⟨λh=> ?_,λh=>Γ _,λh=> ?_,λh=>Γ _⟩
  ·have:=zL h;rw[jA,de (by grind)];simp[vr]
  ·have:=zL (show 0< -p by grind);rw[jA,dd (by grind)];simp[vr]
 |a::l,p=>by
  obtain⟨i1,i2,i3,i4⟩:=SQ hd hu l a;have hda:∀{x:Rat},0<x->0<d*x:=λh=>ϡ hd h
  have zL:∀{x:Rat},0<x->0<u*x:=λh=>ϡ hu h
  rw[jA];obtain⟨c,hc⟩:∃c,c=d*a - u*p:=⟨_,rfl⟩;rw[<-hc];have Fs:∀x:Rat,x=0\/0<x\/x<0:=λx=>by grind
  rcases Fs a with ha|ha|ha
  ·-- a = 0
   subst ha;have ot:c= -(u*p):=by rw[hc];grind
   refine⟨λh=> ?_,λh=> ?_,λh=> ?_,λh=> ?_⟩
   ·have:=zL h;rw[dy,de (by grind)];have:=i2 Ϥ;simp;omega
   ·rw[dy];rcases Fs p with hp|hp|hp
    ·rw[show c=0 by rw[ot,hp];grind,dy];exact i2 Ϥ
    ·have:=zL hp;rw[de (by grind)];have:=i2 Ϥ;simp;omega
    ·grind
   ·have:=zL (show 0< -p by grind);rw[dy,dd (by grind)];have:=i4 Ϥ;simp;omega
   ·rw[dy];rcases Fs p with hp|hp|hp
    ·rw[show c=0 by rw[ot,hp];grind,dy];exact i4 Ϥ
    ·grind
    ·have:=zL (show 0< -p by grind);rw[dd (by grind)];have:=i4 Ϥ;simp;omega
  ·-- a > 0
   have h1:=i1 ha;have h2:=i2 (by grind);have ahT:=hda ha;refine⟨λh=> ?_,λh=> ?_,λh=> ?_,λh=> ?_⟩
   ·rw[dd ha];rcases Fs c with g|g|g
    ·rw[g,dy];simp;omega
    ·rw[dd g];simp;omega
    ·rw[de g];simp;omega
   ·rw[dd ha];rcases Fs c with g|g|g
    ·rw[g,dy];simp;omega
    ·rw[dd g];simp;omega
    ·rw[de g];simp;omega
   ·have:=zL (show 0< -p by grind);rw[dd ha,dd (show 0<c by grind)];simp;omega
   ·have:0<=u*(-p):=π (by grind) (by grind);rw[dd ha,dd (show 0<c by grind)];simp;omega
  ·-- a < 0
   have h3:=i3 ha;have h4:=i4 (by grind);have ahT:=hda (show 0< -a by grind);refine⟨λh=> ?_,λh=> ?_,λh=> ?_,λh=> ?_⟩
   ·have:=zL h;rw[de ha,de (show c<0 by grind)];simp;omega
   ·have:0<=u*p:=π (by grind) h;rw[de ha,de (show c<0 by grind)];simp;omega
   ·rw[de ha];rcases Fs c with g|g|g
    ·rw[g,dy];simp;omega
    ·rw[dd g];simp;omega
    ·rw[de g];simp;omega
   ·rw[de ha];rcases Fs c with g|g|g
    ·rw[g,dy];simp;omega
    ·rw[dd g];simp;omega
    ·rw[de g];simp;omega
theorem xO {d u:Rat} (hd:0<d) (hu:0<u):∀(l:List Rat),(∃x∈l,x≠0)->vr 0 l+1<=vr 0 (jA d u 0 l)
 |[],h=>by obtain⟨x,hx,_⟩:=h;cases hx
 |a::l,h=>by
  obtain⟨i1,_,i3,_⟩:=SQ hd hu l a;rw[jA,show d*a - u*0=d*a by grind];have Fs:a=0\/0<a\/a<0:=by grind
  rcases Fs with ha|ha|ha
  ·subst ha;rw[ahe,dy,dy];refine xO hd hu l ?_;obtain⟨x,hx,a8⟩:=h;rcases Λ.1 hx with e|e
   ·exact absurd e a8
   ·exact⟨x,e,a8⟩
  ·rw[dd ha,dd (ϡ hd ha)];have:=i1 ha;simp;omega
  ·have:=ϡ hd (show 0< -a by grind);rw[de ha,de (by grind)];have:=i3 ha;simp;omega
def dv:Bool->List Rat->List Rat
 |_,[]=>[]
 |b,a::l=>(if b then -a else a)::dv (!b) l
theorem ns:∀(l:List Rat) (b:Bool),(dv b l).length=l.length
 |[],_=>rfl
 |_::l,_=>by rw[dv,ϊ,ns l,ϊ]
theorem wM:∀(l:List Rat) (s:Int),vr (-s) (l.map (-1*·))=vr s l
 |[],_=>rfl
 |a::l,s=>by
  rw[ϲ];have Fs:a=0\/0<a\/a<0:=by grind
  rcases Fs with ha|ha|ha
  ·subst ha;rw[show(-1:Rat)*0=0 by grind,dy,dy,wM l s]
  ·have:=wM l 1;rw[dd ha,de (show -1*a<0 by grind),this];congr 1;by_cases g:s= -1\/(s≠0/\s≠1/\s≠ -1)
   ·rw[if_pos g,if_pos aa]
   ·rw[if_neg g,if_neg aa]
  ·have this:vr 1 (l.map (-1*·))=vr (-1) l:=by have h:=wM l (-1);rwa [show(- -1:Int)=1 from by decide]at h
   rw[de ha,dd (show 0< -1*a by grind),this];congr 1;by_cases g:s=1\/(s≠0/\s≠1/\s≠ -1)
   ·rw[if_pos g,if_pos aa]
   ·rw[if_neg g,if_neg aa]
theorem qg:∀(l:List Rat) (b:Bool) (s t:Int),(s=1\/s= -1)->(t=1\/t= -1)->
  vr s l+vr t (dv b l)<=l.length+1/\(t=(if b then s else -s)->vr s l+vr t (dv b l)<=l.length)
 |[],b,s,t,_,_=>⟨by simp[dv,vr],λ_=>by simp[dv,vr]⟩
 |a::l,b,s,t,hs,ht=>by
  rw[dv,ϊ];have Fs:a=0\/0<a\/a<0:=by grind
  rcases Fs with ha|ha|ha
  ·subst ha;have e:(if b then -(0:Rat)else 0)=0:=by cases b<;>simp
   rw[e,dy,dy];have:=(qg l (!b) s t hs ht).1;exact⟨aa,λ_=>aa⟩
  ·rw[dd ha];cases b
   ·simp only[Κ,if_false,acP];rw[dd ha];have:=(qg l true 1 1 (.inl rfl) (.inl rfl)).2 rfl;refine⟨by split<;>split<;>omega,λh=> ?_⟩;rcases hs with rfl|rfl<;>subst h<;>simp<;>omega
   ·simp only[if_true,ahI];rw[de (show -a<0 by grind)];have:=(qg l false 1 (-1) (.inl rfl) (.inr rfl)).2 rfl;refine⟨by split<;>split<;>omega,λh=> ?_⟩;rcases hs with rfl|rfl<;>subst h<;>simp<;>omega
  ·rw[de ha];cases b
   ·simp only[Κ,if_false,acP];rw[de ha];have:=(qg l true (-1) (-1) (.inr rfl) (.inr rfl)).2 rfl;refine⟨by split<;>split<;>omega,λh=> ?_⟩;rcases hs with rfl|rfl<;>subst h<;>simp<;>omega
   ·simp only[if_true,ahI];rw[dd (show 0< -a by grind)];have:=(qg l false (-1) 1 (.inr rfl) (.inl rfl)).2 rfl;refine⟨by split<;>split<;>omega,λh=> ?_⟩;rcases hs with rfl|rfl<;>subst h<;>simp<;>omega
theorem Ft:∀(l:List Rat) (b:Bool),vr 0 l+vr 0 (dv b l)<=l.length - 1
 |[],b=>by simp[dv,vr]
 |a::l,b=>by
  rw[dv,ϊ];have Fs:a=0\/0<a\/a<0:=by grind
  rcases Fs with ha|ha|ha
  ·subst ha;have e:(if b then -(0:Rat)else 0)=0:=by cases b<;>simp
   rw[e,dy,dy];have:=Ft l (!b);omega
  ·rw[dd ha];cases b
   ·simp only[Κ,if_false,acP];rw[dd ha];have:=(qg l true 1 1 (.inl rfl) (.inl rfl)).2 rfl;simp;omega
   ·simp only[if_true,ahI];rw[de (show -a<0 by grind)];have:=(qg l false 1 (-1) (.inl rfl) (.inr rfl)).2 rfl;simp;omega
  ·rw[de ha];cases b
   ·simp only[Κ,if_false,acP];rw[de ha];have:=(qg l true (-1) (-1) (.inr rfl) (.inr rfl)).2 rfl;simp;omega
   ·simp only[if_true,ahI];rw[dd (show 0< -a by grind)];have:=(qg l false (-1) 1 (.inr rfl) (.inl rfl)).2 rfl;simp;omega
theorem Ib (d u:Rat):∀(l:List Rat) (b:Bool) (p:Rat),dv b (jA d u p l)=(jA (-d) u (if b then p else -p) (dv b l)).map (-1*·)
 |[],b,p=>by cases b<;>simp[jA,dv]<;>grind
 |a::l,b,p=>by
  have ih:=Ib d u l (!b) a;rw[jA,dv,dv,jA,ϲ,ih];cases b
  ·simp only[Κ,if_false,acP,if_true];congr 1;grind
  ·simp only[if_true,ahI,Κ,if_false];congr 1;grind
def eA:List (Rat×Rat)->List Rat
 |[]=>[1]
 |q::r=>jA q.1 q.2 0 (eA r)
theorem jY:∀L:List (Rat×Rat),(eA L).length=L.length+1
 |[]=>rfl
 |q::r=>by rw[eA,BI,jY r,ϊ]
def hO (x:Rat):List (Rat×Rat)->Rat
 |[]=>1
 |q::r=>(q.1 - q.2*x)*hO x r
theorem jZ (x:Rat):∀L,cM (eA L) x=hO x L
 |[]=>by simp only[eA,cM,hO];grind
 |q::r=>by rw[eA,BJ,jZ x r,hO];grind
theorem pe (x:Rat):∀A B,hO x (A++B)=hO x A*hO x B
 |[],B=>by rw[List.nil_append,hO];grind
 |q::A,B=>by rw[af3,hO,hO,pe x A B];grind
theorem qh (x:Rat) (p:Rat×Rat->Bool):∀L,hO x L=hO x (L.filter p)*hO x (L.filter λq=> !p q)
 |[]=>by simp[hO]
 |q::L=>by
  have ih:=qh x p L;cases hq:p q<;>simp[hq,hO,ih]<;>grind
theorem BK:∀{L:List (Rat×Rat)},(∀q∈L,0<q.2)->∃x∈eA L,x≠0
 |[],_=>⟨1,μ.2 rfl,ax⟩
 |q::r,h=>by
  obtain⟨x,hx,a8⟩:=BK λq' uA=>h q' (Δ _ uA)
  refine Ο λBY=> ?_
  have hz:∀y∈jA q.1 q.2 0 (eA r),y=0:=λy hy=>Ο λg=>BY ⟨y,hy,g⟩
  have hu:=h q (η ..);have key:∀(l:List Rat) (p:Rat),(∀y∈jA q.1 q.2 p l,y=0)->p=0/\∀y∈l,y=0:=by
   intro l;induction l with
   |nil=>
    intro p hz;have:=hz _ (μ.2 rfl);refine⟨?_,λ_ h=>by cases h⟩;have:q.2*p=0:=by grind
    exact(acO.1 this).resolve_left (by grind)
   |cons a l ih=>
    intro p hz;rw[jA]at hz;obtain⟨g1,g2⟩:=ih a λy hy=>hz y (Δ _ hy)
    have:=hz _ (η ..);subst g1;refine⟨?_,λy hy=> ?_⟩
    ·have:q.2*p=0:=by grind
     exact(acO.1 this).resolve_left (by grind)
    ·rcases Λ.1 hy with e|e
     ·exact e
     ·exact g2 y e
  exact a8 ((key _ _ hz).2 x hx)
theorem Mj {N:List (Rat×Rat)} (hN:∀q∈N,0<q.2):∀{P:List (Rat×Rat)},(∀q∈P,0<q.1/\0<q.2)->P.length<=vr 0 (eA (P++N))
 |[],_=>Γ _
 |q::P,h=>by
  have ih:=Mj hN λq' uA=>h q' (Δ _ uA)
  have hq:=h q (η ..)
  have:=xO hq.1 hq.2 (eA (P++N)) (BK λq' uA=>by
   rcases ϖ.1 uA with e|e
   ·exact(h q' (Δ _ e)).2
   ·exact hN q' e)
  rw[af3,eA,ϊ];omega
theorem acB {l:List Rat} (h:∃x∈l,x≠0) (b:Bool):∃x∈dv b l,x≠0:=by
 induction l generalizing b with
 |nil=>obtain⟨x,hx,_⟩:=h;cases hx
 |cons a l ih=>
  obtain⟨x,hx,a8⟩:=h;rw[dv];rcases Λ.1 hx with e|e
  ·exact⟨_,η ..,by subst e;cases b<;>simp<;>grind⟩
  ·obtain⟨y,hy,YR⟩:=ih ⟨x,e,a8⟩ (!b);exact⟨y,Δ _ hy,YR⟩
theorem Ic {N:List (Rat×Rat)} (hN:∀q∈N,0<q.2):∀{P:List (Rat×Rat)},(∀q∈P,q.1<0/\0<q.2)->P.length<=vr 0 (dv false (eA (P++N)))
 |[],_=>Γ _
 |q::P,h=>by
  have ih:=Ic hN λq' uA=>h q' (Δ _ uA)
  have hq:=h q (η ..)
  have h1:=xO (show 0< -q.1 by have:=hq.1;grind) hq.2 (dv false (eA (P++N))) (acB (BK λq' uA=>by
   rcases ϖ.1 uA with e|e
   ·exact(h q' (Δ _ e)).2
   ·exact hN q' e) false)
  have h2:=wM (jA (-q.1) q.2 0 (dv false (eA (P++N)))) 0;rw[af3,eA,ϊ,Ib];rw[show(if false=true then(0:Rat)else -0)=0 by simp,show(0:Int)= -0 from rfl,h2];omega
theorem wN {α:Type} (p:α->Bool):∀L:List α,(L.filter p).length+(L.filter λq=> !p q).length=L.length
 |[]=>rfl
 |a::L=>by
  have:=wN p L;cases h:p a<;>simp[h]<;>omega
theorem SR {L:List (Rat×Rat)} (h:∀q∈L,q.1≠0/\0<q.2):vr 0 (eA L)=(L.filter λq=>decide (0<q.1)).length/\vr 0 (dv false (eA L))=(L.filter λq=> !decide (0<q.1)).length:=by
 have e1:eA L=eA ((L.filter λq=>decide (0<q.1))++L.filter λq=> !decide (0<q.1)):=by
  refine zu (d:=L.length+1) (jY L) (by rw[jY,ξ,wN]) λk _=> ?_
  rw[jZ,jZ,pe,<-qh]
 have e2:eA L=eA ((L.filter λq=> !decide (0<q.1))++L.filter λq=>decide (0<q.1)):=by
  refine zu (d:=L.length+1) (jY L) (by rw[jY,ξ,Nat.add_comm (List.length _),wN]) λk _=> ?_
  rw[jZ,jZ,pe,afY,<-qh]
 have hP:∀q∈L.filter λq=>decide (0<q.1),0<q.1/\0<q.2:=λq hq=>by
  rw[ajB]at hq;exact⟨of_decide_eq_true hq.2,(h q hq.1).2⟩
 have hN:∀q∈L.filter λq=> !decide (0<q.1),q.1<0/\0<q.2:=λq hq=>by
  rw[ajB]at hq;have h1:=h q hq.1;have h2:¬0<q.1:=by simpa using hq.2
  exact⟨by grind,h1.2⟩
 have v1:=Mj (λq hq=>(hN q hq).2) hP;have v2:=Ic (λq hq=>(hP q hq).2) hN;rw[<-e1]at v1;rw[<-e2]at v2;have v3:=Ft (eA L) false;rw[jY]at v3;have v4:=wN (λq:Rat×Rat=>decide (0<q.1)) L;omega
theorem Fu {n:Nat} {N:Mx} {d:Nat->Rat} {e k:Rat} (he:0<=e) (hN:∀i j,i<n->j<n->i≠j->Bd (N i j) e) (hd:∀i,i<n->N i i=d i) (hk:∀i,i<n->0<d i->k<=d i) (a8:(n:Rat)*e<k):eP n N (cX n λi=>decide (0<d i)):=by
 refine⟨rA n λi=>decide (0<d i),λc ⟨j,hj,hcj⟩=> ?_⟩;obtain⟨x,hx⟩:∃x,comb (cX n λi=>decide (0<d i)) c (rA n λi=>decide (0<d i))=x:=⟨_,rfl⟩;have aeA:∀i,¬0<d i->x i=0:=λi hi=>by rw[<-hx];exact Bb (ζ _) (by simp[hi])
 have hon:=rz (p:=λi=>decide (0<d i)) hj;have hxj:x (yB n (λi=>decide (0<d i)) j)≠0:=by rw[<-hx,xo (ζ _) hj];exact hcj
 rw[hx];have e1:qf n N x=qf n (pj d) x+qf n (λi j=>if i=j then 0 else N i j) x:=by
  rw[<-xm];refine jT λi j hi hj=> ?_
  unfold pj;by_cases g:i=j
  ·subst g;rw[if_pos rfl,if_pos rfl,hd i hi];grind
  ·rw[if_neg g,if_neg g];grind
 have e2:=rC (n:=n) (A:=λi j=>if i=j then 0 else N i j) (K:=e) (λi j hi hj=>by
  by_cases g:i=j
  ·rw[if_pos g];constructor<;>grind
  ·rw[if_neg g];exact hN i j hi hj g) x
 have e3:k*aj n (λi=>x i*x i)<=qf n (pj d) x:=by
  rw[yh,<-sum_smul];refine GW n λi hi=> ?_
  by_cases g:0<d i
  ·have:=π (show(0:Rat)<=d i - k by have:=hk i hi g;grind) (mW (x i));grind
  ·rw[aeA i g];grind
 have e4:0<aj n λi=>x i*x i:=sl (λi _=>mW _) ⟨_,hon.1,sq_pos hxj⟩
 have e5:=ϡ (show(0:Rat)<k - n*e by grind) e4;rw[e1];grind
theorem DD {n k:Nat} {S T:Mx} (h:eP n (pull n S T) k):eP n S k:=by
 obtain⟨V,hV⟩:=h;refine⟨λj=>comb n (V j) T,λc hc=> ?_⟩;have h1:=hV c hc;rw[wL]at h1;rw[dB (y:=comb n (comb k c V) T) λi _=> ?_]
 ·exact h1
 ·show aj k (λj=>c j*aj n λl=>V j l*T l i)=aj n λl=>(aj k λj=>c j*V j l)*T l i
  rw[ah k (g:=λj=>aj n λl=>c j*(V j l*T l i)) λj _=>by rw[bH],dX];refine ah n λl _=> ?_
  rw[ir];exact ah k λj _=>by grind
theorem BL (N:Nat) (s:Rat) (A T:Mx) (i j:Nat):pull N (λi k=>s*A i k) T i j=s*pull N A T i j:=by
 show aj N (λi'=>T i i'*aj N λk=>s*A i' k*T j k)=s*aj N λi'=>T i i'*aj N λk=>A i' k*T j k
 rw[<-sum_smul];refine ah N λi' _=> ?_
 rw[ah N (g:=λk=>s*(A i' k*T j k)) λk _=>by grind,sum_smul];grind
theorem wO (N:Nat) (A M T:Mx) (x:Rat) (i j:Nat):pull N (jb A M x) T i j=pull N A T i j - x*pull N M T i j:=by
 show aj N (λi'=>T i i'*aj N λk=>(A i' k - x*M i' k)*T j k)=aj N (λi'=>T i i'*aj N λk=>A i' k*T j k) - x*aj N λi'=>T i i'*aj N λk=>M i' k*T j k
 have e1:∀i',aj N (λk=>(A i' k - x*M i' k)*T j k)=aj N (λk=>A i' k*T j k)+(-x)*aj N (λk=>M i' k*T j k):=λi'=>by
  rw[<-sum_smul,<-sum_add];exact ah N λk _=>by grind
 rw[ah N (g:=λi'=>T i i'*aj N (λk=>A i' k*T j k)+(-x)*(T i i'*aj N λk=>M i' k*T j k)) λi' _=>by rw[e1];grind,sum_add,sum_smul];grind
theorem Ie (n:Nat) (A T:Mx):bz n (pull n A T)=bz n T*bz n T*bz n A:=by
 have e:∀i k,i<n->k<n->pull n A T i k=pr n T (pr n A (tr T)) i k:=λi k _ _=>rfl
 rw[bp e,yT,yT,oS];grind
theorem SS (d:Nat->Rat):∀n,bz (n+1) (pj d)=d n*bz n (pj d):=λn=>by
 rw[GU λk hk=>by unfold pj;rw[if_neg aa]];congr 1;unfold pj;rw[if_pos rfl]
theorem Ig (d u:Nat->Rat) (x:Rat):∀n,bz n (pj λi=>d i - x*u i)=hO x ((Η n).map λi=>(d i,u i))
 |0=>rfl
 |n+1=>by
  rw[SS,Ig d u x n,ahb,agf,pe];simp only[ϲ,af6,hO];grind
def eN (a b:Rat):Prop:=(0<a↔0<b)/\(a<0↔b<0)
theorem Fv:∀{a b:List Rat} (s:Int),a.length=b.length->(∀j,eN (a.getD j 0) (b.getD j 0))->vr s a=vr s b
 |[],[],_,_,_=>rfl
 |[],_::_,_,h,_=>by simp at h
 |_::_,[],_,h,_=>by simp at h
 |x::a,y::b,s,h,hs=>by
  have h0:eN x y:=hs 0;have ih:=λs=>Fv (a:=a) (b:=b) s (by simpa using h) λj=>hs (j+1)
  have Fs:x=0\/0<x\/x<0:=by grind
  rcases Fs with g|g|g
  ·have gy:y=0:=by
    have h1:¬0<y:=λg2=>by have:=h0.1.2 g2;grind
    have h2:¬y<0:=λg2=>by have:=h0.2.2 g2;grind
    grind
   subst g gy;rw[dy,dy,ih]
  ·rw[dd g,dd (h0.1.1 g),ih]
  ·rw[de g,de (h0.2.1 g),ih]
theorem sN:∀(l:List Rat) (b:Bool) (j:Nat),(dv b l).getD j 0=if (b^^(j % 2==1))then -(l.getD j 0)else l.getD j 0
 |[],b,j=>by simp[dv]
 |a::l,b,0=>by cases b<;>simp[dv]
 |a::l,b,j+1=>by
  rw[dv];show(dv (!b) l).getD j 0=if (b^^((j+1) % 2==1))then -(l.getD j 0)else l.getD j 0
  rw[sN l (!b) j];have e:((!b)^^(j % 2==1))=(b^^((j+1) % 2==1)):=by
   rcases Nat.mod_two_eq_zero_or_one j with g|g
   ·rw[show(j+1) % 2=1 by omega,g];cases b<;>rfl
   ·rw[show(j+1) % 2=0 by omega,g];cases b<;>rfl
  rw[e]
theorem SU {a b:List Rat} (h:∀j,eN (a.getD j 0) (b.getD j 0)) (t:Bool) (j:Nat):eN ((dv t a).getD j 0) ((dv t b).getD j 0):=by
 rw[sN,sN];obtain⟨h1,h2⟩:=h j;split
 ·exact⟨⟨λg=>by have:=h2.1 (by grind);grind,λg=>by have:=h2.2 (by grind);grind⟩,⟨λg=>by have:=h1.1 (by grind);grind,λg=>by have:=h1.2 (by grind);grind⟩⟩
 ·exact⟨h1,h2⟩
theorem Mk (n:Nat) (d u:Nat->Rat) (p:Rat->Bool):(((Η n).map λi=>(d i,u i)).filter λq=>p q.1).length=cX n λi=>p (d i):=by
 unfold cX;rw[List.filter_map,Χ];rfl
theorem SX (f:Nat->Rat):∀n,∃K:Rat,0<=K/\∀i,i<n->Bd (f i) K
 |0=>⟨0,Ϥ,λi hi=>absurd hi (abe _)⟩
 |n+1=>by
  obtain⟨K,hK,h⟩:=SX f n;by_cases g:0<=f n
  ·refine⟨K+f n,by grind,λi hi=> ?_⟩;by_cases e:i=n
   ·subst e;constructor<;>grind
   ·exact(h i aa).mono (by grind)
  ·refine⟨K+ -f n,by grind,λi hi=> ?_⟩;by_cases e:i=n
   ·subst e;constructor<;>grind
   ·exact(h i aa).mono (by grind)
theorem Fw (X:Mx) (m:Nat):∀n,∃K:Rat,0<=K/\∀i k,i<n->k<m->Bd (X i k) K
 |0=>⟨0,Ϥ,λi k hi=>absurd hi (abe _)⟩
 |n+1=>by
  obtain⟨K,hK,h⟩:=Fw X m n;obtain⟨J,hJ,g⟩:=SX (X n) m;refine⟨K+J,by grind,λi k hi hk=> ?_⟩;by_cases e:i=n
  ·subst e;exact(g k hk).mono (by grind)
  ·exact(h i k aa hk).mono (by grind)
theorem Fx (f:Nat->Rat):∀n,(∀i,i<n->f i≠0)->∃D:Rat,0<D/\∀i,i<n->D<=f i\/f i<= -D
 |0,_=>⟨1,ax,λi hi=>absurd hi (abe _)⟩
 |n+1,h=>by
  obtain⟨D,hD,hi⟩:=Fx f n λi hi=>h i aa
  have hn:=h n aa;obtain⟨a,ha0,ha⟩:∃a:Rat,0<a/\(a<=f n\/f n<= -a):=by
   by_cases g:0<f n
   ·exact⟨f n,g,.inl Ϥ⟩
   ·exact⟨-f n,by grind,.inr (by grind)⟩
  by_cases g:D<=a
  ·exact⟨D,hD,λi aE=>by
    by_cases e:i=n
    ·subst e;rcases ha with x|x
     ·exact .inl (by grind)
     ·exact .inr (by grind)
    ·exact hi i aa⟩
  ·exact⟨a,ha0,λi aE=>by
    by_cases e:i=n
    ·subst e;exact ha
    ·rcases hi i aa with x|x
     ·exact .inl (by grind)
     ·exact .inr (by grind)⟩
theorem Fy {B:Rat} (hB:1<=B):∀n:Nat,1<=B^n
 |0=>by rw[afN];exact Ϥ
 |n+1=>by
  rw[ace];have h:=Fy hB n;have:=π (show(0:Rat)<=B^n - 1 by grind) (show(0:Rat)<=B by grind);grind
theorem Ih {B:Rat} (hB:1<=B) {d u:Nat->Rat}:∀n,(∀i,i<n->Bd (d i) B)->(Bd (hO 0 ((Η n).map λi=>(d i,u i))) (B^n))/\∀i e,i<n->Bd (d i) e->Bd (hO 0 ((Η n).map λi=>(d i,u i))) (e*B^n)
 |0,_=>⟨by rw[afN];exact(show Bd 1 1 from⟨ax,ax⟩),λi e hi=>absurd hi (abe _)⟩
 |n+1,h=>by
  obtain⟨h1,h2⟩:=Ih hB n λi hi=>h i aa
  have e1:hO 0 ((Η (n+1)).map λi=>(d i,u i))=hO 0 ((Η n).map λi=>(d i,u i))*d n:=by
   rw[ahb,agf,pe];simp only[ϲ,af6,hO];grind
  have hBn:=Fy hB n;rw[e1,ace];refine⟨h1.mul (h n aa),λi e hi he=> ?_⟩;have Xr:=he.AV;by_cases g:i=n
  ·subst g;refine(h1.mul he).mono ?_;have:=π (π Xr (show(0:Rat)<=B^i by grind)) (show(0:Rat)<=B - 1 by grind);grind
  ·refine((h2 i e aa he).mul (h n aa)).mono (by grind)
theorem BM {a b:Rat} (ha:0<=a) (hb:0<=b):∃e:Rat,0<e/\e<=1/\a*e<=1/\b*e<1:=by
 have hd:(0:Rat)<1+a+b:=by grind
 have h1:(1+a+b)*(1+a+b)⁻¹=1:=Ν _ (by grind);have h2:=afu.2 hd;have h3:=π ha (show(0:Rat)<=(1+a+b)⁻¹ by grind);have h4:=π hb (show(0:Rat)<=(1+a+b)⁻¹ by grind);refine⟨(1+a+b)⁻¹,h2, ?_, ?_, ?_⟩
 ·generalize (1+a+b)⁻¹=y at*;grind
 ·generalize (1+a+b)⁻¹=y at*;grind
 ·generalize (1+a+b)⁻¹=y at*;grind
theorem DE {x y g:Rat} (hg:g<=x\/x<= -g) (h:Bd (x - y) (g*(1/2))) (h0:0<g):eN x y/\(g*(1/2)<=y\/y<= -(g*(1/2))):=by
 obtain⟨h1,h2⟩:=h;have e:g*(1/2)=g/2:=by grind
 rcases hg with hx|hx
 ·refine⟨⟨⟨λ_=>by grind,λ_=>by grind⟩,⟨λg2=>by grind,λg2=>by grind⟩⟩,.inl (by grind)⟩
 ·refine⟨⟨⟨λg2=>by grind,λg2=>by grind⟩,⟨λ_=>by grind,λ_=>by grind⟩⟩,.inr (by grind)⟩
theorem Kk {n:Nat} {S M T:Mx} {e:Rat} (h:AD n S M e T):1<=bz n T*bz n T*bz n M:=by
 rw[<-Ie];have e1:∀i k,i<n->k<n->pull n M T i k=pj (λi=>bf n M (T i) (T i)) i k:=λi k hi hk=>by
  unfold pj;by_cases g:i=k
  ·subst g;rw[if_pos rfl];rfl
  ·rw[if_neg g];exact h.acy i k hi hk g
 rw[bp e1];have:∀m,m<=n->1<=bz m (pj λi=>bf n M (T i) (T i)):=by
  intro m;induction m with
  |zero=>intro _;exact Ϥ
  |succ m ih=>
   intro hm;rw[SS];have h1:=ih aa;have h2:=(h.Xx m aa).1;have:=π (show(0:Rat)<=bf n M (T m) (T m) - 1 by grind) (show(0:Rat)<=bz m (pj λi=>bf n M (T i) (T i)) by grind);grind
 exact this n (ζ _)
theorem NQ {n:Nat} {S M:Mx} {c:List Rat} {m z p:Nat} (hS:dq n S) (hM:dq n M) (h1:∀x,aj n (λi=>x i*x i)<=qf n M x) (hc:c.length=n+1) (hv:∀x,cM c x=bz n (jb S M x)) (a8:∀k,k<n+1->c.getD k 0≠0) (hI:cJ n S m z p):
  vr 0 c=p/\vr 0 (dv false c)=m:=by
 have JR:iP n M:=λx ⟨i,hi,hx⟩=>by
  have g1:=h1 x;have g2:=sl (n:=n) (f:=λi=>x i*x i) (λi _=>mW _) ⟨i,hi,sq_pos hx⟩;grind
 obtain⟨K,hK0,hK⟩:=Fw S n n;have UG:(0:Rat)<=(n:Rat):=by
  have:((0:Nat):Rat)<=(n:Rat):=aa3.2 (Γ _);exact this
 obtain⟨R,hRe⟩:∃R:Rat,R=n*K:=⟨_,rfl⟩;have UF:0<=R:=by rw[hRe];exact π UG hK0
 have hR:∀x,qf n S x<=R*qf n M x/\ -(R*qf n M x)<=qf n S x:=λx=>by
  have g1:=rC (K:=K) hK x;have g2:=rC (K:=K) (A:=λi k=> -1*S i k) (λi k hi hk=>by obtain⟨a1,a2⟩:=hK i k hi hk;clear UF hRe JR;constructor<;>grind) x;rw[ey]at g2;rw[<-hRe]at g1 g2;have g3:=π UF (show(0:Rat)<=qf n M x - aj n (λi=>x i*x i) by have:=h1 x;grind);constructor<;>grind
 have hdM:0<bz n M:=by
  obtain⟨T,hT⟩:=Mf n hS hM JR UF hR (show(0:Rat)<1 by decide);have g1:=Kk hT;have g2:=mW (bz n T);refine aiV.1 λg=> ?_
  have:=π g2 (show(0:Rat)<= -bz n M by grind);grind
 have UD:bz n M*(bz n M)⁻¹=1:=Ν _ (by grind);have hdp:=afu.2 hdM;obtain⟨D,hD0,hD⟩:=Fx (λk=>c.getD k 0) (n+1) a8;obtain⟨g,hg⟩:∃g:Rat,g=D*(bz n M)⁻¹:=⟨_,rfl⟩;have hg0:0<g:=by rw[hg];exact ϡ hD0 hdp
 obtain⟨C,hC0,hC⟩:=Ia (n+1);obtain⟨B,hB⟩:∃B:Rat,B=4*R+4*n+1:=⟨_,rfl⟩;have hB1:1<=B:=by rw[hB];grind
 obtain⟨L,hL0,hL⟩:=Mi n B;have hBn:=Fy hB1 n;have hBi:B^n*(B^n)⁻¹=1:=Ν _ (by grind);have hBp:=afu.2 (show(0:Rat)<B^n by grind);obtain⟨k,hk⟩:∃k:Rat,k=g*(1/2)*(B^n)⁻¹:=⟨_,rfl⟩;have Xn:0<k:=by rw[hk];exact ϡ (by grind) hBp
 have hgi:g*g⁻¹=1:=Ν _ (by grind);have hgp:=afu.2 hg0;have hki:k*k⁻¹=1:=Ν _ (by grind);have hkp:=afu.2 Xn;obtain⟨e,Xr,he1,hea,heb⟩:=BM (a:=2*(C*L)*g⁻¹) (b:=n*k⁻¹) (π (by have:=π hC0 hL0;grind) (by grind)) (π UG (by grind));have heC:C*(L*e)<=g*(1/2):=by
  have:=π (show(0:Rat)<=g by grind) (show(0:Rat)<=1 - 2*(C*L)*g⁻¹*e by grind);have h2:g*(1 - 2*(C*L)*g⁻¹*e)=g - 2*(C*(L*e))*(g*g⁻¹):=by generalize g⁻¹=y;grind
  rw[h2,hgi]at this;grind
 have hek:(n:Rat)*e<k:=by
  have:=ϡ Xn (show(0:Rat)<1 - n*k⁻¹*e by grind);have h2:k*(1 - n*k⁻¹*e)=k - n*e*(k*k⁻¹):=by generalize k⁻¹=y;grind
  rw[h2,hki]at this;grind
 obtain⟨T,hT⟩:=Mf n hS hM JR UF hR Xr;have ahV:=Kk hT;obtain⟨q,hq⟩:∃q:Rat,q=bz n T*bz n T:=⟨_,rfl⟩;rw[<-hq]at ahV;obtain⟨d,hd⟩:∃d:Nat->Rat,d=λi=>bf n S (T i) (T i):=⟨_,rfl⟩
 obtain⟨u,hu⟩:∃u:Nat->Rat,u=λi=>bf n M (T i) (T i):=⟨_,rfl⟩
 have hu1:∀i,i<n->1<=u i/\u i<=4:=λi hi=>by rw[hu];exact hT.Xx i hi
 have Ob:∀i,i<n->Bd (d i) (4*R):=λi hi=>by
  have g1:=hR (T i);rw[ll,ll]at g1;have g2:=hu1 i hi;rw[hu]at g2;rw[hd];have g3:=π UF (show(0:Rat)<=4 - bf n M (T i) (T i) by grind);constructor
  ·show -(4*R)<=bf n S (T i) (T i);grind
  ·show bf n S (T i) (T i)<=4*R;grind
 have afz:∀j:Nat,j<n+1->Bd (cM (c.map (q*·)) j - cM (eA ((Η n).map λi=>(d i,u i))) j) (L*e):=λj hj=>by
  have IL:((j:Nat):Rat)<=(n:Rat):=aa3.2 aa;have hj0:(0:Rat)<=(j:Rat):=by
   have:((0:Nat):Rat)<=(j:Rat):=aa3.2 (Γ _);exact this
  rw[mb,hv,hq,<-Ie,jZ,<-Ig];refine hL _ _ e (by grind) λi l hi hl=> ?_
  rw[wO];unfold pj;by_cases gil:i=l
  ·subst gil;rw[if_pos rfl];have g1:=Ob i hi;have g2:=hu1 i hi;have g3:pull n S T i i - (j:Rat)*pull n M T i i=d i - (j:Rat)*u i:=by rw[hd,hu];rfl
   rw[g3];have g4:=π hj0 (show(0:Rat)<=u i by grind);have g5:=π hj0 (show(0:Rat)<=4 - u i by grind);obtain⟨g6,g7⟩:=g1;have g8:Bd (d i - (j:Rat)*u i) B:=by rw[hB];constructor<;>grind
   exact⟨g8,g8,by rw[amf];constructor<;>grind⟩
  ·rw[if_neg gil];have g1:Bd (pull n S T i l) e:=hT.Xy i l hi hl gil;have g2:pull n M T i l=0:=hT.acy i l hi hl gil;rw[g2,ahe,show pull n S T i l - 0=pull n S T i l by grind];exact⟨g1.mono (by grind),⟨by grind,by grind⟩,by rw[show pull n S T i l - 0=pull n S T i l by grind];exact g1⟩
 have hlen:(eA ((Η n).map λi=>(d i,u i))).length=n+1:=by rw[jY];simp
 have afB:=hC (c.map (q*·)) (eA ((Η n).map λi=>(d i,u i))) (L*e) (by rw[Χ];omega) aa (π hL0 (by grind)) afz;have q9:∀j,j<n+1->g<=(c.map (q*·)).getD j 0\/(c.map (q*·)).getD j 0<= -g:=λj hj=>by
  rw[lF];have g1:(bz n M)⁻¹<=q:=by
   have:=π (show(0:Rat)<=(bz n M)⁻¹ by grind) (show(0:Rat)<=q*bz n M - 1 by grind);have h2:(bz n M)⁻¹*(q*bz n M - 1)=q*(bz n M*(bz n M)⁻¹) - (bz n M)⁻¹:=by generalize (bz n M)⁻¹=y;grind
   rw[h2,UD]at this;grind
  have Jm:0<=q:=by grind
  rcases hD j hj with x|x
  ·have g2:=π Jm (show(0:Rat)<=c.getD j 0 - D by grind);have g3:=π (show(0:Rat)<=D by grind) (show(0:Rat)<=q - (bz n M)⁻¹ by grind);exact .inl (by rw[hg];grind)
  ·have g2:=π Jm (show(0:Rat)<= -D - c.getD j 0 by grind);have g3:=π (show(0:Rat)<=D by grind) (show(0:Rat)<=q - (bz n M)⁻¹ by grind);exact .inr (by rw[hg];grind)
 have SY:∀j,j<n+1->eN ((c.map (q*·)).getD j 0) ((eA ((Η n).map λi=>(d i,u i))).getD j 0)/\(g*(1/2)<=(eA ((Η n).map λi=>(d i,u i))).getD j 0\/(eA ((Η n).map λi=>(d i,u i))).getD j 0<= -(g*(1/2))):=λj hj=>
  DE (q9 j hj) ((afB j).mono heC) hg0
 have Jm:0<q:=by
  refine aiV.1 λgq=> ?_
  have:=π (show(0:Rat)<= -q by grind) (show(0:Rat)<=bz n M by grind);grind
 have CQ:∀j,eN (c.getD j 0) ((eA ((Η n).map λi=>(d i,u i))).getD j 0):=λj=>by
  by_cases hj:j<n+1
  ·obtain⟨⟨s1,s2⟩,_⟩:=SY j hj;rw[lF]at s1 s2;refine⟨⟨λgp=>s1.1 (ϡ Jm gp),λgp=> ?_⟩,⟨λgn=>s2.1 ?_,λgn=> ?_⟩⟩
   ·have:=s1.2 gp;refine aiV.1 λgx=> ?_
    have:=π (show(0:Rat)<=q by grind) (show(0:Rat)<= -c.getD j 0 by grind);grind
   ·have:=ϡ Jm (show(0:Rat)< -c.getD j 0 by grind);grind
   ·have:=s2.2 gn;refine aiV.1 λgx=> ?_
    have:=π (show(0:Rat)<=q by grind) (show(0:Rat)<=c.getD j 0 by grind);grind
  ·rw[δ,Ϙ aa,δ,Ϙ aa];exact⟨ajy,ajy⟩
 have v1:=Fv 0 (hc.trans hlen.symm) CQ;have v2:=Fv 0 (show(dv false c).length=(dv false (eA ((Η n).map λi=>(d i,u i)))).length by rw[ns,ns,hc,hlen]) (SU CQ false);have hdk:∀i,i<n->¬(-k<d i/\d i<k):=λi hi ⟨b1,b2⟩=>by
  obtain⟨_,s3⟩:=SY 0 aa;rw[<-Mg,jZ]at s3;have aE:∃a:Rat,0<=a/\a<k/\Bd (d i) a:=by
   by_cases gs:0<=d i
   ·exact⟨d i,gs,b2,by constructor<;>grind⟩
   ·exact⟨-d i,by grind,by grind,by constructor<;>grind⟩
  obtain⟨a,ha0,hak,had⟩:=aE;have hp:=(Ih (u:=u) hB1 n λi hi=>(Ob i hi).mono (by rw[hB];grind)).2 i a hi had;have hs:a*B^n<g*(1/2):=by
   have g1:=ϡ (show(0:Rat)<B^n by grind) (show(0:Rat)<k - a by grind);have g2:B^n*(k - a)=g*(1/2)*(B^n*(B^n)⁻¹) - a*B^n:=by rw[hk];generalize (B^n)⁻¹=y;grind
   rw[g2,hBi]at g1;grind
  obtain⟨p1,p2⟩:=hp;rcases s3 with x|x<;>grind
 obtain⟨x1,x2⟩:=SR (L:=(Η n).map λi=>(d i,u i)) λq' uA=>by
  obtain⟨i,hi,rfl⟩:=List.mem_map.1 uA;rw[List.mem_range]at hi;have g1:=hdk i hi;have g2:=hu1 i hi;exact⟨λ(gz:d i=0)=>g1 ⟨by rw[gz];grind,by rw[gz];exact Xn⟩,by show 0<u i;grind⟩
 rw[Mk n d u λa=>decide (0<a)]at x1;rw[Mk n d u λa=> !decide (0<a)]at x2;have afD:=Bc (λi=>decide (0<d i)) n
 have hp1:eP n S (cX n λi=>decide (0<d i)):=DD (T:=T) (Fu (e:=e) (k:=k) (by grind) (λi j hi hj gij=>hT.Xy i j hi hj gij) (λi hi=>by rw[hd];rfl) (λi hi gd=>by
  have:=hdk i hi
  exact agi.1 λgl=>this ⟨by grind,gl⟩) hek)
 have Of:eP n (λi k=> -1*S i k) (cX n λi=>decide (0< -1*d i)):=DD (T:=T) (Fu (e:=e) (k:=k) (by grind) (λi j hi hj gij=>by
  rw[BL];obtain⟨b1,b2⟩:Bd (pull n S T i j) e:=hT.Xy i j hi hj gij
  constructor<;>grind) (λi hi=>by rw[BL,hd];rfl) (λi hi gd=>by
  have:=hdk i hi
  exact agi.1 λgl=>this ⟨by grind,by grind⟩) hek)
 have hmm:cX n (λi=>decide (0< -1*d i))=cX n λi=> !decide (0<d i):=gG λi hi=>by
  have:=hdk i hi;by_cases gd:0<d i
  ·have:¬0< -1*d i:=by grind
   simp[gd,this]
  ·have h3:0< -1*d i:=by
    have hz:d i≠0:=λgz=>hdk i hi ⟨by rw[gz];grind,by rw[gz];exact Xn⟩
    grind
   simp[gd,h3]
 rw[hmm]at Of;have a1:=(hI.pos _).1 hp1;have a2:=(hI.neg _).1 Of;have a3:=hI.sum;rw[v1,v2,x1,x2];omega
def uv (e:Rat):Rat->List Rat->List Rat
 |p,[]=>[p]
 |p,b::s=>(p+e*b)::uv e b s
def cY (e:Rat):List Rat->List Rat
 |[]=>[]
 |a::l=>uv e a (cY e l)
theorem DG (e:Rat):∀(s:List Rat) (p:Rat),(uv e p s).length=s.length+1
 |[],_=>rfl
 |b::s,_=>by rw[uv,ϊ,DG e s b,ϊ]
theorem qi (e:Rat):∀l:List Rat,(cY e l).length=l.length
 |[]=>rfl
 |a::l=>by rw[cY,DG,qi e l,ϊ]
theorem DH (e x:Rat):∀(s:List Rat) (p:Rat),cM (uv e p s) x=p+(x+e)*cM s x
 |[],p=>by rw[uv];simp only[cM];grind
 |b::s,p=>by rw[uv];simp only[cM];rw[DH e x s b];grind
theorem BN (e x:Rat):∀l:List Rat,cM (cY e l) x=cM l (x+e)
 |[]=>rfl
 |a::l=>by rw[cY,DH,BN e x l];rfl
theorem BO (e p:Rat) (s:List Rat):(uv e p s).getD 0 0=p+e*s.getD 0 0:=by
 cases s with
 |nil=>show p=p+e*0;grind
 |cons b s=>rfl
theorem BP (e:Rat):∀(s:List Rat) (p:Rat) (j:Nat),(uv e p s).getD (j+1) 0=s.getD j 0+e*s.getD (j+1) 0
 |[],p,j=>by
  show(0:Rat)=0+e*0;grind
 |b::s,p,0=>BO e b s
 |b::s,p,j+1=>BP e s b j
theorem BQ (e a:Rat) (l:List Rat):(cY e (a::l)).getD 0 0=a+e*(cY e l).getD 0 0:=BO ..
theorem u6 (e a:Rat) (l:List Rat) (j:Nat):(cY e (a::l)).getD (j+1) 0=(cY e l).getD j 0+e*(cY e l).getD (j+1) 0:=BP ..
theorem BR:∀l:List Rat,∃K:Rat,0<=K/\∀e,0<=e->e<=1->∀j,Bd ((cY e l).getD j 0 - l.getD j 0) (K*e)/\Bd ((cY e l).getD j 0) K
 |[]=>⟨0,Rat.le_refl,λe _ _ j=>by
  simp only[cY];have:([]:List Rat).getD j 0=0:=by simp
  rw[this,Rat.sub_self,Rat.zero_mul];exact⟨⟨ax,ax⟩,⟨ax,ax⟩⟩⟩
 |a::l=>by
  obtain⟨K,hK,h⟩:=BR l;obtain⟨A,hA0,hA⟩:∃A:Rat,0<=A/\Bd a A:=by
   by_cases g:0<=a
   ·exact⟨a,g,by constructor<;>grind⟩
   ·exact⟨-a,by grind,by constructor<;>grind⟩
  refine⟨2*K+A,by grind,λe h0 h1 j=> ?_⟩;have hKe:=Rat.mul_nonneg hK h0;have hAe:=Rat.mul_nonneg hA0 h0;have hK1:=Rat.mul_nonneg hK (show(0:Rat)<=1 - e by grind);cases j with
  |zero=>
   rw[BQ];obtain⟨_,g2⟩:=h e h0 h1 0;have g3:=Bd.mul (x:=e) (a:=e) ⟨by grind,Rat.le_refl⟩ g2;obtain⟨a1,a2⟩:=hA;obtain⟨b1,b2⟩:=g3;refine⟨⟨?_, ?_⟩,⟨?_, ?_⟩⟩
   ·show _<=a+e*(cY e l).getD 0 0 - a;grind
   ·show a+e*(cY e l).getD 0 0 - a<=_;grind
   ·grind
   ·grind
  |succ j=>
   rw[u6];obtain⟨g1,g4⟩:=h e h0 h1 j;obtain⟨_,g2⟩:=h e h0 h1 (j+1);have g3:=Bd.mul (x:=e) (a:=e) ⟨by grind,Rat.le_refl⟩ g2;obtain⟨b1,b2⟩:=g3;obtain⟨c1,c2⟩:=g1;obtain⟨d1,d2⟩:=g4;refine⟨⟨?_, ?_⟩,⟨?_, ?_⟩⟩
   ·show _<=(cY e l).getD j 0+e*(cY e l).getD (j+1) 0 - l.getD j 0;grind
   ·show(cY e l).getD j 0+e*(cY e l).getD (j+1) 0 - l.getD j 0<=_;grind
   ·grind
   ·grind
def Fl (a b:List Rat):Prop:=a.length=b.length/\∀j,j<a.length->b.getD j 0≠0/\(a.getD j 0≠0->eN (a.getD j 0) (b.getD j 0))/\(a.getD j 0=0->eN (b.getD j 0) (b.getD (j+1) 0))
theorem Fl.tail {x y:Rat} {a b:List Rat} (h:Fl (x::a) (y::b)):Fl a b:=⟨by have:=h.1;simpa using this,λj hj=>h.2 (j+1) (by simp;omega)⟩
theorem Zv:∀{a b:List Rat} (s:Int),Fl a b->vr s a=vr s b
 |[],[],_,_=>rfl
 |[],_::_,_,h=>by have:=h.1;simp at this
 |_::_,[],_,h=>by have:=h.1;simp at this
 |x::a,y::b,s,h=>by
  obtain⟨h1,h2,h3⟩:=h.2 0 (by simp);have h1:y≠0:=h1;have h2:x≠0->eN x y:=h2;have h3:x=0->eN y (b.getD 0 0):=h3;have ih:=λs=>Zv s h.tail
  by_cases g:x=0
  ·subst g;rw[dy,ih];have h4:=h3 rfl;cases b with
   |nil=>
    exfalso;have h4:eN y 0:=h4;rcases(show 0<y\/y<0 by grind)with q|q
    ·have:=h4.1.1 q;grind
    ·have:=h4.2.1 q;grind
   |cons z b=>
    have h4:eN y z:=h4;rcases(show 0<y\/y<0 by grind)with q|q
    ·rw[dd q,dd (h4.1.1 q),dd (h4.1.1 q)];simp
    ·rw[de q,de (h4.2.1 q),de (h4.2.1 q)];simp
  ·have h4:=h2 g;rcases(show 0<x\/x<0 by grind)with q|q
   ·rw[dd q,dd (h4.1.1 q),ih]
   ·rw[de q,de (h4.2.1 q),ih]
theorem eN.trans {a b c:Rat} (h:eN a b) (g:eN b c):eN a c:=⟨h.1.trans g.1,h.2.trans g.2⟩
theorem eN.symm {a b:Rat} (h:eN a b):eN b a:=⟨h.1.symm,h.2.symm⟩
theorem eN.add {a b e:Rat} (h:eN a b) (he:0<e):eN a (a+e*b):=by
 have Fs:a=0\/0<a\/a<0:=by grind
 rcases Fs with g|g|g
 ·have gb:b=0:=by
   have h1:¬0<b:=λq=>by have:=h.1.2 q;grind
   have h2:¬b<0:=λq=>by have:=h.2.2 q;grind
   grind
  subst g gb;rw[show(0:Rat)+e*0=0 by grind];exact⟨ajy,ajy⟩
 ·have:=ϡ he (h.1.1 g);exact⟨⟨λ_=>by grind,λ_=>g⟩,⟨λq=>by grind,λq=>by grind⟩⟩
 ·have:=ϡ he (show 0< -b by have:=h.2.1 g;grind);exact⟨⟨λq=>by grind,λq=>by grind⟩,⟨λ_=>by grind,λ_=>g⟩⟩
theorem NR {a y D:Rat} (ha:D<=a\/a<= -D) (hy:Bd (y - a) (D*(1/2))) (hD:0<D):eN a y:=(DE ha (by obtain⟨h1,h2⟩:=hy;constructor<;>grind) hD).1
theorem Ii:∀l:List Rat,l.getD (l.length - 1) 0≠0->∃D:Rat,0<D/\∀e,0<e->e<=D->Fl l (cY e l)
 |[],h=>by simp at h
 |[a],h=>⟨1,ax,λe _ _=>⟨rfl,λj hj=>by
  have hj0:j=0:=by simp at hj;exact hj
  subst hj0;have h:a≠0:=h;have e1:(cY e [a]).getD 0 0=a:=by show(uv e a []).getD 0 0=a;rfl
  rw[e1]
  exact⟨h,λ_=>⟨Iff.rfl,Iff.rfl⟩,λg=>absurd g h⟩⟩⟩
 |a::b::l,h=>by
  obtain⟨D,hD0,ih⟩:=Ii (b::l) (by
   have:(a::b::l).length - 1=((b::l).length - 1)+1:=by simp
   rw[this]at h
   exact h)
  obtain⟨K,hK,hn⟩:=BR (a::b::l);obtain⟨d,w8,hd⟩:=Fx (λj=>if (a::b::l).getD j 0=0 then 1 else(a::b::l).getD j 0) (a::b::l).length λj _=>by
   by_cases g:(a::b::l).getD j 0=0
   ·simp only[if_pos g];decide
   ·simp only[if_neg g];exact g
  have UD:d*d⁻¹=1:=Rat.mul_inv_cancel _ (by grind);have hdp:=Rat.inv_pos.2 w8;obtain⟨x,hx0,hx1,Om,_⟩:=BM (a:=2*K*d⁻¹) (b:=0) (Rat.mul_nonneg (by grind) (by grind)) Rat.le_refl;have hKx:K*x<=d*(1/2):=by
   have:=Rat.mul_nonneg (show(0:Rat)<=d by grind) (show(0:Rat)<=1 - 2*K*d⁻¹*x by grind);have h2:d*(1 - 2*K*d⁻¹*x)=d - 2*(K*x)*(d*d⁻¹):=by generalize d⁻¹=y;grind
   rw[h2,UD]at this;grind
  obtain⟨y,hy0,hyD,hyx⟩:∃y:Rat,0<y/\y<=D/\y<=x:=by
   by_cases g:D<=x
   ·exact⟨D,hD0,Rat.le_refl,g⟩
   ·exact⟨x,hx0,by grind,Rat.le_refl⟩
  refine⟨y,hy0,λe he hey=> ?_⟩;have hf:=ih e he (by grind);have hnz:∀j,j<(a::b::l).length->(a::b::l).getD j 0≠0->eN ((a::b::l).getD j 0) ((cY e (a::b::l)).getD j 0):=λj hj a8=>by
   have h1:=hd j hj;simp only[if_neg a8]at h1;have h2:=(hn e (by grind) (by grind) j).1;refine NR h1 (h2.mono ?_) w8;have:=Rat.mul_nonneg hK (show(0:Rat)<=x - e by grind);grind
  have po:∀j,j<(b::l).length->eN ((cY e (b::l)).getD j 0) ((cY e (a::b::l)).getD (j+1) 0):=λj hj=>by
   rw[u6];obtain⟨g1,g2,g3⟩:=hf.2 j hj;by_cases gz:(b::l).getD j 0=0
   ·exact(g3 gz).add he
   ·have h1:=hnz (j+1) (by simp at hj ⊢;omega) gz;rw[u6]at h1;exact(g2 gz).symm.trans h1
  have XC:∀{p q:Rat},eN p q->p≠0->q≠0:=λ{p q} hs hp hq=>by
   subst hq;rcases(show 0<p\/p<0 by grind)with g|g
   ·have:=hs.1.1 g;grind
   ·have:=hs.2.1 g;grind
  refine⟨(qi e _).symm,λj hj=> ?_⟩;cases j with
  |zero=>
   have hb0:=(hf.2 0 (by simp)).1;have ht0:=po 0 (by simp);by_cases gz:a=0
   ·have e1:(cY e (a::b::l)).getD 0 0=e*(cY e (b::l)).getD 0 0:=by rw[BQ,gz];grind
    have hs:eN ((cY e (b::l)).getD 0 0) (e*(cY e (b::l)).getD 0 0):=by
     generalize (cY e (b::l)).getD 0 0=w at*;rcases(show 0<w\/w<0 by grind)with g|g
     ·have:=Rat.mul_pos he g;exact⟨⟨λ_=>this,λ_=>g⟩,⟨λq=>by grind,λq=>by grind⟩⟩
     ·have:=Rat.mul_pos he (show 0< -w by grind);exact⟨⟨λq=>by grind,λq=>by grind⟩,⟨λ_=>by grind,λ_=>g⟩⟩
    rw[e1];exact⟨XC hs hb0,λg=>absurd gz g,λ_=>hs.symm.trans ht0⟩
   ·have hs:=hnz 0 hj gz;exact⟨XC hs gz,λ_=>hs,λg=>absurd g gz⟩
  |succ j=>
   have qm:j<(b::l).length:=by simp at hj ⊢;omega
   obtain⟨g1,g2,g3⟩:=hf.2 j qm;have ht:=po j qm;refine⟨XC ht g1,λgz=>(g2 gz).trans ht,λgz=> ?_⟩;have h3:=g3 gz;have RL:j+1<(b::l).length:=by
    refine Nat.lt_of_not_le λgl=> ?_
    have:(cY e (b::l)).getD (j+1) 0=0:=by rw[List.getD_eq_getElem?_getD,List.getElem?_eq_none (by rw[qi];omega)];rfl
    rw[this]at h3;exact XC h3 g1 rfl
   exact ht.symm.trans (h3.trans (po (j+1) RL))
theorem Ij:∀{l m:List Rat},l.length=m.length->(nA l m).length=l.length
 |[],[],_=>rfl
 |a::l,b::m,h=>by
  rw[nA,ϊ,ϊ,Ij (by simpa using h)]
theorem Ik (d u:Rat):∀(l:List Rat) (p:Rat),(jA d u p l).getD l.length 0= -(u*(p::l).getD l.length 0)
 |[],p=>rfl
 |a::l,p=>by
  have:=Ik d u l a;rw[jA,ϊ,abt,abt,this]
theorem pf (x:Rat):∀n,cM (θ n 0) x=0
 |0=>rfl
 |n+1=>by rw[acT,cM,pf x n];grind
theorem ke (n j:Nat):(θ n (0:Rat)).getD j 0=0:=by
 rw[δ,aii];split<;>rfl
theorem Ml:∀(n:Nat) (S M:Mx),∃c:List Rat,c.length=n+1/\(∀x,cM c x=bz n (jb S M x))/\c.getD n 0=sg n*bz n M
 |0,S,M=>⟨[1],rfl,λx=>by simp only[cM,bz];grind,by simp[bz,sg]⟩
 |n+1,S,M=>by
  have key:∀m,∃c:List Rat,c.length=n+2/\(∀x,cM c x=aj m λk=>sg k*jb S M x 0 k*bz n (mn (jb S M x) k))/\c.getD (n+1) 0=aj m λk=>sg (n+1)*(sg k*M 0 k*bz n (mn M k)):=by
   intro m;induction m with
   |zero=>exact⟨θ (n+2) 0,by simp,λx=>by rw[pf];rfl,by rw[ke];rfl⟩
   |succ m ih=>
    obtain⟨c,h1,h2,h3⟩:=ih;obtain⟨q,g1,g2,g3⟩:=Ml n (mn S m) (mn M m);have hl:(jA (S 0 m) (M 0 m) 0 q).length=n+2:=by rw[BI,g1]
    refine⟨nA c ((jA (S 0 m) (M 0 m) 0 q).map (sg m*·)), ?_,λx=> ?_, ?_⟩
    ·rw[Ij (by rw[Χ,h1,hl]),h1]
    ·rw[oT,mb,BJ,h2,g2];show _=_+sg m*(S 0 m - x*M 0 m)*bz n (jb (mn S m) (mn M m) x);grind
    ·have ht:=Ik (S 0 m) (M 0 m) q 0;rw[g1,abt,g3]at ht;rw[rN,lF,h3,ht];show _=_+sg (n+1)*(sg m*M 0 m*bz n (mn M m));have:sg (n+1)= -sg n:=rfl;rw[this];grind
  obtain⟨c,h1,h2,h3⟩:=key (n+1);refine⟨c,h1,λx=>by rw[h2,ca], ?_⟩;rw[h3,ca,sum_smul]
def BS:Nat->(Nat->Rat)->Rat
 |0,_=>1
 |n+1,t=>t 0*BS n λi=>t (i+1)
theorem Mm:∀(n:Nat) (A:Mx) (t:Nat->Rat),bz n (λi k=>t i*A i k)=BS n t*bz n A
 |0,_,_=>by simp only[bz,BS];grind
 |n+1,A,t=>by
  rw[ca,ca,BS,<-sum_smul];refine ah _ λk _=> ?_
  have:=Mm n (mn A k) λi=>t (i+1)
  rw[show mn (λi k=>t i*A i k) k=λi j=>t (i+1)*mn A k i j from rfl,this];grind
theorem Fz (x:Rat):∀(n k:Nat),k<=n->(BS n λi=>if i<k then 1 else x)=x^(n - k)
 |0,k,h=>by rw[Nat.zero_sub,afN];rfl
 |n+1,0,h=>by
  have:=Fz x n 0 (Γ _);simp only[abe,if_false]at this ⊢;rw[BS,this,ahF,ahF,ace];grind
 |n+1,k+1,h=>by
  have:=Fz x n k aa;rw[BS,if_pos aa,show(λi=>if i+1<k+1 then(1:Rat)else x)=λi=>if i<k then 1 else x from funext λi=>by simp,this,Nat.add_sub_add_right];grind
theorem Il (q:List Rat) (x:Rat):∀z:Nat,cM (θ z 0++q) x=x^z*cM q x
 |0=>by rw[afN];show cM q x=_;grind
 |z+1=>by rw[acT,af3,cM,Il q x z,ace];grind
theorem SZ (q:List Rat) {z j:Nat} (h:j<z):(θ z (0:Rat)++q).getD j 0=0:=by
 rw[δ,List.getElem?_append_left (by simpa using h),aii,if_pos h];rfl
theorem S0 {d:Nat} {l m:List Rat} (hl:l.length<=d) (hm:m.length<=d) (h:∀k:Nat,k<d->cM l k=cM m k) (j:Nat):l.getD j 0=m.getD j 0:=by
 obtain⟨C,_,hC⟩:=Ia d;obtain⟨h1,h2⟩:=hC l m 0 hl hm ax (λk hk=>by rw[h k hk];constructor<;>grind) j;rw[ahe]at h1 h2;grind
theorem Mn {n:Nat} {S M:Mx} {c:List Rat} {m z p:Nat} (hS:dq n S) (hc:c.length=n+1) (hv:∀x,cM c x=bz n (jb S M x)) (hI:cJ n S m z p):∀j,j<z->c.getD j 0=0:=by
 have he:∀i k,i<n->k<n->el (mk n n S) n i k=S i k:=λi k hi hk=>mP hi hk
 have hS':dq n (el (mk n n S) n):=λi k hi hk=>by rw[he i k hi hk,he k i hk hi,hS i k hi hk]
 have hr:=(hI.congr (B:=el (mk n n S) n) λi k hi hk=>(he i k hi hk).symm).aeT hS';have acC:=Inv.red (r:=n) (W:=el (mk n n S) n) n;obtain⟨P,hP,hb⟩:=acC.Y0;have qv:=acC.low;unfold eI at hr;generalize ry n n ⟨el (mk n n S) n,[],1⟩=s at hr acC hP hb qv;generalize s.bP.length=rk at hr qv;have hdP:bz n P≠0:=λg=>by rw[g]at hP;grind
 obtain⟨q,q1,q2,_⟩:=Ml n (λi k=>if i<rk then s.w i k else -(pr n P M i k)) (λi k=>if i<rk then pr n P M i k else 0);have key:∀x,cM (c.map (bz n P*·)) x=cM (θ z 0++q) x:=λx=>by
  rw[mb,hv,<-yT,Il,q2];have e1:bz n (pr n P (jb S M x))=bz n λi k=>(if i<rk then 1 else x)*jb (λi k=>if i<rk then s.w i k else -(pr n P M i k)) (λi k=>if i<rk then pr n P M i k else 0) x i k:=by
   refine bp λi k hi hk=> ?_
   have g1:pr n P (jb S M x) i k=pr n P S i k - x*pr n P M i k:=by
    unfold pr jb;rw[show(λp=>P i p*(S p k - x*M p k))=λp=>P i p*S p k+ -x*(P i p*M p k)from funext λp=>by grind,sum_add,sum_smul];grind
   have g2:pr n P S i k=s.w i k:=by
    rw[hb i hi k];unfold pr;exact ah n λj hj=>by rw[he j k hj hk]
   rw[g1,g2];unfold jb;by_cases h:i<rk
   ·simp only[if_pos h];grind
   ·have:=qv i aa hi k hk;simp only[if_neg h];rw[this];grind
  rw[e1,Mm,Fz x n rk aa,show n - rk=z from by omega]
 intro j hj;have:=S0 (d:=z+(n+1)) (by rw[Χ,hc];omega) (by rw[ξ,List.length_replicate,q1];omega) (λk _=>key k) j;rw[lF,SZ q hj]at this;rcases acO.1 this with h|h
 ·exact absurd h hdP
 ·exact h
def eU (j:Nat):Nat->Rat:=λi=>if i=j then 1 else 0
theorem S1 {n:Nat} (d:Nat->Rat) {i:Nat} (hi:i<n):qf n (pj d) (eU i)=d i:=by
 rw[yh,eu (j:=i) n hi λb _ hb=>by unfold eU;rw[if_neg hb];grind];unfold eU;rw[if_pos rfl];grind
theorem afE {n:Nat} (d:Nat->Rat) {i j:Nat} (hi:i<n) (hj:j<n) (a8:i≠j):qf n (pj d) (λl=>1*eU i l+eU j l)=d i+d j:=by
 rw[yh,show(λl=>d l*((1*eU i l+eU j l)*(1*eU i l+eU j l)))=λl=>d l*(eU i l*eU i l)+d l*(eU j l*eU j l)from funext λl=>by
  unfold eU;by_cases h:l=i
  ·rw[if_pos h,if_neg aa];grind
  ·rw[if_neg h];grind]
 rw[sum_add,<-yh,<-yh,S1 d hi,S1 d hj]
theorem XD {n:Nat} {S:Mx} {d:Nat->Rat} {T U:(Nat->Rat)->Nat->Rat} (hI:EJ n T U) (hS:dq n S) (hq:∀x,qf n (pj d) x=qf n S (T x)) {i j:Nat} (hi:i<n) (hj:j<n):
  bf n S (T (eU i)) (T (eU j))=if i=j then d i else 0:=by
 by_cases h:i=j
 ·subst h;rw[if_pos rfl,<-ll,<-hq,S1 d hi]
 ·rw[if_neg h];have h1:=hq λl=>1*eU i l+eU j l
  rw[afE d hi hj h,dB (y:=λl=>T (eU i) l+T (eU j) l) λl hl=>by rw[hI.wZ.wZ 1 _ _ l hl];grind,EN hS,<-hq,<-hq,S1 d hi,S1 d hj]at h1;grind
theorem NS {n:Nat} {S M:Mx} {m z p:Nat} (hS:dq n S) (hP:iP n M) (hI:cJ n S m z p):∃D:Rat,0<D/\∀e,0<e->e<=D->∀m' z' p',cJ n (jb S M e) m' z' p'->p'=p:=by
 obtain⟨d,T,U,hTU,hq⟩:=EM hS;have hV:∀i j,i<n->j<n->pull n S (λj=>T (eU j)) i j=if i=j then d i else 0:=λi j hi hj=>XD hTU hS hq hi hj
 have hp:p=cX n λi=>decide (0<d i):=by
  have hd:Cg n S (pj d):=⟨T,U,hTU,hq⟩;have a1:=kE.1 (hd.yA.1 ((hI.pos p).2 (ζ _)));have a2:=(hI.pos _).1 (hd.yA.2 (kE.2 (ζ (cX n λi=>decide (0<d i)))));omega
 obtain⟨K,hK0,hK⟩:=Fw (pull n M λj=>T (eU j)) n n;obtain⟨g,hg0,hg⟩:=Fx (λi=>if 0<d i then d i else 1) n λi _=>by
  by_cases h:0<d i
  ·simp only[if_pos h];grind
  ·simp only[if_neg h];decide
 have UG:(0:Rat)<=(n:Rat):=by
  have:((0:Nat):Rat)<=(n:Rat):=aa3.2 (Γ _);exact this
 have hnK:=π UG hK0;have hgi:g*g⁻¹=1:=Ν _ (by grind);have hgp:=afu.2 hg0;obtain⟨D,hD0,_,_,hD2⟩:=BM (a:=0) (b:=(n*K+K)*g⁻¹) Ϥ (π (by grind) (by grind));refine⟨D,hD0,λe he heD m' z' p' KK=> ?_⟩;have hek:(n:Rat)*(K*e)<g - K*e:=by
  have h1:=ϡ hg0 (show(0:Rat)<1 - (n*K+K)*g⁻¹*D by grind);have h2:g*(1 - (n*K+K)*g⁻¹*D)=g - (n*K+K)*D*(g*g⁻¹):=by generalize g⁻¹=y;grind
  rw[h2,hgi]at h1;have h3:=π (show(0:Rat)<=n*K+K by grind) (show(0:Rat)<=D - e by grind);grind
 have hKe:0<=K*e:=π hK0 (by grind);have MS:∀i j,i<n->j<n->Bd (e*pull n M (λj=>T (eU j)) i j) (K*e):=λi j hi hj=>by
  obtain⟨h1,h2⟩:=hK i j hi hj;have g1:=π (show(0:Rat)<=e by grind) (show(0:Rat)<=K - pull n M (λj=>T (eU j)) i j by grind);have g2:=π (show(0:Rat)<=e by grind) (show(0:Rat)<=K+pull n M (λj=>T (eU j)) i j by grind);constructor<;>grind
 have jh:eP n (pull n (jb S M e) λj=>T (eU j)) (cX n λi=>decide (0<pull n (jb S M e) (λj=>T (eU j)) i i)):=by
  refine Fu (e:=K*e) (k:=g - K*e) hKe (λi j hi hj a8=> ?_) (λi _=>rfl) (λi hi UD=> ?_) hek
  ·rw[wO,hV i j hi hj,if_neg a8];obtain⟨h1,h2⟩:=MS i j hi hj;constructor<;>grind
  ·rw[wO,hV i i hi hi,if_pos rfl]at UD ⊢;obtain⟨h1,h2⟩:=MS i i hi hi;by_cases h:0<d i
   ·have:=hg i hi;simp only[if_pos h]at this;grind
   ·exfalso;have h3:0<=pull n M (λj=>T (eU j)) i i:=by
     show 0<=bf n M (T (eU i)) (T (eU i));rw[<-ll];exact hP.nn _
    have:=π (show(0:Rat)<=e by grind) h3;grind
 have afD:(cX n λi=>decide (0<pull n (jb S M e) (λj=>T (eU j)) i i))=p:=by
  rw[hp];refine gG λi hi=> ?_
  rw[wO,hV i i hi hi,if_pos rfl];obtain⟨h1,h2⟩:=MS i i hi hi;by_cases h:0<d i
  ·have:=hg i hi;simp only[if_pos h]at this;have M3:(1:Rat)<=(n:Rat):=by
    have:((1:Nat):Rat)<=(n:Rat):=aa3.2 aa;exact this
   have g5:=π UG hKe;rw[decide_eq_true h,decide_eq_true (by grind)]
  ·have h3:0<=pull n M (λj=>T (eU j)) i i:=by
    show 0<=bf n M (T (eU i)) (T (eU i));rw[<-ll];exact hP.nn _
   have:=π (show(0:Rat)<=e by grind) h3;rw[decide_eq_false h,decide_eq_false (by grind)]
 rw[afD]at jh;have h1:p<=p':=by
  obtain⟨V,hV2⟩:=jh;refine(KK.pos p).1 ⟨λj=>comb n (V j) λj=>T (eU j),λc hc=> ?_⟩;have h1:=hV2 c hc;rw[wL]at h1;rw[dB (y:=comb n (comb p c V) λj=>T (eU j)) λi _=> ?_]
  ·exact h1
  ·show aj p (λj=>c j*aj n λl=>V j l*T (eU l) i)=aj n λl=>(aj p λj=>c j*V j l)*T (eU l) i
   rw[ah p (g:=λj=>aj n λl=>c j*(V j l*T (eU l) i)) λj _=>by rw[bH],dX];refine ah n λl _=> ?_
   rw[ir];exact ah p λj _=>by grind
 have h2:=((hI.congr (B:=jb S M 0) λi k _ _=>by unfold jb;grind).up hP (show(0:Rat)<=e by grind) KK).2;omega
theorem S2 {n:Nat} {M:Mx} (hM:dq n M) (hP:iP n M):0<bz n M:=by
 obtain⟨T,hT⟩:=Mf n hM hM hP (R:=1) (e:=1) ax (λx=>by have:=hP.nn x;constructor<;>grind) ax;have g1:=Kk hT;have g2:=mW (bz n T);refine aiV.1 λg=> ?_
 have:=π g2 (show(0:Rat)<= -bz n M by grind);grind
theorem afF (n:Nat):sg n≠0:=λh=>by have:=GP n;rw[h]at this;grind
theorem S3 {n:Nat} {S M:Mx} {c:List Rat} (hM:dq n M) (hP:iP n M) (hc:c.length=n+1) (hv:∀x,cM c x=bz n (jb S M x)):c.getD n 0≠0:=by
 obtain⟨q,q1,q2,q3⟩:=Ml n S M;rw[S0 (l:=c) (m:=q) (d:=n+1) aa aa (λk _=>by rw[hv,<-q2]) n,q3];intro h;have h1:=S2 hM hP;rcases acO.1 h with h|h
 ·exact afF n h
 ·grind
theorem Mo {n:Nat} {M:Mx} (h1:∀x,aj n (λi=>x i*x i)<=qf n M x):iP n M:=λx ⟨i,hi,hx⟩=>by
 have g1:=h1 x;have g2:=sl (n:=n) (f:=λi=>x i*x i) (λi _=>mW _) ⟨i,hi,sq_pos hx⟩;grind
theorem FA {n:Nat} {S M:Mx} {c:List Rat} {m z p:Nat} (hS:dq n S) (hM:dq n M) (h1:∀x,aj n (λi=>x i*x i)<=qf n M x) (hc:c.length=n+1) (hv:∀x,cM c x=bz n (jb S M x)) (hI:cJ n S m z p):vr 0 c=p:=by
 have hP:=Mo h1;obtain⟨D1,O7,h2⟩:=Ii c (by rw[hc];exact S3 hM hP hc hv);obtain⟨D2,hD2,h3⟩:=NS hS hP hI;obtain⟨e,Xr,he1,he2⟩:∃e:Rat,0<e/\e<=D1/\e<=D2:=by
  by_cases g:D1<=D2
  ·exact⟨D1,O7,Ϥ,g⟩
  ·exact⟨D2,hD2,by grind,Ϥ⟩
 have hf:=h2 e Xr he1;have hs:=mc hS hM e;have KK:=uQ hs
 have:=(NQ (c:=cY e c) hs hM h1 (by rw[qi,hc]) (λx=>by
  rw[BN,hv]
  exact bp λi k _ _=>by unfold jb;grind) (λk hk=>(hf.2 k aa).1) KK).1
 rw[Zv 0 hf,this,h3 e Xr he2 _ _ _ KK]
theorem zx (x:Rat):∀(l:List Rat) (b:Bool),cM (dv b l) x=(if b then -1 else 1)*cM l (-x)
 |[],b=>by rw[dv,cM,cM];grind
 |a::l,b=>by
  rw[dv,cM,cM,zx x l];cases b<;>simp<;>grind
theorem S4:∀n:Nat,sg n=(-1:Rat)^n
 |0=>by rw[afN];rfl
 |n+1=>by rw[sg,S4 n,ace];grind
theorem S5:∀n:Nat,sg n=1\/sg n= -1
 |0=>.inl rfl
 |n+1=>by rcases S5 n with h|h<;>rw[sg,h]<;>simp
theorem Im {s:Rat} (h:s=1\/s= -1) (l:List Rat):vr 0 (l.map (s*·))=vr 0 l:=by
 rcases h with rfl|rfl
 ·rw[show(λx:Rat=>1*x)=id from funext λx=>by show 1*x=x;grind,List.map_id]
 ·exact wM l 0
theorem Mp {n:Nat} {S M:Mx} {c:List Rat} {m z p:Nat} (hS:dq n S) (hM:dq n M) (h1:∀x,aj n (λi=>x i*x i)<=qf n M x) (hc:c.length=n+1) (hv:∀x,cM c x=bz n (jb S M x)) (hI:cJ n S m z p):vr 0 (dv false c)=m:=by
 rw[<-Im (S5 n)];refine FA (S:=λi k=> -1*S i k) (λi k hi hk=>by show -1*S i k= -1*S k i;rw[hS i k hi hk]) hM h1 (by rw[Χ,ns,hc]) (λx=> ?_) hI.minus;rw[mb,zx,hv,bp (A:=jb (λi k=> -1*S i k) M x) (B:=λi k=> -1*jb S M (-x) i k) λi k _ _=>by unfold jb;grind,P9,S4];simp
theorem FB:∀(k:Nat) (l:List Rat) (s:Int),(∀j,j<k->l.getD j 0=0)->vr s l=vr s (l.drop k)
 |0,_,_,_=>rfl
 |_+1,[],_,_=>rfl
 |k+1,a::l,s,h=>by
  have h0:a=0:=h 0 aa;rw[h0,dy,ahg,FB k l s λj hj=>h (j+1) aa]
theorem Io:∀(k:Nat) (l:List Rat) (b:Bool),∃t,(dv b l).drop k=dv t (l.drop k)
 |0,l,b=>⟨b,rfl⟩
 |_+1,[],b=>⟨b,by rw[dv];simp[dv]⟩
 |k+1,a::l,b=>by
  obtain⟨t,h⟩:=Io k l (!b);exact⟨t,by rw[dv,ahg,ahg,h]⟩
theorem Mq {l:List Rat} {j:Nat} (h:j<l.length):l[j]=l.getD j 0:=by rw[δ,φ h];rfl
theorem acD (l:List Rat) (b t:Bool):vr 0 (dv b l)=vr 0 (dv t l):=by
 have h:∀t,vr 0 (dv t l)=vr 0 (dv false l):=by
  intro t;cases t with
  |false=>rfl
  |true=>
   rw[<-Im (.inr rfl) (dv false l)];congr 1;refine aju (by simp[ns]) λj h1 h2=> ?_
   have e1:=sN l true j;have e2:=sN l false j;rw[List.getElem_map,Mq h1,Mq,e1,e2];cases (j % 2==1)<;>simp<;>grind
 rw[h b,h t]
theorem XE {n:Nat} {S M:Mx} {c:List Rat} {m z p:Nat} (hS:dq n S) (hM:dq n M) (h1:∀x,aj n (λi=>x i*x i)<=qf n M x) (hc:c.length=n+1) (hv:∀x,cM c x=bz n (jb S M x)) (hI:cJ n S m z p):c.getD z 0≠0:=by
 intro h0;have hz:=Mn hS hc hv hI;have MW:∀j,j<z+1->c.getD j 0=0:=λj hj=>by
  by_cases g:j<z
  ·exact hz j g
  ·rw[show j=z from by omega];exact h0
 have ht:=S3 hM (Mo h1) hc hv;have hzn:z<n:=by
  have:=hI.sum;refine ajO λg=>ht (MW n aa)
 have e1:=FA hS hM h1 hc hv hI;have e2:=Mp hS hM h1 hc hv hI;rw[FB (z+1) c 0 MW]at e1;obtain⟨t,FI⟩:=Io (z+1) c false;rw[FB (z+1) (dv false c) 0 (λj hj=>by rw[sN,MW j hj];split<;>rfl),FI,acD _ t false]at e2;have:=Ft (c.drop (z+1)) false;rw[ϗ,hc]at this;have:=hI.sum;omega
theorem wP (x d:Rat):∀(l:List Rat) (i:Nat),i<l.length->cM (l.set i (l.getD i 0+d)) x=cM l x+d*x^i
 |[],i,h=>by simp at h
 |a::l,0,_=>by
  rw[List.set_cons_zero,List.getD_cons_zero,cM,cM];grind
 |a::l,i+1,h=>by
  have ih:=wP x d l i (by simpa using h);rw[List.set_cons_succ,abt,cM,cM,ih];grind
theorem wQ (x:Rat):∀(l:List Rat) (i:Nat),cM (l.take (i+1)) x=cM (l.take i) x+l.getD i 0*x^i
 |[],i=>by simp[cM];grind
 |a::l,0=>by simp[cM];grind
 |a::l,i+1=>by
  have ih:=wQ x l i;rw[aiS,aiS,abt,cM,cM,ih];grind
theorem Mr (x:Rat) {l:List Rat} {i:Nat} (h:l.length<=i):cM (l.take i) x=cM l x:=by rw[List.take_of_length_le h]
def nD (p:List Rat) (a b:Rat):Nat->List Rat
 |0=>θ (p.length+1) 0
 |i+1=>((nD p a b i).set i ((nD p a b i).getD i 0+p.getD i 0*a)).set (i+1) (((nD p a b i).set i ((nD p a b i).getD i 0+p.getD i 0*a)).getD (i+1) 0+p.getD i 0*b)
abbrev Kl (p:List Rat) (a b:Rat):List Rat:=nD p a b p.length
theorem kJ (p:List Rat) (a b:Rat):∀i,(nD p a b i).length=p.length+1
 |0=>by simp[nD]
 |i+1=>by rw[nD,ϒ,ϒ,kJ p a b i]
theorem Ms (p:List Rat) (a b x:Rat):∀i,i<=p.length->cM (nD p a b i) x=(a+b*x)*cM (p.take i) x
 |0,_=>by rw[nD,pf,agq,cM];grind
 |i+1,h=>by
  have ih:=Ms p a b x i aa;have hl:=kJ p a b i;rw[nD,wP _ _ _ _ (by rw[ϒ];omega),wP _ _ _ _ aa,ih,wQ];grind
theorem FC (p:List Rat) (a b x:Rat):cM (Kl p a b) x=(a+b*x)*cM p x:=by
 rw[Ms p a b x _ (ζ _),List.take_length]
theorem fI (l:List Rat) (i j:Nat) (v:Rat):(l.set i v).getD j 0=if i=j/\i<l.length then v else l.getD j 0:=by
 rw[δ,List.getElem?_set];by_cases h:i=j
 ·subst h;by_cases h2:i<l.length
  ·rw[if_pos rfl,if_pos h2,if_pos ⟨rfl,h2⟩];rfl
  ·rw[if_pos rfl,if_neg h2,if_neg (λg=>h2 g.2),δ,Ϙ aa]
 ·rw[if_neg h,if_neg (λg=>h g.1),δ]
theorem BT (p:List Rat) (a b:Rat) (k:Nat) (hp:∀j,k<=j->p.getD j 0=0):∀i j,k<j->(nD p a b i).getD j 0=0
 |0,j,_=>ke _ _
 |i+1,j,h=>by
  have ih:=BT p a b k hp i;have h1:∀j,k<j->((nD p a b i).set i ((nD p a b i).getD i 0+p.getD i 0*a)).getD j 0=0:=λj hj=>by
   rw[fI];split
   ·rename_i g;obtain⟨e,_⟩:=g;rw[e,<-e,ih i aa,hp i aa];grind
   ·exact ih j hj
  rw[nD,fI];split
  ·rename_i g;rw[show i+1=j from g.1,h1 j h,hp i aa];grind
  ·exact h1 j h
abbrev qI (i:Int):Rat:=(i:Rat)
def xP (k:Nat) (d:Rat):Nat->List Rat
 |0=>[d]
 |j+1=>if j=k then xP k d j else Kl (xP k d j) (qI j/qI ((j:Int) - k)) (qI 1/qI ((j:Int) - k))
theorem wR (k:Nat) (d:Rat):∀j,(xP k d j).length=if k<j then j else j+1
 |0=>rfl
 |j+1=>by
  have ih:=wR k d j;rw[xP];split
  ·rename_i h;subst h;rw[ih,if_neg (afU _),if_pos (gq _)]
  ·rw[kJ,ih];by_cases h:k<j
   ·rw[if_pos h,if_pos aa]
   ·rw[if_neg h,if_neg aa]
theorem Km (j k:Nat):qI ((j:Int) - k)=(j:Rat) - (k:Rat):=by
 show(((j:Int) - (k:Int):Int):Rat)=_;rw[Rat.intCast_sub];rfl
theorem nat_ne {j k:Nat} (h:j≠k):(j:Rat) - (k:Rat)≠0:=λg=>h (by
 have:(j:Rat)=(k:Rat):=by grind
 exact_mod_cast this)
theorem Mt (k:Nat) (d:Rat):∀j,cM (xP k d j) (-(k:Rat))=d
 |0=>by simp only[xP,cM];grind
 |j+1=>by
  have ih:=Mt k d j;rw[xP];split
  ·exact ih
  ·rename_i h;rw[FC,ih,Km];have hn:=nat_ne h;show((j:Rat)/((j:Rat) - k)+1/((j:Rat) - k)* -(k:Rat))*d=d;grind
theorem BU (k i:Nat) (d:Rat) (N8:i≠k):∀j,i<j->cM (xP k d j) (-(i:Rat))=0
 |0,h=>absurd h (abe _)
 |j+1,h=>by
  rw[xP];split
  ·rename_i g;exact BU k i d N8 j aa
  ·rename_i g;rw[FC];by_cases e:i=j
   ·subst e;rw[Km];have hn:=nat_ne g;show((i:Rat)/((i:Rat) - k)+1/((i:Rat) - k)* -(i:Rat))*_=0;grind
   ·rw[BU k i d N8 j aa];grind
def DI (o p:List Rat):Nat->List Rat
 |0=>o
 |i+1=>(DI o p i).set i ((DI o p i).getD i 0+p.getD i 0)
theorem wS (o p:List Rat):∀i,(DI o p i).length=o.length
 |0=>rfl
 |i+1=>by rw[DI,ϒ,wS o p i]
theorem Mu (o p:List Rat) (x:Rat):∀i,i<=o.length->cM (DI o p i) x=cM o x+cM (p.take i) x
 |0,_=>by rw[DI,agq,cM];grind
 |i+1,h=>by
  rw[DI,wP _ _ _ _ (by rw[wS];omega),Mu o p x i aa,wQ];grind
def yE (n:Nat) (D:Nat->Rat):Nat->List Rat
 |0=>θ (n+1) 0
 |k+1=>DI (yE n D k) (xP k (D k) (n+1)) (n+1)
theorem qj (n:Nat) (D:Nat->Rat):∀k,(yE n D k).length=n+1
 |0=>by simp[yE]
 |k+1=>by rw[yE,wS,qj n D k]
theorem S6 (n:Nat) (D:Nat->Rat) {i:Nat} (hi:i<n+1):∀k,k<=n+1->cM (yE n D k) (-(i:Rat))=if i<k then D i else 0
 |0,_=>by rw[yE,pf,if_neg (abe _)]
 |k+1,h=>by
  have hl:(xP k (D k) (n+1)).length<=n+1:=by rw[wR,if_pos aa];exact ζ _
  rw[yE,Mu _ _ _ _ (by rw[qj];exact ζ _),Mr _ hl,S6 n D hi k aa];by_cases e:i=k
  ·subst e;rw[Mt,if_neg (afU _),if_pos (gq _)];grind
  ·rw[BU k i _ e _ hi];by_cases g:i<k
   ·rw[if_pos g,if_pos aa];grind
   ·rw[if_neg g,if_neg aa];grind
theorem Ip:∀(l m:List Rat) (b:Bool),dv b l=dv b m->l=m
 |[],[],_,_=>rfl
 |[],c::m,b,h=>by simp[dv]at h
 |a::l,[],b,h=>by simp[dv]at h
 |a::l,c::m,b,h=>by
  rw[dv,dv,List.cons.injEq]at h;have h2:=Ip l m _ h.2;have h1:a=c:=by
   have:=h.1;cases b<;>simp at this<;>grind
  rw[h1,h2]
theorem S7 {d:Nat} {l m:List Rat} (hl:l.length=d) (hm:m.length=d) (h:∀k:Nat,k<d->cM l (-(k:Rat))=cM m (-(k:Rat))):l=m:=by
 refine Ip l m false (zu (by rw[ns,hl]) (by rw[ns,hm]) λk hk=> ?_);rw[zx,zx,h k hk]
theorem acE {n:Nat} {D:Nat->Rat} {c:List Rat} (hc:c.length=n+1) (h:∀k:Nat,k<n+1->cM c (-(k:Rat))=D k):yE n D (n+1)=c:=
 S7 (qj ..) hc λk hk=>by rw[S6 n D hk _ (ζ _),if_pos hk,h k hk]
def nx (p:List Rat) (c:Rat):Nat->List Rat
 |0=>θ p.length 0
 |k+1=>((Kl (nx p c k) c 1).take p.length).set 0 (((Kl (nx p c k) c 1).take p.length).getD 0 0+p.getD (p.length - 1 - k) 0)
theorem n0 (p:List Rat) (c:Rat):∀k,(nx p c k).length=p.length
 |0=>by simp[nx]
 |k+1=>by rw[nx,ϒ,ψ,kJ,n0 p c k];omega
theorem sO (l:List Rat) (m j:Nat):(l.take m).getD j 0=if j<m then l.getD j 0 else 0:=by
 rw[δ,List.getElem?_take];split
 ·rw[δ]
 ·rfl
theorem Iq (p:List Rat) (c:Rat):∀k j,k<=j->(nx p c k).getD j 0=0
 |0,j,_=>ke _ _
 |k+1,j,h=>by
  rw[nx,fI,if_neg aa,sO];split
  ·exact BT _ _ _ k (Iq p c k) _ _ aa
  ·rfl
theorem Mv {l:List Rat} {m:Nat} (h:∀j,m<=j->l.getD j 0=0) (x:Rat):∀d,cM (l.take (m+d)) x=cM (l.take m) x
 |0=>rfl
 |d+1=>by rw[show m+(d+1)=m+d+1 from rfl,wQ,Mv h x d,h _ aa];grind
theorem Mw (p:List Rat) (c x:Rat):∀k,k<=p.length->cM (nx p c k) x=cM (p.drop (p.length - k)) (x+c)
 |0,_=>by rw[nx,pf,ahF,alm,cM]
 |k+1,h=>by
  have ih:=Mw p c x k aa;have hl:(Kl (nx p c k) c 1).length=p.length+1:=by rw[kJ,n0]
  have hz:∀j,p.length<=j->(Kl (nx p c k) c 1).getD j 0=0:=λj hj=>BT _ _ _ k (Iq p c k) _ _ aa
  rw[nx,wP _ _ _ _ (by rw[ψ,hl];omega),<-Mv hz x 1,Mr _ aa,FC,ih];have e:p.drop (p.length - (k+1))=p.getD (p.length - 1 - k) 0::p.drop (p.length - k):=by
   rw[ajL aa,show p.length - (k+1)+1=p.length - k by omega];congr 1;rw[δ,φ aa];show _=p[p.length - 1 - k];congr 1;omega
  rw[e,cM];grind
theorem NT (p:List Rat) (c x:Rat):cM (nx p c p.length) x=cM p (x+c):=by
 rw[Mw _ _ _ _ (ζ _),Nat.sub_self,afg]
def uw (p:List Rat) (odd:Bool):Nat->Nat×Int
 |0=>(0,0)
 |i+1=>
  let s:=if odd=true/\i % 2=1 then -(p.getD i 0).num.sign else(p.getD i 0).num.sign
  ((if s≠0/\(uw p odd i).2≠0/\s≠(uw p odd i).2 then(uw p odd i).1+1 else(uw p odd i).1),if s≠0 then s else(uw p odd i).2)
theorem BV {a:Rat}:a.num.sign=0↔a=0:=by rw[Int.sign_eq_zero_iff_zero,ajR]
theorem S8 (a:Rat):(-a).num.sign= -a.num.sign:=by rw[Rat.neg_num,Int.sign_neg]
theorem FD (s:Int) (a:Rat) (r:List Rat):vr s (a::r)=(if a.num.sign≠0/\s≠0/\a.num.sign≠s then 1 else 0)+vr (if a.num.sign≠0 then a.num.sign else s) r:=by
 rw[vr];by_cases h:a=0
 ·have h1:=BV.2 h;rw[if_pos h,if_neg (λg=>g.1 h1),if_neg (λg=>g h1),υ]
 ·have h1:a.num.sign≠0:=λg=>h (BV.1 g)
  rw[if_neg h,if_pos h1];by_cases h2:s≠0/\a.num.sign≠s
  ·rw[if_pos h2,if_pos ⟨h1,h2⟩]
  ·rw[if_neg h2,if_neg (λg=>h2 g.2)]
theorem drop_cons {l:List Rat} {i:Nat} (h:i<l.length):l.drop i=l.getD i 0::l.drop (i+1):=by
 rw[ajL h];congr 1;rw[δ,φ h];rfl
theorem S9 (p:List Rat) (odd:Bool):∀i,i<=p.length->(uw p odd i).1+vr (uw p odd i).2 (if odd then dv (decide (i % 2=1)) (p.drop i)else p.drop i)=vr 0 (if odd then dv false p else p)
 |0,_=>by rw[uw,υ,afg];cases odd<;>rfl
 |i+1,h=>by
  rw[<-S9 p odd i aa];rw[drop_cons (show i<p.length by omega)];generalize p.drop (i+1)=R;rw[uw];generalize uw p odd i=st;obtain⟨n,s⟩:=st;have hz:∀v:Int,(if v≠0/\s≠0/\v≠s then n+1 else n)=n+(if v≠0/\s≠0/\v≠s then 1 else 0):=λv=>by split<;>rfl
  cases odd with
  |false=>
   simp only[Κ,false_and,if_false];rw[FD,hz,af1]
  |true=>
   simp only[if_true,true_and];rw[dv];by_cases h2:i % 2=1
   ·have e:decide ((i+1) % 2=1)= !decide (i % 2=1):=by rw[decide_eq_true h2,decide_eq_false aa];rfl
    rw[FD,e,decide_eq_true h2,if_pos h2,if_pos rfl,S8,hz,af1]
   ·have e:decide ((i+1) % 2=1)= !decide (i % 2=1):=by rw[decide_eq_false h2,decide_eq_true aa];rfl
    rw[FD,e,decide_eq_false h2,if_neg h2,show(if false=true then -p.getD i 0 else p.getD i 0)=p.getD i 0 from rfl,hz,af1]
theorem My (p:List Rat) (odd:Bool):(uw p odd p.length).1=vr 0 (if odd then dv false p else p):=by
 have h:=S9 p odd p.length (ζ _);rw[alm]at h;cases odd<;>simpa [dv,vr]using h
end Go.Proofs.YtadphegfhgmgmaaGreatDoor
namespace Go.Sx
theorem NU {E:Env} {j s:Nat} {ty:TypeId} {wr:Bool} {cs cs':List SV} {fr:List (Nat×SV)} {hp:List (Nat×aC)} (hj:find hp j=some ⟨ty,wr,.seq s cs⟩) (hd:∀ρ z,aw ρ cs z->aw ρ cs' z) (hw:∀x∈cs',x.width=s) (he:cs=[]->cs'=[]) {a:Act} {w:World} (hR:RR E (fn fr hp) a w):
  RR E (fn fr ((j,⟨ty,wr,.seq s cs'⟩)::hp)) a w:=by
 obtain⟨ρ,hext,hfx,hR⟩:=hR;have fQ:∀i b,(fn fr ((j,⟨ty,wr,.seq s cs'⟩)::hp) (.k i)).blk=some b->∃b0,(fn fr hp (.k i)).blk=some b0/\b0.wr=b.wr/\b0.data.live=b.data.live/\(b0=b\/(i=j/\b0=⟨ty,wr,.seq s cs⟩/\b=⟨ty,wr,.seq s cs'⟩)):=by
  intro i b hb;simp only[fn,LV.blk,find]at hb ⊢;cases hi:ϋ j i with
  |true=>
   rw[hi]at hb;simp only[κ]at hb;obtain rfl:=Nat.eq_of_beq_eq_true hi;subst hb;exact⟨_,hj,rfl,rfl,.inr ⟨rfl,rfl,rfl⟩⟩
  |false=>rw[hi]at hb;exact⟨b,hb,rfl,rfl,.inl rfl⟩
 refine⟨ρ,hext,λi hi=> ?_,{defers:=hR.defers,size:=hR.size,fr:=λu sv hu=>hR.fr u sv hu,bE:=hR.bE,hp:= ?_}⟩
 ·have:=hfx i hi;simp only[fn,LV.blk,find]at this ⊢;cases hb:ϋ j i with
  |true=>simp
  |false=>exact this
 ·constructor
  ·intro i b hb;obtain⟨b0,h1,h2,h3,rfl|⟨rfl,rfl,rfl⟩⟩:=fQ i b hb
   ·exact hR.hp.blk i b0 h1
   ·rcases hR.hp.blk i _ h1 with h4|⟨b',t,vs,ex,g1,g2,g3,g4,g5⟩|⟨_,h4⟩
    ·cases h4
    ·refine .inr (.inl ⟨b',t,vs,ex,g1,g2, ?_,g4,g5⟩);simp only[df]at g3 ⊢;obtain⟨z,g6,g7⟩:=g3;exact⟨z,hd _ z g6,g7.1,hw⟩
    ·exact .inr (.inr ⟨‹_›,he h4⟩)
  ·intro i i' x x' b b' hx sU hn hxe hb ie hl ux;obtain⟨b0,h1,h2,h3,_⟩:=fQ i b hb;obtain⟨b0',h1',h2',h3',_⟩:=fQ i' b' ie;rw[<-h2];exact hR.hp.sep i i' x x' b0 b0' hx sU hn hxe h1 h1' (h3.trans hl) (h3'.trans ux)
  ·intro i b x hb hw hl hx;obtain⟨b0,h1,h2,h3,_⟩:=fQ i b hb;exact hR.hp.own i b0 x h1 (h2.trans hw) (h3.trans hl) hx
  ·intro i x hx;obtain⟨b,hb⟩:=hR.hp.wW i x hx;simp only[fn,LV.blk,find]at hb ⊢;cases hi:ϋ j i with
   |true=>exact⟨_,rfl⟩
   |false=>exact⟨b,hb⟩
  ·exact hR.hp.aW
  ·intro i b x hb hw hl hx;obtain⟨b0,h1,h2,h3,_⟩:=fQ i b hb;exact hR.hp.fB i b0 x h1 (h2.trans hw) (h3.trans hl) hx
theorem qk {E:Env} (j:Nat) {s:Nat} {ty:TypeId} {wr:Bool} {cs:List SV} (cs':List SV) {c:Code} {K:bF} {fr:List (Nat×SV)} {hp:List (Nat×aC)} (hj:find hp j=some ⟨ty,wr,.seq s cs⟩) (hd:∀ρ z,aw ρ cs z->aw ρ cs' z) (hw:∀x∈cs',x.width=s) (he:cs=[]->cs'=[])
  (hs:dY E c K fr ((j,⟨ty,wr,.seq s cs'⟩)::hp)):dY E c K fr hp:=⟨λa w hR=>hs.run a w (NU hj hd hw he hR)⟩
theorem Ir {ρ:bY} {c d:SV} (h:∀x,aI ρ c x->aI ρ d x):∀(n:Nat) (z:List (List Value)),aw ρ (θ n c) z->aw ρ (θ n d) z
 |0,z,hz=>hz
 |n+1,z,hz=>by
  rw[acT]at hz ⊢;simp only[aw]at hz ⊢;obtain⟨x,r,rfl,h1,h2⟩:=hz;exact⟨x,r,rfl,h x h1,Ir h n r h2⟩
theorem NV {P:Program} {o:Oper} {ft:List (Nat×SV)} {fk:List (Nat×aC)} {t:TypeId} {x y:Operand} {ti:TI} {k s i r f:Nat} {ty:TypeId} {d d':Data} {ob:Option Prop} {cs cs' nw:List SV} {sv:SV} (ho:o.op= .store t x y) (hx:bg ft x (.ptr k s i r)) (hy:bg ft y sv)
  (ht:b6 P t ti) (hk:(k,⟨ty,true,d⟩)∈fk) (he:elem d s i=some (ob,cs)) (jH:DS ob) (hc:∀(ρ:bY) (v:Value),Has ρ sv v->∃z,aw ρ nw z/\v.cells.toList=z.flatten) (hw:SV.cP nw=ti.size) (hle:r+ti.size<=SV.cP cs)
  (hp:put f cs r ti.size nw=some cs') (hd:jm d i cs'=some d'):bR P o ft fk .any [] [(k,⟨ty,true,d'⟩)]:=
 Kv λρ a w DQ=>by
  have hx:=hx ρ a DQ.dR;simp only[Has,aI]at hx;obtain⟨_,⟨b,n,bZ,rfl⟩,hv⟩:=hx;simp only[cV,SV.aZ,if_true,List.headD_cons]at hv;rcases DQ.oq k _ hk with h0|⟨b',n',vs,ex,h1,h2,h3,h4,h5⟩|⟨h1,h2⟩
  case inl=>simp only at h0;cases d<;>simp[Data.live,elem]at h0 he
  case inr.inr=>rw[bZ]at h1;cases h1
  rw[bZ]at h1;cases h1;simp only at h2 h3;rw[Data.cK (uy he)]at h2;obtain⟨z,g1,g2,g3⟩:=zC he jH h3;obtain⟨yz,y1,y2⟩:=hc ρ _ (hy ρ a DQ.dR);have MI:=(aw.len nw yz y1).1;have ZM:=(aw.len nw yz y1).2;have rR:=(aw.len cs z g1).1;obtain⟨z',p1,p2⟩:=DR hp g1 y1;have Ot:z'.flatten.length=SV.cP cs:=by
   rw[p2];simp only[ξ,ψ,ϗ];omega
  have ZN:=xT he jH h3 hd p1 Ot;have jI:vs=vs.take (i*s)++(z.flatten++vs.drop (i*s+SV.cP cs)):=by
   rw[g2,rR,<-List.drop_drop,ϟ,ϟ]
  have hAl:(vs.take (i*s)).length=i*s:=by rw[ψ];omega
  generalize hA:vs.take (i*s)=A at jI hAl ZN;generalize hC:vs.drop (i*s+SV.cP cs)=C at jI ZN;have gM:(yz.flatten).length=ti.size:=aa;have hL:(vs++ex).take (i*s+r)++yz.flatten++(vs++ex).drop (i*s+r+yz.flatten.length)=(A++z'.flatten++C)++ex:=by
   rw[jI,p2,gM,<-hAl];simp only[List.append_assoc];rw[List.take_length_add_append,af1,List.drop_length_add_append,List.take_append_of_le_length aa,List.drop_append_of_le_length aa]
   try simp
  have ny:(storeVar t ⟨b,i*s+r,none⟩ (a.eval y)).run P w= .ok () (w.setRow b ((A++z'.flatten++C)++ex).toArray):=by
   have Ky:=run_storeCells_at (P:=P) b (i*s+r) ty yz.flatten 0 (vs++ex).toArray w h2 (by simp only[List.size_toArray,ξ];omega) ZM;simp only[Nat.add_zero,hL]at Ky;have fP:(a.eval y).cells.size=ti.size:=by rw[<-Array.length_toList,y2];exact gM
   unfold storeVar;simp only[Β,ht.sizeOf,ν,fP,ne_eq,not_true_eq_false,if_false,y2,Ky]
  refine⟨w.setRow b ((A++z'.flatten++C)++ex).toArray,ρ, ?_, ?_⟩
  ·simp only[execOp,ho,Instr.storeAt,Instr.sureAddr,hv,Β,Sem.run_pure,ν,ny]
  ·refine⟨.refl ρ,trivial,λ_ _=>rfl,⟨rfl,rfl,rfl,by simp[World.setRow],λi hi hn=> ?_⟩,λj bj hj=> ?_,(λj c c' h1 h2 h3 h4=> ?_),(λ_ _ _ h=>by cases h),(λ_ _ _ _ _ _ h=>by cases h),λb o h=>.inl h⟩
   ·refine dh λX0=>hn ⟨k,_,n,η .., ?_⟩
    rw[X0];exact bZ
   ·rcases hj with hj|hj
    ·simp only[μ,ς]at hj;obtain⟨rfl,rfl⟩:=hj;refine .inr (.inl ⟨b,n,_,ex,bZ,by rw[Data.cK (ub hd)];exact dC h2,ZN, ?_,h5⟩);rw[<-h4,jI];simp only[ξ,Ot,rR];omega
    ·cases hj
   ·simp only[μ,ς]at h1 h2;obtain⟨_,rfl⟩:=h1;obtain⟨_,rfl⟩:=h2;rw[h3]at h4;cases h4
theorem XF {ρ:bY} {c:List SV} {v:Value} (h:Has ρ (.agg c) v):∃z,aw ρ [.agg c] z/\v.cells.toList=z.flatten:=by
 obtain⟨y,h1,h2⟩:=ml (l:=c) rfl h;refine⟨[y.flatten], ?_,by rw[h2];simp⟩;simp only[aw,aI];exact⟨y.flatten,[],rfl,⟨y,h1,rfl⟩,rfl⟩
theorem pg {P:Program} {o:Oper} {fr:List (Nat×SV)} {hp:List (Nat×aC)} {K:SV->List (Nat×aC)->List (Nat×aC)->List (Nat×aC)->Prop} {t ty:TypeId} {x y:Operand} {ti:TI} {k w i:Nat} {xs:List SV} {c:List SV} {e:SV} (ho:o.op= .store t x y) (hx:bg fr x (.ptr k w i 0))
  (hy:bg fr y (.agg c)) (hf:find hp k=some ⟨ty,true,.seq w xs⟩) (ht:b6 P t ti) (he:elem (.seq w xs) w i=some (some (i<xs.length),[e])) (hi:i<xs.length) (hw:SV.cP [.agg c]=ti.size) (hle:0+ti.size<=SV.cP [e]) (cl:put 64 [e] 0 ti.size [.agg c]=some [.agg c]) (hd:jm (.seq w xs) i [.agg c]=some (.seq w (xs.set i (.agg c))))
  (hK:K .any [(k,⟨ty,true,.seq w xs⟩)] [] [(k,⟨ty,true,.seq w (xs.set i (.agg c))⟩)]):
  ∃c fk new upd,bR P o fr fk c new upd/\yx hp fk/\vG hp new/\mK fk upd/\K c fk new upd:=
 ⟨.any,_,[],_,NV (ob:=some (i<xs.length)) ho hx hy ht (μ.2 rfl) he hi (λ_ _ h=>XF h) hw hle cl hd,eB hf,ak,eT (μ.2 rfl) rfl rfl rfl,hK⟩
end Go.Sx
namespace Go.Proofs.YtadphegfhgmgmaaGreatDoor
open Go.Sx
abbrev zFv:SV:=.agg [.val (.bool false),.val (.slice none 0 0),.val (.slice none 0 0)]
theorem XG {ρ:bY} {x:List Value} (h:aI ρ zFv x):aI ρ (fF 0) x:=by
 simp only[aI,aw]at h;obtain⟨z,⟨x1,r1,rfl,h1,x2,r2,rfl,h2,x3,r3,rfl,h3,rfl⟩,rfl⟩:=h;have g2:aI ρ (nN 0) x2:=pI (a:=none) (by simp only[aI];exact h2);have g3:aI ρ (nN 0) x3:=pI (a:=none) (by simp only[aI];exact h3);have g1:aI ρ (zZ 0) (x1++x2):=by
  show aI ρ (.agg [.val (.bool false),nN 0]) _;simp only[aI,aw];exact⟨[x1,x2],⟨x1,[x2],rfl,h1,x2,[],rfl,g2,rfl⟩,by simp⟩
 show aI ρ (.agg [zZ 0,nN 0]) _;rw[aI];exact⟨[x1++x2,x3],by simp only[aw];exact⟨_,_,rfl,g1,_,_,rfl,g3,rfl⟩,by simp⟩
theorem FE (n:Nat):∀ρ z,aw ρ (θ n zFv) z->aw ρ ((θ n (0:Rat)).map fF) z:=λρ z h=>by
 rw[ai8];exact Ir (λx hx=>XG hx) n z h
theorem Kn {p:List Rat} {a b:Rat} {S A:Nat} (hp:Sm S p) (ha:fs a<=A) (hb:fs b<=A):∀i,i<=p.length->(∀j,j<i->fs ((nD p a b i).getD j 0)<=2*S+2*A+2)/\fs ((nD p a b i).getD i 0)<=S+A+2/\∀j,i<j->(nD p a b i).getD j 0=0
 |0,_=>⟨λj hj=>absurd hj (abe _),by rw[nD,ke,et];omega,λj _=>ke _ _⟩
 |i+1,h=>by
  obtain⟨h1,h2,h3⟩:=Kn hp ha hb i aa;have hl:=kJ p a b i;have hpi:=hp i aa;have e1:(nD p a b (i+1)).getD (i+1) 0=p.getD i 0*b:=by
   rw[nD,fI,if_pos ⟨rfl,by rw[ϒ];omega⟩,fI,if_neg aa,h3 _ (gq _)];grind
  have e2:(nD p a b (i+1)).getD i 0=(nD p a b i).getD i 0+p.getD i 0*a:=by
   rw[nD,fI,if_neg aa,fI,if_pos ⟨rfl,aa⟩]
  have e3:∀j,j≠i->j≠i+1->(nD p a b (i+1)).getD j 0=(nD p a b i).getD j 0:=λj g1 g2=>by
   rw[nD,fI,if_neg aa,fI,if_neg aa]
  refine⟨λj hj=> ?_, ?_,λj hj=> ?_⟩
  ·by_cases e:j=i
   ·rw[e,e2];have g1:=fW ((nD p a b i).getD i 0) (p.getD i 0*a);have g2:=cH (p.getD i 0) a;omega
   ·rw[e3 j e aa];exact h1 j aa
  ·rw[e1];have g2:=cH (p.getD i 0) b;omega
  ·rw[e3 j aa aa];exact h3 j aa
theorem Ko {p:List Rat} {a b:Rat} {S A:Nat} (hp:Sm S p) (ha:fs a<=A) (hb:fs b<=A):Sm (2*S+2*A+2) (Kl p a b):=λj hj=>by
 obtain⟨h1,h2,_⟩:=Kn hp ha hb p.length (ζ _);rw[kJ]at hj;by_cases e:j<p.length
 ·exact h1 j e
 ·obtain rfl:j=p.length:=aa;exact Nat.le_trans h2 aa
theorem XH {l:List Rat} {i:Nat} (h:i<l.length):(l.map fF).getD i .any=fF (l.getD i 0):=nQ (d:=(0:Rat)) h
theorem DJ {p:List Rat} {a b:Rat} {S A:Nat} (hl:p.length<=100) (hp:Sm S p) (ha:fs a<=A) (hb:fs b<=A) (h:2*S+2*A+2<=1700000000):C0 72 [nC p,fF a,fF b] (nC (Kl p a b)):=by
 have t0:IntKind.i64.wrap ((p.length:Int)+1)=((p.length+1:Nat):Int):=by rw[wrap_i64 aa aa];omega
 have lT:=kJ p a b;have sT:=Kn hp ha hb;refine kg [4,5] Tryz.func72 ?_;intro w0 ρ0 hE;conv=>whnf
 (repeat((first|refine ao Q3 ?_|refine an Q8 ?_|rw[t0]|rw[Int.toNat_natCast]);conv=>whnf))
 refine qk 12 ((θ (p.length+1) (0:Rat)).map fF) rfl (FE _) (λx hx=>by rw[ai8]at hx;rw[(List.mem_replicate.1 hx).2];rfl) (λh=>by cases h) ?_
 refine cG hE (dA [(12,2001)]) [0,4,5,7,8] [12] (λm fr hp=>∃i:Nat,m=p.length - i/\i<=p.length/\fr=[(0,nC p),(4,b9 [zZ a.num,nN (a.den - 1)]),(5,b9 [zZ b.num,nN (b.den - 1)]),(7,.aM 2001 3 0 (p.length+1)),(8,.val (.int .i64 (i:Nat)))]/\
  hp=[(2001,iA (nD p a b i))]) p.length ?_ ?_ ?_
 ·kernel_rfl
 ·exact⟨0,rfl,Γ _,rfl,rfl⟩
 rintro m _ _ ⟨i,rfl,hi,rfl,rfl⟩;have li:=lT i;by_cases aE:i<p.length
 ·have t1:=gZ aE;have t2:=bW (i:=i) aa;obtain⟨g1,g2,g3⟩:=sT i hi;have hpi:=hp i aE;have k1:=ze (p.getD i 0) a aa;have fm1:=cH (p.getD i 0) a;have fm2:=cH (p.getD i 0) b;have k2:=sH ((nD p a b i).getD i 0) (p.getD i 0*a) aa;have k3:=ze (p.getD i 0) b aa;have hz:((nD p a b i).set i ((nD p a b i).getD i 0+p.getD i 0*a)).getD (i+1) 0=0:=by rw[fI,if_neg aa];exact g3 _ (gq _)
  have k4:=sH (((nD p a b i).set i ((nD p a b i).getD i 0+p.getD i 0*a)).getD (i+1) 0) (p.getD i 0*b) (by rw[hz,et];omega);have e1:=XH (l:=nD p a b i) (i:=i) aa;have e2:=XH (l:=(nD p a b i).set i ((nD p a b i).getD i 0+p.getD i 0*a)) (i:=i+1) (by rw[ϒ];omega);rw[agu]at e2;have lm:((nD p a b i).map fF).length=p.length+1:=by rw[Χ];exact li
  have cE:iA (nD p a b (i+1))=⟨69,true,.seq 3 ((((nD p a b i).map fF).set i (fF ((nD p a b i).getD i 0+p.getD i 0*a))).set (i+1) (fF (((nD p a b i).set i ((nD p a b i).getD i 0+p.getD i 0*a)).getD (i+1) 0+p.getD i 0*b)))⟩:=by
   rw[iA,nD,agu,agu]
  clear sT g1 g2 g3 hz;refine dY.of hE ?_;conv=>whnf
  have u1:0+(i:Int).toNat=i:=aa;have u2:0+((i+1:Nat):Int).toNat=i+1:=aa
  (repeat((first|refine ag rfl rfl ?_|refine aq aD ?_|refine aX Q3 ?_|refine ao Q3 ?_|refine aN aJ ?_|refine an Q8 ?_|refine an Ar ?_|refine an Q6 ?_|refine pg rfl (ai rfl) (ai rfl) rfl (ez rfl) (congrArg (λc=>some (some _,[c])) e1) (by first|omega|(rw[ϒ];omega)) rfl (ζ _) rfl rfl ?_|refine pg rfl (ai rfl) (ai rfl) rfl (ez rfl) (congrArg (λc=>some (some _,[c])) e2) (by first|omega|(rw[ϒ];omega)) rfl (ζ _) rfl rfl ?_|rw[t1]|rw[u1]|rw[u2]|rw[e1]|rw[e2]|rw[t2]);conv=>whnf))
  refine⟨p.length - (i+1),λk=>k,[0,4,5,7,8],[2001],aa,aD,i+1,rfl,aE,rfl, ?_⟩;rw[cE];rfl
 ·have t1:=iH aE;obtain rfl:i=p.length:=aa;have lm:((nD p a b p.length).map fF).length=p.length+1:=by rw[Χ];exact li
  refine ec 7 2001 (λ_ h=>h) (λ_=>rfl) rfl rfl li.symm ?_;refine dY.of hE ?_;conv=>whnf
  (repeat(first|(refine ae rfl rfl ?_;conv=>whnf)|(refine an Q8 ?_;conv=>whnf)|(rw[t1];conv=>whnf)));exact Q4
theorem NW {n:Nat} {S M:Mx} {t:Rat} {P:List Rat} {m z p:Nat} (hS:dq n S) (hM:dq n M) (h1:∀x,aj n (λi=>x i*x i)<=qf n M x) (hI:cJ n (jb S M t) m z p) (hP:P.length=n+1) (hv:∀x,cM P x=bz n (jb S M x)):
  (nx P t (n+1)).length=n+1/\(uw (nx P t (n+1)) true (n+1)).1=m/\(uw (nx P t (n+1)) false (n+1)).1=p/\(∀j,j<z->(nx P t (n+1)).getD j 0=0)/\(nx P t (n+1)).getD z 0≠0/\z<=n:=by
 have hc:(nx P t (n+1)).length=n+1:=by rw[n0,hP]
 have hS':dq n (jb S M t):=mc hS hM t;have hvc:∀x,cM (nx P t (n+1)) x=bz n (jb (jb S M t) M x):=λx=>by
  have:=NT P t x;rw[hP]at this;rw[this,hv];exact bp λi k _ _=>by unfold jb;grind
 have g1:=My (nx P t (n+1)) true;have g2:=My (nx P t (n+1)) false;rw[hc]at g1 g2;refine⟨hc,g1.trans (Mp hS' hM h1 hc hvc hI),g2.trans (FA hS' hM h1 hc hvc hI),Mn hS' hc hvc hI,XE hS' hM h1 hc hvc hI, ?_⟩;have:=hI.sum;omega
def Ua (T:Nat):Nat->Nat
 |0=>2
 |k+1=>2*Ua T k+T
theorem Is (T:Nat) {k m:Nat} (h:k<=m):Ua T k<=Ua T m:=by
 induction m with
 |zero=>rw[Nat.le_zero.1 h];exact ζ _
 |succ m ih=>
  by_cases e:k=m+1
  ·rw[e];exact ζ _
  ·have:=ih aa;rw[Ua];omega
