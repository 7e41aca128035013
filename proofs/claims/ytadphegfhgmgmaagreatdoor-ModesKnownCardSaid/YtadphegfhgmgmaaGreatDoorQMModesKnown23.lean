/- The texts Oc, Oe, Pb, Qr, Qt, Qu, Ag. -/
import Derived.Test.YtadphegfhgmgmaaGreatDoorQMModesKnown6
import Derived.Test.YtadphegfhgmgmaaGreatDoorQMModesKnown16
import Derived.Test.YtadphegfhgmgmaaGreatDoorQMModesKnown21
import Derived.Test.YtadphegfhgmgmaaGreatDoorQMModesKnown22
import Derived.Test.YtadphegfhgmgmaaGreatDoorQMModesKnown19
import Derived.Test.YtadphegfhgmgmaaGreatDoorQMModesKnown20
import Derived.Test.YtadphegfhgmgmaaGreatDoorQMModesKnown5
set_option linter.unusedSimpArgs false
set_option linter.unusedVariables false
set_option maxHeartbeats 40000000
set_option maxRecDepth 100000
open List renaming getD_eq_getElem?_getD->δ,length_map->Χ,mem_cons->Λ,range->Η
open Nat renaming beq_refl->acZ,le_add_right->alu,le_refl->ζ,le_trans->Ι,not_lt_zero->abe,one_mul->ajk,pow_zero->agF,zero_add->υ
namespace Go.Sx
end Go.Sx
namespace Go.Proofs.YtadphegfhgmgmaaGreatDoor
open Go.Sx
abbrev sC (r c:Int) (a:List Int) (b s:Int):List SV:=[wA r c a,.int b,iv s]
def crZ (a:List Int) (c i k:Nat):Int:=u7 a c 0 0*u7 a c (i+1) (k+1) - u7 a c (i+1) 0*u7 a c 0 (k+1)
theorem acn {a:List Int} {r c i k B:Nat} (h:Zm B a) (ha:a.length=(r+1)*(c+1)) (hi:i<r) (hk:k<c):zs (crZ a (c+1) i k)<=4*B:=by
 have h1:=rJ h ha (i:=0) (k:=0) aa aa;have h2:=rJ h ha (i:=i+1) (k:=k+1) aa aa;have h3:=rJ h ha (i:=i+1) (k:=0) aa aa;have h4:=rJ h ha (i:=0) (k:=k+1) aa aa;have:=acg (u7 a (c+1) 0 0*u7 a (c+1) (i+1) (k+1)) (u7 a (c+1) (i+1) 0*u7 a (c+1) 0 (k+1));have:=RS (u7 a (c+1) 0 0) (u7 a (c+1) (i+1) (k+1));have:=RS (u7 a (c+1) (i+1) 0) (u7 a (c+1) 0 (k+1));unfold crZ;omega
abbrev nxt (r c:Nat) (a:List Int) (b:Int):List Int:=II r c λi k=>crZ a (c+1) i k/b
structure Cs (n s B:Nat) (A0:Mz) (a:List Int) (b:Int) (w:Nat):Prop where
 le:s<=n
 ex:∃A:Mz,a=II (n - s) (n - s) (AX s A)/\b=jD s A/\b≠0/\jD n A0=Oc w*jD n A
 z:Zm (B*4^s) a
 zb:zs b<=B*4^s
 w:w<=s
theorem Cs.start {n B:Nat} {a:List Int} (ha:a.length=n*n) (hB:2<=B) (h:Zm B a):Cs n 0 B (u7 a n) a 1 0 where
 le:=Nat.zero_le _
 ex:=⟨u7 a n,by rw[<-RV ha,Nat.sub_zero];exact xD λi k hi hk=>by rw[Qc,xC hi hk],rfl,ax,by rw[Oc,Int.one_mul]⟩
 z:=by rw[agF,Nat.mul_one];exact h
 zb:=by rw[ahA];omega
 w:=ζ _
theorem Cs.fin {n B:Nat} {A0:Mz} {a:List Int} {b:Int} {w:Nat} (h:Cs n n B A0 a b w):jD n A0=if w % 2=1 then -b else b:=by
 obtain⟨A,_,rfl,_,e⟩:=h.ex;rw[e,yV];split<;>omega
theorem Cs.none {n s B:Nat} {A0:Mz} {a:List Int} {b:Int} {w:Nat} (h:Cs n s B A0 a b w) (hs:s<n) (h0:∀i,i<n - s->u7 a (n - s) i 0=0):jD n A0=0:=by
 obtain⟨A,rfl,rfl,hb,e⟩:=h.ex;rw[e,Qe hb hs λi hi=>by have:=h0 i aa;rwa [xC aa aa]at this,Int.mul_zero]
theorem Cs.aeW {n s B:Nat} {A0:Mz} {a:List Int} {b:Int} {w j:Nat} (h:Cs n s B A0 a b w) (hj:s+j<n):
  ∃w',w'=(if 0<j then w+1 else w)/\(∃A:Mz,II (n - s) (n - s) (lj (u7 a (n - s)) 0 j)=II (n - s) (n - s) (AX s A)/\b=jD s A/\b≠0/\jD n A0=Oc w'*jD n A)/\Zm (B*4^s) (II (n - s) (n - s) (lj (u7 a (n - s)) 0 j)):=by
 obtain⟨A,ha,hb,hb0,e⟩:=h.ex;have hl:a.length=(n - s)*(n - s):=by rw[ha,wE]
 refine⟨_,rfl,⟨lj A s (s+j), ?_, ?_,hb0, ?_⟩, ?_⟩
 ·refine xD λp q hp hq=> ?_
  rw[Qf];have e2:∀p,p<n - s->u7 a (n - s) p q=AX s A p q:=λp hp=>by rw[ha,xC hp hq]
  unfold lj;by_cases h1:p=0
  ·rw[if_pos h1,if_pos h1,e2 j aa]
  ·rw[if_neg h1,if_neg h1];by_cases h2:p=j
   ·rw[if_pos h2,if_pos h2,e2 0 aa]
   ·rw[if_neg h2,if_neg h2,e2 p hp]
 ·rw[AY,hb]
 ·by_cases g:0<j
  ·rw[if_pos g,Nl A aa hj aa,Oc,e,Int.neg_mul_neg]
  ·rw[if_neg g,show s+j=s by omega,JE,e]
 ·refine Zk λp q hp hq=> ?_
  unfold lj;split
  ·exact rJ h.z hl aa hq
  ·split
   ·exact rJ h.z hl aa hq
   ·exact rJ h.z hl hp hq
theorem Cs.next {n s B:Nat} {A0:Mz} {a:List Int} {b:Int} {w:Nat} (hs:s<n) (hw:w<=s+1) (hz:Zm (B*4^s) a) (hx:∃A:Mz,a=II (n - s) (n - s) (AX s A)/\b=jD s A/\b≠0/\jD n A0=Oc w*jD n A) (h0:u7 a (n - s) 0 0≠0):
  Cs n (s+1) B A0 (nxt (n - (s+1)) (n - (s+1)) a b) (u7 a (n - s) 0 0) w:=by
 obtain⟨A,ha,hb,hb0,e⟩:=hx;have hl:a.length=(n - s)*(n - s):=by rw[ha,wE]
 have hn:n - s=n - (s+1)+1:=aa;have e2:∀p q,p<n - s->q<n - s->u7 a (n - s) p q=AX s A p q:=λp q hp hq=>by rw[ha,xC hp hq]
 have afr:B*4^(s+1)=4*(B*4^s):=by rw[Nat.pow_succ];rw[<-Nat.mul_assoc,Nat.mul_comm]
 refine⟨hs,⟨A, ?_, ?_,h0,e⟩, ?_, ?_,hw⟩
 ·refine xD λi k hi hk=> ?_
  rw[crZ,<-hn,e2 0 0 aa aa,e2 (i+1) (k+1) aa aa,e2 (i+1) 0 aa aa,e2 0 (k+1) aa aa,hb];exact VY (by rwa [hb]at hb0) i k
 ·rw[e2 0 0 aa aa,Nk]
 ·rw[afr];refine Zk λi k hi hk=>Ι (ach _ _) ?_
  exact acn hz (by rw[hl,hn]) hi hk
 ·rw[afr];have:=rJ hz hl (i:=0) (k:=0) aa aa;omega
end Go.Proofs.YtadphegfhgmgmaaGreatDoor
namespace Go.Sx
theorem Sj {E:Env} {c:Code} {K:bF} {fr fr1:List (Nat×SV)} {hp hp1:List (Nat×aC)} (h:∀K':bF,K' .normal fr1 hp1->dY E c K' fr hp) (hk:K .normal fr1 hp1):dY E c K fr hp:=h K hk
end Go.Sx
namespace Go.Proofs.YtadphegfhgmgmaaGreatDoor
open Go.Sx
theorem L3 {E:Env} (t:Nat) (ts ks:List Nat) {fr:List (Nat×SV)} {hp:List (Nat×aC)} {m:Nat} (hW:∀b,¬E.W0 b) (ht:lk fr t=some (.ptr 1001 0 0 0)) (h1:find hp 1001=some (wzB m))
  (M3:ek ks fr ts=true) (PJ:dI ks hp ks=true) (hn3:(ud (λk=>k) ks&&vz (λk=>k) ks E.fx)=true) (hb:Xe ks=true) (hE:E.OK):
  ∀a w,RR E (fn fr hp) a w->RR E (fn ((t,J4 0 m 0 (λ_=>[]) [] 1)::fC (λk=>k) ((t,J4 0 m 0 (λ_=>[]) [] 1)::fr) ts) (nV hp ks)) a w:=by
 intro a w hR;have q9:∀k∈ks,k<1000:=λk hk=>by simpa [Nat.blt_eq]using List.all_eq_true.1 hb k hk
 have r4:=nh t 1001 hW ht rfl rfl (sE h1 (λ_ z hz=>Sa z hz) hR);generalize hq:fi _ 1001 _=HH at r4;have s7:∀k∈ks,find HH k=find hp k:=λk hk=>by
  have:=q9 k hk;rw[<-hq,bS,if_neg aa,kH aa]
 have BY:iK E.fx (λk=>k) (t::ts) ks ((t,J4 0 m 0 (λ_=>[]) [] 1)::fr) HH=true:=by
  refine jX ?_ (by rw[mj s7];exact PJ) hn3;rw[ek];simp only[lk,acZ];rw[jg M3];rfl
 have r5:=px hE BY r4;rw[o9,p8 s7]at r5;rw[fC]at r5;simp only[lk,acZ]at r5;exact r5
theorem afs (W:Mx):∀c,ry 0 c ⟨W,[],1⟩=⟨W,[],1⟩
 |0=>rfl
 |c+1=>by rw[xk,afs W c];rfl
abbrev Fi (r c:Nat) (W:Mx):St:=ni r c ⟨W,[],1⟩
abbrev Fj (c:Nat) (a:List Rat):Mx:=qD a c λ_ _=>0
theorem Dy {c:Nat} {W:Mx} {s:St} (hs:Fi 0 c W=s):s.bP=[]/\s.d=1:=by
 have h:=jf 0 W c;rw[show ni 0 c ⟨W,[],1⟩=s from hs,afs]at h;exact⟨h.bP,h.d⟩
theorem Xk {r n c:Nat} {w:Mx} (f:Nat) (h:f+n<=c):mk r n (λi k=>(bq c w i).getD (f+k) 0)=mk r n λi k=>w i (f+k):=mk_congr λi k _ hk=>dr aa
theorem zp {r c A:Nat} {a:List Rat} (ha:fa r c a) (sa:Sm A a):∀i q,i<r->q<c+0->fs (Fj c a i q)<=A:=Se ha sa λi k _ hk=>absurd hk (abe _)
theorem Sk {r c A:Nat} {a:List Rat} (ha:fa r c a) (hr:r<=6) (hc:c<=40) (sa:Sm A a) (h2:2<=A) (hA:4096*A<=4398046511104) {s:St} (hs:Fi r c (Fj c a)=s):
  C0 83 [mA r c a] (.bQ [mA r c (mk r c s.w),gP .i64 (s.bP.map yD),iv 0]):=by
 have k1:=cO ha;have MS:=zp ha sa;have k4:=acj (r:=r) (m:=c) (c:=c+0) (n:=c) (M:=bq (c+0) s.w) (pv:=s.bP.map yD) (d:=s.d) (λi _=>dm _ _) 0 aa aa aa;rw[Xk 0 aa]at k4;simp only[υ]at k4;refine kg [1,100004] Tryz.func83 ?_;intro w0 ρ0 hE;conv=>whnf
 (repeat((first|refine ae rfl rfl ?_|refine aN aJ ?_|rw[bne_self_eq_false]|refine an Q6 ?_);conv=>whnf))
 refine Sj (fr1:=[(6,J4 r c (c+0) (bq (c+0) s.w) (s.bP.map yD) s.d),(1,b9 (mC r c a)),(2,.ptr 2 0 0 0),(3,.val (.slice none 0 0)),(4,iv 0)]) (hp1:=[(2,zM)]) (λK hK=> ?_) ?_
 case refine_2=>
  conv=>whnf
  (repeat((first|refine aq aD ?_|refine aN aJ ?_|refine an Q6 ?_|refine an Q9 ?_|refine an Pg ?_);conv=>whnf));exact Q4
 rcases(show r=0\/1<=r by omega)with e0|e0
 ·subst e0;obtain⟨vD,w8⟩:=Dy hs;have kz:=xG (c:=c) 0 a 110 ha;have k3:=xH c aa;rw[vD,w8]at hK;refine zo hE 100 ?_;conv=>whnf
  (repeat(first|(refine oe aJ rfl ?_;conv=>whnf)|(refine an Q6 ?_;conv=>whnf)|(refine Co k3 Vm ar ?_;conv=>whnf)))
  exact⟨_,_,L3 6 [1,2,3,4] [2] (λ_ h=>h) rfl rfl aD aD aD rfl hE,hK⟩
 ·have k2:=BB (r:=r) 0 a (λ_ _=>0) 110 hr e0 ha hc aa (λi k hi hk=>absurd hk (abe _));have k3:=xF (r:=r) c (c+0) A (Fj c a) s hr e0 (alu _ _) aa MS h2 hA hs;have uz:(s.bP.map yD).length=s.bP.length:=Χ _;rcases(show r=1\/r=2\/r=3\/r=4\/r=5\/r=6 by omega)with e1|e1|e1|e1|e1|e1
  all_goals
   rw[e1]at k2 k3 hK;rw[e1];refine zo hE 100 ?_;conv=>whnf
   (repeat((first|refine an Q6 ?_|refine⟨[],_,_,[],k2,aF,Q26,ar, ?_⟩|refine⟨hpH _ _ _ _,_,_,_,k3,(by repeat(first|exact get_nil|refine cI rfl ?_)),Q26,jd rfl rfl, ?_⟩|rw[υ]);conv=>whnf))
   exact⟨_,_,Fg (M:=bq _ s.w) 6 [1,2,3,4] [2] (λ_ h=>h) rfl rfl rfl rfl (by intro j hj;rcases(show j=0\/j=1\/j=2\/j=3\/j=4\/j=5 by omega)with e|e|e|e|e|e<;>first|omega|(subst e;exact⟨rfl,(dm _ _).symm⟩)) uz.symm aD aD aD rfl ax hE,hK⟩
theorem aco {r c A:Nat} {a:List Rat} (ha:fa r c a) (hr:r<=6) (hc:c<=40) (sa:Sm A a) (h2:2<=A) (hA:4096*A<=4398046511104) {s:St} (hs:Fi r c (Fj c a)=s):
  C0 30 [mA r c a] (.bQ [iv s.bP.length,iv 0]):=by
 have k1:=Sk ha hr hc sa h2 hA hs;have uz:(s.bP.map yD).length=s.bP.length:=Χ _;refine kg [1] Tryz.func30 ?_;intro w0 ρ0 hE;conv=>whnf
 (repeat((first|refine aN aJ ?_|refine an Q8 ?_|refine an Q6 ?_|rw[uz]);conv=>whnf));exact Q4
theorem Sl (r c:Nat) (W:Mx) {s:St} (hs:Fi r c W=s):s.bP.length<=r/\∀j,j<s.bP.length->s.bP.getD j 0<c:=by
 have h:=jf r W c;rw[show ni r c ⟨W,[],1⟩=s from hs]at h;have hi:=Inv.red (r:=r) (W:=W) c;exact⟨h.le,λj hj=>by rw[h.bP]at hj ⊢;exact hi.lt j hj⟩
theorem Sn {r c A:Nat} {a:List Rat} (ha:fa r c a) (hr:r<=6) (hc:c<=40) (sa:Sm A a) (h2:2<=A) (hA:4096*A<=4398046511104) {s:St} (hs:Fi r c (Fj c a)=s):
  C0 48 [mA r c a] (.bQ [bN 1 bx ((cn s.bP c).map (FP (bq (c+0) s.w) s.bP c)),iv 0]):=by
 have k1:=cO ha;have MS:=zp ha sa;obtain⟨iT,iD⟩:=Sl r c _ hs;have k4:=Sd (r:=r) (m:=c) (c:=c+0) (M:=bq (c+0) s.w) (sp:=s.bP) (d:=s.d) (λi _=>dm _ _) aa aa aa iT iD;refine kg [1,100004] Tryz.func48 ?_;intro w0 ρ0 hE;conv=>whnf
 (repeat((first|refine ae rfl rfl ?_|refine aN aJ ?_|rw[bne_self_eq_false]|refine an Q6 ?_);conv=>whnf))
 rcases(show r=0\/1<=r by omega)with e0|e0
 ·subst e0;obtain⟨vD,w8⟩:=Dy hs;have kz:=xG (c:=c) 0 a 110 ha;have k3:=xH c aa;rw[vD,w8]at k4;rw[vD];refine zo hE 3 ?_;conv=>whnf
  (repeat(first|(refine oe aJ rfl ?_;conv=>whnf)|(refine an Q6 ?_;conv=>whnf)|(refine Co k3 Vm ar ?_;conv=>whnf)))
  refine⟨_,_,L3 12 [1,2,3] [] (λ_ h=>h) rfl rfl aD aD aD rfl hE, ?_⟩;conv=>whnf
  (repeat(first|(refine aN aJ ?_;conv=>whnf)));exact Q4
 ·have k2:=BB (r:=r) 0 a (λ_ _=>0) 110 hr e0 ha hc aa (λi k hi hk=>absurd hk (abe _));have k3:=xF (r:=r) c (c+0) A (Fj c a) s hr e0 (alu _ _) aa MS h2 hA hs;have uz:(s.bP.map yD).length=s.bP.length:=Χ _;rcases(show r=1\/r=2\/r=3\/r=4\/r=5\/r=6 by omega)with e1|e1|e1|e1|e1|e1
  all_goals
   rw[e1]at k2 k3 k4;rw[e1];refine zo hE 3 ?_;conv=>whnf
   (repeat((first|refine an Q6 ?_|refine⟨[],_,_,[],k2,aF,Q26,ar, ?_⟩|refine⟨hpH _ _ _ _,_,_,_,k3,(by repeat(first|exact get_nil|refine cI rfl ?_)),Q26,jd rfl rfl, ?_⟩|rw[υ]);conv=>whnf))
   refine⟨_,_,Fg (M:=bq _ s.w) 12 [1,2,3] [] (λ_ h=>h) rfl rfl rfl rfl (by intro j hj;rcases(show j=0\/j=1\/j=2\/j=3\/j=4\/j=5 by omega)with e|e|e|e|e|e<;>first|omega|(subst e;exact⟨rfl,(dm _ _).symm⟩)) uz.symm aD aD aD rfl ax hE, ?_⟩;conv=>whnf
   (repeat(first|(refine aN aJ ?_;conv=>whnf)));exact Q4
theorem Inv.agree {r c:Nat} {W:Mx} {s t:St} (h:Inv r W c t) (ha:LS r s t):Inv r W c s:=by
 obtain⟨sw,sp,sd⟩:=s;obtain⟨tw,tp,td⟩:=t;obtain⟨rfl,rfl,hw,hl⟩:=ha;simp only at hw hl;obtain⟨P,hP,hP2⟩:=h.Y0
 exact⟨h.len,h.lt,h.inc,λj hj i hi=>by show sw i _=_;rw[hw i hi];exact h.unit j hj i hi,λi hi q hq=>by show sw i q=0;rw[hw i (Nat.lt_of_lt_of_le hi h.len)];exact h.left i hi q hq,
  λi h1 h2 q hq=>by show sw i q=0;rw[hw i h2];exact h.low i h1 h2 q hq,P,hP,λi hi q=>by show sw i q=_;rw[hw i hi];exact hP2 i hi q⟩
theorem BD (r c:Nat) (W:Mx):Inv r W c (Fi r c W):=(Inv.red (r:=r) (W:=W) c).agree (jf r W c)
theorem Sp {r c A k:Nat} {s:St} (h:Zi r c A s) (hl:s.bP.length<=r) (hk:k<c):Zi r c A (iB r s k):=by
 obtain⟨sw,sp,sd⟩:=s
 replace hl:sp.length<=r:=hl
 unfold iB;simp only;cases hq:jE sw k (r - sp.length) sp.length with
 |none=>exact h
 |some i=>have hs:=sf hq;exact h.step hk aa aa
theorem L4 {r c A:Nat} {W:Mx} (hA:∀i q,i<r->q<c->fs (W i q)<=A) (h2:2<=A):∀m,m<=c->Zi r c A (Fi r m W)
 |0,_=>⟨λi q hi hq=>by show fs (W i q)<=4^0*A;rw[agF,ajk];exact hA i q hi hq,by show fs 1<=4^0*A;rw[agF,ajk,jv];exact h2⟩
 |m+1,hm=>by
  show Zi r c A (ni r (m+1) ⟨W,[],1⟩);rw[p6];exact Sp (L4 hA h2 m aa) (jf r W m).le hm
theorem Xl {p r:Nat} (A:Nat) (h:p<=r) (hr:r<=6):4^p*A<=4096*A:=Nat.mul_le_mul_right A (Nat.pow_le_pow_right (n:=4) ax (show p<=6 by omega))
theorem HR {r m c A:Nat} {W:Mx} (hA:∀i q,i<r->q<c->fs (W i q)<=A) (h2:2<=A) (hr:r<=6) (hm:m<=c):(∀i q,i<r->q<c->fs ((Fi r m W).w i q)<=4096*A)/\fs (Fi r m W).d<=4096*A:=by
 have h:=L4 hA h2 m hm;have hl:=Xl A (jf r W m).le hr;exact⟨λi q hi hq=>Ι (h.w i q hi hq) hl,Ι h.d hl⟩
theorem J8 {r c:Nat} {a:List Rat} {b:Mx}:∀i q,i<r->q<c->qD a c b i q=el a c i q:=λi q _ hq=>by unfold qD;rw[if_pos hq]
section
variable {r c A:Nat} {a:List Rat} (ha:fa r c a) (hr:r<=6) (hc:c<=40) (sa:Sm A a) (h2:2<=A) (hA:4096*A<=4398046511104)
include ha hr sa h2
theorem acp:∀i q,i<r->q<c->fs (RW r c a i q)<=4096*A:=λi q hi hq=>by
 have h:=(HR (r:=r) (m:=c) (zp ha sa) h2 hr (ζ c)).1 i q hi hq;rwa [((BD r c (Fj c a)).eI J8).2 i q hi hq]at h
theorem aft {i:Nat} (hi:i<(KL r c a).length):Sm (4096*A) ((KL r c a).getD i []):=by
 intro q hq;rw[Lq hi]at hq;rcases abD hi hq with h|h|⟨j,k,hj,hk,h⟩
 ·rw[h,et];omega
 ·rw[h,jv];omega
 ·rw[h,ju];exact acp ha hr sa h2 j k hj hk
omit sa h2
include hc sa h2 hA
theorem L5:C0 30 [mA r c a] (.bQ [iv (eI r c a).length,iv 0]):=by
 have k:=aco ha hr hc sa h2 hA rfl;rwa [((BD r c (Fj c a)).eI J8).1]at k
theorem NN:C0 48 [mA r c a] (.bQ [bN 1 bx (KL r c a),iv 0]):=by
 have k:=Sn ha hr hc sa h2 hA rfl;rwa [aeM (BD r c (Fj c a)) J8 λj _ k hk=>dr aa]at k
section
variable {b:List Rat} (hb:b.length=r) (sb:Sm A b)
include hb sb
end
end
section
variable {r A:Nat} {a:List Rat} (ha:fa r r a) (hr:r<=6) (sa:Sm A a) (h2:2<=A) (hA:4096*A<=4398046511104)
include ha hr sa h2 hA
end
theorem acq {n A:Nat} {a:List Rat} (ha:fa n n a) (hn:n<=6) (sa:Sm A a) (h2:2<=A):fs (bz n (el a n))<=4096*A:=by
 have hd:=HP (qD a n λ_ _=>0) (s:=ni n n ⟨qD a n λ_ _=>0,[],1⟩) rfl;rw[LZ _ _ (ζ _)]at hd;rw[<-hd];split
 ·rw[et];omega
 ·exact(HR (c:=n) (zp ha sa) h2 hn (ζ n)).2
def Og (o:Nat):Nat->List Rat->List Rat
 |0,v=>v
 |j+1,v=>Og o j (v.set (o+j) ((v.getD (o+j) 0 - v.getD (o+j - 1) 0)/((o:Int):Rat)))
def IJ (n:Nat):Nat->List Rat->List Rat
 |0,v=>v
 |k+1,v=>IJ n k (Og (n - k) (k+1) v)
def L6 (t:Nat):Nat->List Rat->List Rat
 |0,w=>w
 |j+1,w=>L6 t j (w.set j (if 0<j then w.getD j 0*((-(t:Int):Int):Rat)+w.getD (j - 1) 0 else w.getD j 0*((-(t:Int):Int):Rat)))
def FQ (n:Nat) (v:List Rat):Nat->List Rat->List Rat
 |0,w=>w
 |k+1,w=>FQ n v k ((L6 k (n+1) w).set 0 ((L6 k (n+1) w).getD 0 0+v.getD k 0))
def Fk (n:Nat) (a m:List Rat):List Rat:=(Η (n+1)).map λt=>bz n (el (mk n n (iC n a m (((t:Nat):Int):Rat))) n)
def wH (n:Nat) (a m:List Rat):List Rat:=FQ n (IJ n n (Fk n a m)) (n+1) (List.replicate (n+1) 0)
theorem HS (n:Nat) (a m:List Rat):(Fk n a m).length=n+1:=by simp[Fk]
theorem HT {n t:Nat} {a m:List Rat} (h:t<n+1):(Fk n a m).getD t 0=bz n (el (mk n n (iC n a m (((t:Nat):Int):Rat))) n):=by simp[Fk,δ,h]
theorem Sq {o t:Nat} {v:List Rat} (h1:1<=o) (h:o<=t):Og o (t+1 - o) v=Og o (t - 1+1 - o) (v.set t ((v.getD t 0 - v.getD (t - 1) 0)/((o:Int):Rat))):=by
 obtain⟨j,rfl⟩:∃j,t=o+j:=⟨t - o,aa⟩;rw[show o+j+1 - o=j+1 by omega,show o+j - 1+1 - o=j by omega,Og]
theorem acr {B p:Nat} {v:List Rat} (h:Sm B v) (hB:2<=B):fs (v.getD p 0)<=B:=by
 by_cases hp:p<v.length
 ·exact h p hp
 ·rw[δ,List.getElem?_eq_none aa];have:fs (0:Rat)<=B:=by rw[et];exact hB
  exact this
theorem Sr {r n k:Nat} {X:Mx} {b:aC} (hk:k<1000):∀j c,(j,c)∈qC r n X->find [(k,b)] j=none:=by
 intro j c hm;have hj:1001<=j:=by
  rcases Λ.1 hm with e|hm
  ·cases e;exact ζ _
  ·rcases Λ.1 hm with e|hm
   ·cases e;decide
   ·obtain⟨q,_,_,rfl,_⟩:=fO.1 hm;omega
 rw[fN aa];rfl
theorem Xm {n:Nat} (X:Mx) (i k:Nat) (hi:i<n) (hk:k<n) (hn:n<=5):C0 66 ([]++([iv (i:Nat),iv (k:Nat)]++[b9 [Xg n ((Η n).map (bq n X))]])) (.frac (X i k)):=by
 have e1:((Η n).map (bq n X)).getD i []=bq n X i:=by simp[δ,hi]
 have e2:(bq n X i).getD k 0=X i k:=dr hk;have l1:((Η n).map (bq n X)).length=n:=by simp
 have l2:(bq n X i).length=n:=dm _ _;generalize bq n X i=R at*;generalize (Η n).map (bq n X)=L at*;have hiL:i<L.length:=aa;have hkR:k<R.length:=aa;refine bB [] Tryz.func66 ?_;intro W0 w0 ρ0 hE;conv=>whnf
 (repeat((first|refine an Ar ?_|refine an Q6 ?_|refine an IG ?_|refine an Q9 ?_|refine an Pg ?_|rw[e1]|rw[e2]);conv=>whnf));exact Q4
