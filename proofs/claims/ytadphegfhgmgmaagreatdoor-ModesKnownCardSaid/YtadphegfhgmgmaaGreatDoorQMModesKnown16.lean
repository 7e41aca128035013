/- The texts Mk, Mm, Mo, Mq, Mr, Oa, Mv, Mw, Ad, Aj. -/
import Derived.Test.YtadphegfhgmgmaaGreatDoorQMModesKnown15
import Derived.Test.YtadphegfhgmgmaaGreatDoorQMModesKnown13
import Derived.Test.YtadphegfhgmgmaaGreatDoorQMModesKnown6
import Derived.Test.YtadphegfhgmgmaaGreatDoorQMModesKnown7
import Derived.Test.YtadphegfhgmgmaaGreatDoorQMModesKnown5
set_option linter.unusedSimpArgs false
set_option linter.unusedVariables false
set_option maxHeartbeats 40000000
set_option maxRecDepth 100000
open Int renaming le_refl->ahG,natCast_pow->ae1,pow_pos->alq,pow_succ->ϫ
open List renaming getD_eq_getElem?_getD->δ,getElem?_eq_getElem->φ,mem_cons->Λ
open Nat renaming le_refl->ζ,le_trans->Ι,lt_or_ge->Ϝ,pow_lt_pow_right->akL
open Rat renaming div_def->Ϡ,intCast_pow->alL,mul_one->alx,one_mul->ahW,pow_succ->ace
namespace Go.Proofs.YtadphegfhgmgmaaGreatDoor
open Go.Sx
abbrev RP:aC:=⟨123,true,.one [iv (0:Nat),.val (.slice none 0 0)]⟩
theorem Bz (a m:List Rat) (t:Rat):aL Tryz.prog 56 [mA (0:Nat) (0:Nat) a,mA (0:Nat) (0:Nat) m,.frac t] [] (.ptr 1001 0 0 0) [(1001,RP)] []:=by
 refine Bv (Z:=[3,4,5]) aH bC Tryz.func56 rfl aD (jz.of rfl rfl rfl rfl rfl rfl rfl rfl rfl rfl rfl) rfl (bl.id rfl) ?_;intro W0 w0 ρ0 hE;conv=>whnf
 (repeat(first|(refine an Q6 ?_;conv=>whnf)|(refine an Q9 ?_;conv=>whnf)))
 refine av hE (λk=>cond (Nat.beq k 14) 1001 k) [3,4,5,7,16,17] [14] (λ_ fr hp=>fr=[(3,b9 (mC (0:Nat) (0:Nat) a)),(4,b9 (mC (0:Nat) (0:Nat) m)),(5,b9 [.frac t]),(7,.ptr 1001 0 0 0),(16,iv (0:Nat)),(17,iv (0:Nat))]/\hp=[(1001,RP)]) 0 ?_ ?_ ?_
 ·kernel_rfl
 ·exact⟨rfl,rfl⟩
 rintro m' _ _ ⟨rfl,rfl⟩;conv=>whnf
 (repeat(first|(refine ae rfl rfl ?_;conv=>whnf)))
 exact⟨au.refl _,by repeat(first|exact get_nil|refine cI rfl ?_),get_nil⟩
theorem BA:aL Tryz.prog 57 [.ptr 1001 0 0 0] [(1001,RP)] (.agg [iv (0:Nat),iv (0:Nat),iv (0:Nat)]) [] [(1001,RP)]:=by
 refine rH (Z:=[]) aH bC Tryz.func57 rfl aD (cb.of rfl rfl rfl rfl rfl rfl rfl rfl rfl rfl rfl) rfl ?_;intro W0 w0 ρ0 hE;conv=>whnf
 (repeat(first|(refine ao Q3 ?_;conv=>whnf)|(rw[Int.toNat_natCast];conv=>whnf)|(rw[Nat.zero_add];conv=>whnf)))
 refine av hE (λk=>k) [0,2,3,4] [2,15,1001] (λ_ fr hp=>fr=[(0,.ptr 1001 0 0 0),(2,.ptr 2 0 0 0),(3,.aM 15 1 0 0),(4,iv (0:Nat))]/\hp=[(2,⟨108,true,.one [iv (0:Nat),iv (0:Nat),iv (0:Nat)]⟩),(15,⟨4,true,.seq 1 []⟩),(1001,RP)]) 0 ?_ ?_ ?_
 ·kernel_rfl
 ·exact⟨rfl,rfl⟩
 rintro m' _ _ ⟨rfl,rfl⟩;conv=>whnf
 (repeat(first|(refine ae rfl rfl ?_;conv=>whnf)|(refine ao Q3 ?_;conv=>whnf)))
 exact⟨au.refl _,get_nil,by repeat(first|exact get_nil|refine cI rfl ?_)⟩
def aB (n:Nat) (a m:List Rat) (t:Rat):IS:=lp n n (oh n (iC n a m t))
abbrev cnV (s:IS):SV:=.agg [iv s.m,iv s.left,iv s.p]
theorem W6 {r n:Nat} {X:Mx} {b:aC}:∀j c,(j,c)∈qC r n X->find [(6,b)] j=none:=by
 intro j c hm;have hj:1001<=j:=by
  rcases Λ.1 hm with e|hm
  ·cases e;exact ζ _
  ·rcases Λ.1 hm with e|hm
   ·cases e;decide
   ·obtain⟨q,_,_,rfl,_⟩:=fO.1 hm;omega
 rw[fN aa];rfl
theorem Fe {n:Nat} (A:Nat) (a m:List Rat) (t:Rat) (hn:n<=5) (ha:fa n n a) (hm:fa n n m) (EL:dq n (iC n a m t)) (h2:2<=A) (hM:A<=80000)
  (hA:∀i q,i<n->q<n->fs (a.getD (i*n+q) 0)+(fs t+fs (m.getD (i*n+q) 0))<=A):
  C0 75 [mA n n a,mA n n m,.frac t] (cnV (aB n a m t)):=by
 obtain⟨F,hF⟩:∃F,aB n a m t=F:=⟨_,rfl⟩;rw[hF];have hB:∀i q,i<n->q<n->fs (iC n a m t i q)<=A:=λi q hi hq=>by
  have h1:=hA i q hi hq;have h2:=rh (a.getD (i*n+q) 0) (t*m.getD (i*n+q) 0);have h3:=cH t (m.getD (i*n+q) 0);show fs (a.getD (i*n+q) 0 - t*m.getD (i*n+q) 0)<=A;omega
 obtain⟨r,hrn⟩:∃r,r=n:=⟨_,rfl⟩;by_cases h0:r=0
 ·obtain rfl:n=0:=aa;have kb:=Bz a m t;have ki:=BA;obtain rfl:F=oh 0 (iC 0 a m t):=hF.symm;refine bB [3,4,5] Tryz.func75 ?_;intro W0 w0 ρ0 hE;conv=>whnf
  (repeat(first|(refine oe aJ rfl ?_;conv=>whnf)|(refine x0 aJ rfl rfl ?_;conv=>whnf)|(refine an Q6 ?_;conv=>whnf)));exact Q4
 ·have kb:=wD (r:=r) a m t hrn aa aa ha hm (λi q hi hq=>by have:=hA i q hi hq;omega);have ki:=sJ (r:=r) A (iC n a m t) F hrn aa aa EL hB h2 hM hF;rcases(show r=1\/r=2\/r=3\/r=4\/r=5 by omega)with e1|e1|e1|e1|e1
  all_goals
   rw[e1]at kb ki;refine bB [3,4,5] Tryz.func75 ?_;intro W0 w0 ρ0 hE;conv=>whnf
   (repeat(first|(refine an Q6 ?_;conv=>whnf)|(refine⟨[],_,qC _ n _,[],kb,aF,W6,ar, ?_⟩;conv=>whnf)|(refine⟨qC _ n _,_,[],qC _ n _,ki,uU rfl rfl (λj hj=>by(rcases(show j=0\/j=1\/j=2\/j=3\/j=4 by omega)with h|h|h|h|h)<;>first|(exfalso;omega)|(subst h;rfl)),ak,p5, ?_⟩;conv=>whnf)));exact Q4
structure HJ (n:Nat) (a:List Rat):Prop where
 ok:fa n n a
 sym:a=fZ n n a
structure uu (n A:Nat) (a m:List Rat):Prop where
 n5:n<=5
 sa:HJ n a
 sm:HJ n m
 afj:dq n (iC n m m 0)
 h2:2<=A
 hM:A<=80000
 sz:∀i q,i<n->q<n->fs (m.getD (i*n+q) 0)<=A
 pos:(aB n m m 0).p=n
theorem sK {n:Nat} {a:List Rat} (h:HJ n a):C0 51 [mA n n a] (.val (.bool true)):=by
 have:=rE h.ok;rwa [show qp n n n n a (fZ n n a)=true from by unfold qp;rw[<-h.sym];simp]at this
theorem dL {n A:Nat} {a m:List Rat} (h:uu n A a m):C0 14 [mA n n a,mA n n m] (iv 0):=by
 have k1:=cO h.sa.ok;have k2:=cO h.sm.ok;have k3:=sK h.sa;have k4:=sK h.sm;have hn:=h.n5;have jh:=h.pos;have hB:∀i q,i<n->q<n->fs (iC n m m 0 i q)<=A:=λi q hi hq=>by
  show fs (m.getD (i*n+q) 0 - 0*m.getD (i*n+q) 0)<=A;rw[show m.getD (i*n+q) 0 - 0*m.getD (i*n+q) 0=m.getD (i*n+q) 0 by grind];exact h.sz i q hi hq
 obtain⟨F,hF⟩:∃F,aB n m m 0=F:=⟨_,rfl⟩;rw[hF]at jh;have t1:decide (((n:Nat):Int)>64)=false:=decide_eq_false aa;obtain⟨r,hrn⟩:∃r,r=n:=⟨_,rfl⟩;by_cases h0:r=0
 ·obtain rfl:n=0:=aa;have kb:=Bz m m 0;have ki:=BA;refine bB [2,3] Tryz.func14 ?_;intro W0 w0 ρ0 hE;conv=>whnf
  (repeat((first|refine ag rfl rfl ?_|refine ae rfl rfl ?_|refine aq aD ?_|refine aN aJ ?_|refine oe aJ rfl ?_|refine x0 aJ rfl rfl ?_|refine an dZ ?_|rw[bne_self_eq_false]|refine an Q6 ?_|refine an Q9 ?_|refine⟨_,[],[],eG rfl (ai rfl) (l:=[.int .i64 _,.int .i64 _,.int .i64 _]) rfl (ai rfl) (dz.get (t:=108) aH rfl) rfl (dz.get (t:=3) aH rfl) rfl rfl ax ax (v:=.int .i64 _) rfl rfl,aF,ak, ?_⟩);conv=>whnf));exact Q4
 ·have kb:=wD (r:=r) m m 0 hrn aa aa h.sm.ok h.sm.ok (λi q hi hq=>by have:=h.sz i q hi hq;have:=et;have:=h.hM;omega);have ki:=sJ (r:=r) A (iC n m m 0) F hrn aa aa h.afj hB h.h2 h.hM hF;rw[jh]at ki;rcases(show r=1\/r=2\/r=3\/r=4\/r=5 by omega)with e1|e1|e1|e1|e1
  all_goals
   rw[e1]at kb ki;refine bB [2,3] Tryz.func14 ?_;intro W0 w0 ρ0 hE;conv=>whnf
   (repeat(first|(refine ag rfl rfl ?_;conv=>whnf)|(refine ae rfl rfl ?_;conv=>whnf)|(refine aq aD ?_;conv=>whnf)|(refine aN aJ ?_;conv=>whnf)|(refine an dZ ?_;conv=>whnf)|(rw[bne_self_eq_false];conv=>whnf)|(refine aG t1 ?_;conv=>whnf)|(refine an Q6 ?_;conv=>whnf)|(refine an Q9 ?_;conv=>whnf)|(refine⟨[],_,qC _ n _,[],kb,aF,(λ_ _ _=>rfl),ar, ?_⟩;conv=>whnf)|(refine⟨qC _ n _,_,[],qC _ n _,ki,uU rfl rfl (λj hj=>by(rcases(show j=0\/j=1\/j=2\/j=3\/j=4 by omega)with h|h|h|h|h)<;>first|(exfalso;omega)|(subst h;rfl)),ak,p5, ?_⟩;conv=>whnf)|(refine⟨_,[],[],eG rfl (ai rfl) (l:=[.int .i64 _,.int .i64 _,.int .i64 _]) rfl (ai rfl) (dz.get (t:=108) aH rfl) rfl (dz.get (t:=3) aH rfl) rfl rfl ax ax (v:=.int .i64 _) rfl rfl,aF,ak, ?_⟩;conv=>whnf)));exact Q4
theorem NG {n A B:Nat} {a m:List Rat} (t:Rat) (h:uu n A a m) (EL:dq n (iC n a m t)) (h2:2<=B) (hM:B<=80000)
  (hB:∀i q,i<n->q<n->fs (a.getD (i*n+q) 0)+(fs t+fs (m.getD (i*n+q) 0))<=B):
  C0 23 [mA n n a,mA n n m,.frac t] (.bQ [iv (aB n a m t).m,iv (aB n a m t).left,iv (aB n a m t).p,iv 0]):=by
 have k1:=dL h;have k2:=Fe B a m t h.n5 h.sa.ok h.sm.ok EL h2 hM hB;refine bB [3,4,5] Tryz.func23 ?_;intro W0 w0 ρ0 hE;conv=>whnf
 (repeat((first|refine ae rfl rfl ?_|refine aq aD ?_|refine ao Q3 ?_|refine aN aJ ?_|rw[bne_self_eq_false]|refine an Q6 ?_);conv=>whnf));exact Q4
def fg (n:Nat) (a m:List Rat) (r:Rat):Prop:=(aB n a m (-r)).m=0/\(aB n a m r).p=0
theorem W7 {n B e:Nat} {a m:List Rat} (hn:n<=5) (ha:fa n n a) (hm:fa n n m) (EL:∀t,dq n (iC n a m t)) (h2:2<=B) (hM:B+e<=30000)
  (hB:∀i q,i<n->q<n->fs (a.getD (i*n+q) 0)+fs (m.getD (i*n+q) 0)+4<=B) (h1:fg n a m (2^e)) (h0:∀k,k<e->¬fg n a m (2^k)) (hs:∀k,k<=e->fs ((2:Rat)^k)<=4+k):
  C0 100 [mA n n a,mA n n m] (.frac (2^e)):=by
 have k1:C0 35 [iv 1] (.frac 1):=dH 1 ax ax;have kc:∀t,fs t<=4+e->C0 75 [mA n n a,mA n n m,.frac t] (cnV (aB n a m t)):=λt ht=>Fe (B+e) a m t hn ha hm (EL t) aa aa λi q hi hq=>by
  have:=hB i q hi hq;omega
 refine bB [2,3] Tryz.func100 ?_;intro W0 w0 ρ0 hE;conv=>whnf
 (repeat(first|(refine aN aJ ?_;conv=>whnf)))
 refine av hE (λk=>k) [2,3,4,5] [4,5] (λm' fr hp=>∃k:Nat,m'=e - k/\k<=e/\fr=[(2,b9 (mC n n a)),(3,b9 (mC n n m)),(4,.ptr 4 0 0 0),(5,.ptr 5 0 0 0)]/\hp=[(4,⟨49,true,.one [.frac 0]⟩),(5,⟨49,true,.one [.frac (2^k)]⟩)]) e ?_ ?_ ?_
 ·kernel_rfl
 ·exact⟨0,rfl,Nat.zero_le _,rfl,rfl⟩
 rintro m' _ _ ⟨k,rfl,hk,rfl,rfl⟩;have hsk:=hs k hk;have kn:=pK ((2:Rat)^k);have c1:=kc (-(2^k)) (by rw[ju];omega);have c2:=kc (2^k) aa;have ka:=uq ((2:Rat)^k) (2^k) aa;rw[show(2:Rat)^k+2^k=2^(k+1)from by rw[ace];grind]at ka;have hek:fg n a m (2^k)->k=e:=λh=>by
  rcases Ϝ k e with g|g
  ·exact absurd h (h0 k g)
  ·omega
 have X3:¬fg n a m (2^k)->k<e:=λh=>by
  rcases Ϝ k e with g|g
  ·exact g
  ·exact absurd (by rw[show k=e by omega];exact h1) h
 unfold fg at hek X3;generalize aB n a m (-(2^k))=F1 at*;generalize aB n a m (2^k)=F2 at*;conv=>whnf
 by_cases f1:F1.m=0
 ·have t1:decide (((F1.m:Nat):Int)>0)=false:=decide_eq_false aa;by_cases f2:F2.p=0
  ·have t2:decide (((F2.p:Nat):Int)>0)=false:=decide_eq_false aa;obtain rfl:=hek ⟨f1,f2⟩
   (repeat((first|refine ag rfl rfl ?_|refine aq aD ?_|refine aN aJ ?_|refine an dZ ?_|refine aG t2 ?_|refine an Q6 ?_|refine⟨_,[],[],eG rfl (ai rfl) (l:=[.int .i64 _,.int .i64 _,.int .i64 _]) rfl (ai rfl) (dz.get (t:=108) aH rfl) rfl (dz.get (t:=3) aH rfl) rfl rfl ax ax (v:=.int .i64 _) rfl rfl,aF,ak, ?_⟩|rw[t1]);conv=>whnf));exact Q4
  ·have t2:decide (((F2.p:Nat):Int)>0)=true:=decide_eq_true aa;have aE:=X3 λh=>f2 h.2
   (repeat((first|refine ag rfl rfl ?_|refine aq aD ?_|refine aN aJ ?_|refine an dZ ?_|refine ay t2 ?_|refine an Q6 ?_|refine⟨_,[],[],eG rfl (ai rfl) (l:=[.int .i64 _,.int .i64 _,.int .i64 _]) rfl (ai rfl) (dz.get (t:=108) aH rfl) rfl (dz.get (t:=3) aH rfl) rfl rfl ax ax (v:=.int .i64 _) rfl rfl,aF,ak, ?_⟩|rw[t1]|rw[t2]);conv=>whnf))
   exact⟨e - (k+1),λk=>k,[2,3,4,5],[4,5],aa,aD,k+1,rfl,aE,rfl,rfl⟩
 ·have t1:decide (((F1.m:Nat):Int)>0)=true:=decide_eq_true aa;have aE:=X3 λh=>f1 h.1
  (repeat((first|refine ag rfl rfl ?_|refine ae rfl rfl ?_|refine aq aD ?_|refine aN aJ ?_|refine an er ?_|refine an Q6 ?_|refine⟨_,[],[],eG rfl (ai rfl) (l:=[.int .i64 _,.int .i64 _,.int .i64 _]) rfl (ai rfl) (dz.get (t:=108) aH rfl) rfl (dz.get (t:=3) aH rfl) rfl rfl ax ax (v:=.int .i64 _) rfl rfl,aF,ak, ?_⟩|rw[t1]);conv=>whnf))
  exact⟨e - (k+1),λk=>k,[2,3,4,5],[4,5],aa,aD,k+1,rfl,aE,rfl,rfl⟩
theorem sM {n A:Nat} {a m:List Rat} {q:Rat} (h:uu n A a m) (kr:C0 100 [mA n n a,mA n n m] (.frac q)):C0 44 [mA n n a,mA n n m] (.bQ [.frac q,iv 0]):=by
 have k1:=dL h;refine bB [2,3] Tryz.func44 ?_;intro W0 w0 ρ0 hE;conv=>whnf
 (repeat((first|refine ae rfl rfl ?_|refine aN aJ ?_|rw[bne_self_eq_false]|refine an Q6 ?_);conv=>whnf));exact Q4
theorem HK {n A:Nat} {a m v:List Rat} {x y:Rat} (h:uu n A a m) (k2:C0 58 [mA n n a,bx v,bx v] (.bQ [.frac x,iv 0])) (k3:C0 58 [mA n n m,bx v,bx v] (.bQ [.frac y,iv 0]))
  (hy:y≠0) (hs:fs x+fs y<=4398046511104):C0 15 [mA n n a,mA n n m,bx v] (.bQ [.frac (x/y),iv 0]):=by
 have k1:=dL h;have k4:=Dv x y hy hs;refine bB [3,4] Tryz.func15 ?_;intro W0 w0 ρ0 hE;conv=>whnf
 (repeat((first|refine ae rfl rfl ?_|refine aN aJ ?_|rw[bne_self_eq_false]|refine an Q6 ?_);conv=>whnf));exact Q4
theorem LU {n A:Nat} {a m v:List Rat} {x:Rat} (h:uu n A a m) (k2:C0 58 [mA n n a,bx v,bx v] (.bQ [.frac x,iv 0])) (k3:C0 58 [mA n n m,bx v,bx v] (.bQ [.frac 0,iv 0])):
  C0 15 [mA n n a,mA n n m,bx v] (.bQ [.frac 0,iv 5]):=by
 have k1:=dL h;have k4:=Vt x;refine bB [3,4] Tryz.func15 ?_;intro W0 w0 ρ0 hE;conv=>whnf
 (repeat((first|refine ae rfl rfl ?_|refine aN aJ ?_|rw[bne_self_eq_false]|refine an Q6 ?_);conv=>whnf));exact Q4
def zs (z:Int):Nat:=sz z.natAbs+1
theorem RQ (a b:Int):zs (a+b)<=zs a+zs b:=by
 have:=Ah (a:=a.natAbs) (b:=b.natAbs) (k:=max (sz a.natAbs) (sz b.natAbs)) aa aa;have:=fY (Int.natAbs_add_le a b);unfold zs;omega
theorem acf (a:Int):zs (-a)=zs a:=by unfold zs;rw[Int.natAbs_neg]
theorem acg (a b:Int):zs (a - b)<=zs a+zs b:=by rw[Int.sub_eq_add_neg,<-acf b];exact RQ _ _
theorem RS (a b:Int):zs (a*b)<=zs a+zs b:=by
 have:=fU a.natAbs b.natAbs;unfold zs;rw[Int.natAbs_mul];omega
theorem ach (a b:Int):zs (a/b)<=zs a:=by
 have:=fY (Int.natAbs_ediv_le_natAbs a b);unfold zs;omega
theorem ahA:zs 1=2:=by decide+kernel
theorem RT (a b:Int) (h:zs a+zs b<=1073741824):C0 89 [.int a,.int b] (.int (a+b)):=Au pN a b (by unfold zs at h;omega) (by unfold zs at h;omega)
theorem aci (a b:Int) (h:zs a+zs b<=1073741824):∃r ok,C0 158 [.int a,.int b] (.bQ [.int (a/b),.int r,.val (.bool ok)]):=by
 by_cases h0:b=0
 ·subst h0;rw[Int.ediv_zero];exact⟨_,_,Vq pN a⟩
 ·exact⟨_,_,aa7 pN a b (by unfold zs at h;omega) (by unfold zs at h;omega) h0⟩
abbrev ahB (l:List Int):SV:=bN 3 .int l
abbrev wA (r c:Int) (a:List Int):SV:=.agg [iv r,iv c,ahB a]
def II (r c:Nat) (f:Mz):List Int:=(List.range (r*c)).map λp=>f (p/c) (p % c)
abbrev u7 (a:List Int) (c i k:Nat):Int:=a.getD (i*c+k) 0
theorem wE (r c:Nat) (f:Mz):(II r c f).length=r*c:=by simp[II]
theorem RU {r c:Nat} {f:Mz} {p:Nat} (hp:p<r*c):(II r c f).getD p 0=f (p/c) (p % c):=by
 simp[II,δ,hp]
theorem xC {r c i k:Nat} {f:Mz} (hi:i<r) (hk:k<c):u7 (II r c f) c i k=f i k:=by
 rw[u7,RU (dP hi hk),yR hk,yS hk]
theorem W8 {a b:List Int} {n:Nat} (ha:a.length=n) (hb:b.length=n) (h:∀p,p<n->a.getD p 0=b.getD p 0):a=b:=by
 refine List.ext_getElem aa λp h1 h2=> ?_
 have:=h p aa;rwa [δ,δ,φ h1,φ h2]at this
theorem W9 {a b:List Int} {r c:Nat} (ha:a.length=r*c) (hb:b.length=r*c) (h:∀i k,i<r->k<c->u7 a c i k=u7 b c i k):a=b:=by
 refine W8 ha hb λp hp=> ?_
 obtain⟨h1,h2,h3⟩:=se hp;have:=h _ _ h1 h2;rwa [u7,u7,h3]at this
theorem LW {a:List Int} {r c:Nat} {f:Mz} (ha:a.length=r*c) (h:∀i k,i<r->k<c->f i k=u7 a c i k):II r c f=a:=
 W9 (wE ..) ha λi k hi hk=>by rw[xC hi hk,h i k hi hk]
theorem xD {r c:Nat} {f g:Mz} (h:∀i k,i<r->k<c->f i k=g i k):II r c f=II r c g:=
 LW (wE ..) λi k hi hk=>by rw[xC hi hk,h i k hi hk]
theorem RV {a:List Int} {r c:Nat} (ha:a.length=r*c):II r c (u7 a c)=a:=LW ha λ_ _ _ _=>rfl
def Zm (B:Nat) (l:List Int):Prop:=∀p,p<l.length->zs (l.getD p 0)<=B
theorem Zk {r c B:Nat} {f:Mz} (h:∀i k,i<r->k<c->zs (f i k)<=B):Zm B (II r c f):=by
 intro p hp;rw[wE]at hp;obtain⟨h1,h2,_⟩:=se hp;rw[RU hp];exact h _ _ h1 h2
theorem rJ {a:List Int} {r c B i k:Nat} (h:Zm B a) (ha:a.length=r*c) (hi:i<r) (hk:k<c):zs (u7 a c i k)<=B:=h _ (by rw[ha];exact dP hi hk)
theorem Zm.mono {B C:Nat} {a:List Int} (h:Zm B a) (hBC:B<=C):Zm C a:=λp hp=>Ι (h p hp) hBC
structure OKZ (R C:Nat) (a:List Int):Prop where
 r:R<=2048
 c:C<=2048
 n:a.length=R*C
def p7 (p:Int->Bool):Nat->Int->Int->Int
 |0,_,high=>high
 |f+1,low,high=>if low<high then(if p ((low+high).ediv 2)=true then p7 p f low ((low+high).ediv 2)else p7 p f ((low+high).ediv 2+1) high)else high
theorem xE (p:Int->Bool):∀(f:Nat) (low high:Int),low<=high->high - low<2^f->p high=true->
  low<=p7 p f low high/\p7 p f low high<=high/\p (p7 p f low high)=true/\(p7 p f low high=low\/p (p7 p f low high - 1)=false)
 |0,low,high,h1,h2,h3=>by
  have:high=low:=by have:(2:Int)^0=1:=rfl;omega
  subst this;exact⟨ahG _,ahG _,h3,.inl rfl⟩
 |f+1,low,high,h1,h2,h3=>by
  rw[p7];have hp:(2:Int)^(f+1)=2*2^f:=by rw[ϫ];omega
  by_cases aE:low<high
  ·rw[if_pos aE];have hm:low<=(low+high).ediv 2/\(low+high).ediv 2<high/\2*(low+high).ediv 2<=low+high/\low+high<=2*(low+high).ediv 2+1:=by
    have:(low+high).ediv 2=(low+high)/2:=rfl;omega
   generalize (low+high).ediv 2=m at*;cases hpm:p m with
   |true=>
    rw[if_pos rfl];obtain⟨a1,a2,a3,a4⟩:=xE p f low m hm.1 aa hpm;exact⟨a1,aa,a3,a4⟩
   |false=>
    rw[if_neg ax];obtain⟨a1,a2,a3,a4⟩:=xE p f (m+1) high aa aa h3;refine⟨aa,a2,a3,.inr ?_⟩;rcases a4 with e|e
    ·rw[e,Int.add_sub_cancel];exact hpm
    ·exact e
  ·rw[if_neg aE];have:high=low:=aa;subst this;exact⟨ahG _,ahG _,h3,.inl rfl⟩
theorem LX (k:Int) (step:Rat) (h:sz k.natAbs+fs step<=1000000):C0 157 ([]++([.int k]++[b9 [.frac step]])) (.frac ((k:Rat)*step)):=by
 have k1:=LP mh k 1 aa ax ax;rw[show mkRat k 1=(k:Rat)from Rat.mkRat_one k]at k1;have k2:=pa (k:Rat) step (by have:=yN (n:=k) (k:=sz k.natAbs+1) aa aa;unfold fs at h ⊢;omega);have k0:C0 150 [.val (.int .u64 1)] (.nat 1):=CV 1 ax;refine bB [2] Tryz.func157 ?_;intro W0 w0 ρ0 hE;conv=>whnf
 (repeat(first|(refine aq aD ?_;conv=>whnf)|(refine aN aJ ?_;conv=>whnf)|(refine an Q6 ?_;conv=>whnf)));exact Q4
abbrev iBx (z:Int):aC:=⟨47,true,.one [.int z]⟩
theorem RX {f S:Nat} (low high:Int) (step:Rat) (p:Int->Bool) (g:FuncId) (p1 p2 p3:Pred) (hlh:low<=high) (hf:high - low<2^f) (hS:S<=100000) (gM:∀k,low<=k->k<=high->sz k.natAbs<=S) (nv:fs step<=S)
  (hp:∀k:Int,low<=k->k<=high->C0 g ([]++([.frac ((k:Rat)*step)]++[.atom p1,.atom p2,.atom p3])) (.val (.bool (p k)))):
  C0 102 [.int low,.int high,.frac step,.clo g [] [.atom p1,.atom p2,.atom p3]] (.frac ((p7 p f low high:Int)*step)):=by
 obtain⟨R,hR⟩:∃R,p7 p f low high=R:=⟨_,rfl⟩;rw[hR];refine bB [6] Tryz.func102 ?_;intro W0 w0 ρ0 hE;conv=>whnf
 (repeat(first|(refine an Gv ?_;conv=>whnf)))
 refine av hE (λk=>k) [3,4,5,8,9] [4,5,8] (λm' fr hp=>∃lo hi:Int,low<=lo/\lo<=hi/\hi<=high/\hi - lo<2^m'/\p7 p m' lo hi=R/\
  fr=[(3,.clo g [] [.atom p1,.atom p2,.atom p3]),(4,.ptr 4 0 0 0),(5,.ptr 5 0 0 0),(8,.ptr 8 0 0 0),(9,.clo 157 [] [b9 [.frac step]])]/\hp=[(4,iBx lo),(5,iBx hi),(8,⟨49,true,.one [.frac 0]⟩)]) f ?_ ?_ ?_
 ·kernel_rfl
 ·exact⟨low,high,ahG _,hlh,ahG _,hf,hR,rfl,rfl⟩
 rintro m' _ _ ⟨lo,hi,h1,h2,h3,h4,h5,rfl,rfl⟩;have s1:=gM lo h1 aa;have s2:=gM hi aa h3;have kc:=Ju lo hi aa aa;conv=>whnf
 by_cases aE:lo<hi
 ·have Ux:m'≠0:=λe=>by
   rw[e]at h4;have:(2:Int)^0=1:=rfl;omega
  obtain⟨f',rfl⟩:∃f',m'=f'+1:=⟨m' - 1,aa⟩;have Ei:(2:Int)^(f'+1)=2*2^f':=by rw[ϫ];omega
  have t1:decide ((lo - hi).sign<0)=true:=decide_eq_true (by rw[Int.sign_eq_neg_one_of_neg (a:=lo - hi) aa];decide);have z2:zs 2<=4:=ax;have ka:=RT lo hi (by unfold zs;omega);have kt:C0 97 [.val (.int .i64 2)] (.int 2):=KT 2 ax ax;have ko:C0 97 [.val (.int .i64 1)] (.int 1):=KT 1 ax ax;obtain⟨rr,ok,kd⟩:=aci (lo+hi) 2 (by have:=RQ lo hi;unfold zs at*;omega);have hm:lo<=(lo+hi)/2/\(lo+hi)/2<hi/\2*((lo+hi)/2)<=lo+hi/\lo+hi<=2*((lo+hi)/2)+1:=aa;have hse:p7 p (f'+1) lo hi=if p ((lo+hi)/2)=true then p7 p f' lo ((lo+hi)/2)else p7 p f' ((lo+hi)/2+1) hi:=by rw[p7,if_pos aE];first|done|rfl
  rw[hse]at h5;clear hse;generalize (lo+hi)/2=m at*;have s3:=gM m aa aa;have kat:=LX m step aa;have kh:=hp m aa aa;have z1:zs 1<=4:=ax;have kp:=RT m 1 (by unfold zs at*;omega);cases hpm:p m with
  |true=>
   rw[hpm]at kh h5;rw[if_pos rfl]at h5
   (repeat((first|refine ag rfl rfl ?_|refine aN aJ ?_|refine ay t1 ?_|rw[t1]);conv=>whnf))
   exact⟨f',λk=>k,[3,4,5,8,9],[4,5,8],aa,aD,lo,m,h1,hm.1,aa,aa,h5,rfl,rfl⟩
  |false=>
   rw[hpm]at kh h5;rw[if_neg ax]at h5
   (repeat((first|refine ae rfl rfl ?_|refine aq aD ?_|refine aN aJ ?_|refine ay t1 ?_|rw[t1]);conv=>whnf))
   exact⟨f',λk=>k,[3,4,5,8,9],[4,5,8],aa,aD,m+1,hi,aa,aa,h3,aa,h5,rfl,rfl⟩
 ·have t1:decide ((lo - hi).sign<0)=false:=decide_eq_false (by rw[show lo - hi=0 by omega];decide);have hRe:R=hi:=by
   rw[<-h5];cases m' with
   |zero=>rfl
   |succ q=>rw[p7,if_neg aE]
  have kat:=LX hi step aa;rw[hRe]
  (repeat(first|(refine aN aJ ?_;conv=>whnf)|(refine aG t1 ?_;conv=>whnf)));exact Q4
theorem NH {n:Nat} {a m:List Rat} {t:Rat} {k:Nat} (hk:k<=64) (hn:(aB n a m t).m+(aB n a m t).left<=64) (kc:C0 75 [mA n n a,mA n n m,.frac t] (cnV (aB n a m t))):
  C0 101 ([]++([.frac t]++[b9 (mC n n a),b9 (mC n n m),b9 [iv k]])) (.val (.bool (decide (k<(aB n a m t).m+(aB n a m t).left)))):=by
 generalize aB n a m t=F at*;have w1:IntKind.i64.wrap (((F.m:Nat):Int)+((F.left:Nat):Int))=((F.m+F.left:Nat):Int):=by rw[wrap_i64 aa aa];omega
 have w2:decide (((F.m+F.left:Nat):Int)>((k:Nat):Int))=decide (k<F.m+F.left):=decide_eq_decide.2 ⟨λh=>aa,λh=>aa⟩;rw[<-w2];refine bB [4] Tryz.func101 ?_;intro W0 w0 ρ0 hE;conv=>whnf
 (repeat((first|refine ao Q3 ?_|refine aN aJ ?_|refine an Q6 ?_|rw[w1]);conv=>whnf));exact Q4
structure nk (n B C:Nat) (a m:List Rat):Prop where
 n5:n<=5
 oa:a.length=n*n
 om:m.length=n*n
 sa:SymM n a
 sm:SymM n m
 pos:iP n (el m n)
 za:Sm B a
 zm:Sm C m
section
variable {n B C:Nat} {a m:List Rat} (h:nk n B C a m)
include h
theorem nk.ka:fa n n a:=⟨by have:=h.n5;omega,by have:=h.n5;omega,h.oa⟩
theorem nk.km:fa n n m:=⟨by have:=h.n5;omega,by have:=h.n5;omega,h.om⟩
theorem nk.sym (t:Rat):dq n (iC n a m t):=mc (A:=el a n) (M:=el m n) h.sa h.sm t
theorem nk.lM (t:Rat):cJ n (jb (el a n) (el m n) t) (aB n a m t).m (aB n a m t).left (aB n a m t).p:=uQ (h.sym t)
theorem nk.self:nk n C C m m:=⟨h.n5,h.om,h.om,h.sm,h.sm,h.pos,h.zm,h.zm⟩
theorem nk.ok (h2:2<=C) (hC:C<=80000):uu n C a m where
 n5:=h.n5
 sa:=⟨h.ka,(mZ h.oa h.sa).symm⟩
 sm:=⟨h.km,(mZ h.om h.sm).symm⟩
 afj:=h.self.sym 0
 h2:=h2
 hM:=hC
 sz i q hi hq:=eM h.zm h.om hi hq
 pos:=h.pos.lM ((h.self.lM 0).congr λi k _ _=>by unfold jb;grind)
theorem nk.sum (t:Rat):(aB n a m t).m+(aB n a m t).left+(aB n a m t).p=n:=(h.lM t).sum
theorem nk.size {T D:Nat} {t:Rat} (ht:fs t<=T) (hD:B+(T+C)<=D):∀i q,i<n->q<n->fs (a.getD (i*n+q) 0)+(fs t+fs (m.getD (i*n+q) 0))<=D:=λi q hi hq=>by
 have h1:=eM h.za h.oa hi hq;have h2:=eM h.zm h.om hi hq;unfold el at h1 h2;omega
theorem nk.count {T:Nat} (t:Rat) (ht:fs t<=T) (h2:2<=C) (hD:B+(T+C)<=80000):C0 23 [mA n n a,mA n n m,.frac t] (.bQ [iv (aB n a m t).m,iv (aB n a m t).left,iv (aB n a m t).p,iv 0]):=
 NG t (h.ok h2 aa) (h.sym t) (B:=B+(T+C)) aa aa (h.size ht (ζ _))
theorem nk.steps:Steps (λt=>(aB n a m t).m) λt=>(aB n a m t).left:=⟨λt t' Wa=>(h.lM t).Nq h.sa h.sm h.pos Wa (h.lM t')⟩
end
theorem nX {l b:List (Int×Int)} {n:Nat} (hl:∀q∈l,my q) (hb:∀q∈b,my q) (hn:n<=5):nk n 130 1304 (qz l n) (fH b n):=
 ⟨hn,(zf n hl).1,eD ..,(zf n hl).2.1,Ht b n,Hu b n,(zf n hl).2.2,LN hb hn⟩
theorem mi (k:Nat):fs ((2:Rat)^k)<=4+k:=by
 have h1:(2:Rat)^k=(((2^k:Nat):Int):Rat):=by rw[ae1,alL];rfl
 have h2:=yN (n:=((2^k:Nat):Int)) (k:=k+1) (by rw[Int.natAbs_natCast];exact eW.2 (akL ax aa)) aa;rw[h1];unfold fs;omega
theorem RY {x:Int} {e:Nat} (h1: -(2:Int)^e<=x) (h2:x<=(2:Int)^e):sz x.natAbs<=e+1:=by
 refine eW.2 (Nat.lt_of_le_of_lt (m:=2^e) ?_ (akL ax aa));have:((2^e:Nat):Int)=(2:Int)^e:=ae1 ..;omega
theorem uY (e:Nat):(2:Rat)^e=(((2:Int)^e:Int):Rat):=by rw[alL];rfl
theorem wF (x:Rat) (a:Nat):∀b:Nat,x^(a+b)=x^a*x^b
 |0=>by rw[Nat.add_zero,Rat.pow_zero,alx]
 |b+1=>by rw[<-Nat.add_assoc,ace,wF x a b,ace,Rat.mul_assoc]
theorem two_pos (e:Nat):(0:Rat)<2^e:=Rat.pow_pos ax
section
variable {n B C e:Nat} {a m:List Rat} (h:nk n B C a m)
include h
theorem nk.reach (h2:2<=C) (hs:B+C<=20000) (he:e<=70) (h1:fg n a m (2^e)) (h0:∀k,k<e->¬fg n a m (2^k)):
  C0 100 [mA n n a,mA n n m] (.frac (2^e)):=
 W7 (B:=B+C+4) h.n5 h.ka h.km h.sym aa aa (λi q hi hq=>by
  have h1:=eM h.za h.oa hi hq;have h2:=eM h.zm h.om hi hq
  unfold el at h1 h2;omega) h1 h0 λk _=>mi k
theorem nk.brk {k places:Nat} (hk:k<n) (h1:fg n a m (2^e)) {R:Int}
  (hR:R=p7 (λK=>decide (k<(aB n a m ((K:Rat)*(1/2^places))).m+(aB n a m ((K:Rat)*(1/2^places))).left)) (e+places+2) (-((2:Int)^(e+places))) ((2:Int)^(e+places))):
  (-((2:Int)^(e+places))<=R/\R<=(2:Int)^(e+places))/\∀low:Rat,(low=if (aB n a m ((R:Rat)*(1/2^places))).m>k then(R:Rat)*(1/2^places) - 1/2^places else(R:Rat)*(1/2^places))->
   Oe (λt=>(aB n a m t).m) (λt=>(aB n a m t).left) k (1/2^places) low ((R:Rat)*(1/2^places)):=by
 have hp:(2:Rat)^places*(1/2^places)=1:=by
  rw[Ϡ,ahW];exact Rat.mul_inv_cancel _ (by have:=two_pos places;grind)
 have nv:(0:Rat)<1/2^places:=by
  rw[Ϡ,ahW];exact Rat.inv_pos.2 (two_pos places)
 have Zl:∀s:Rat,s*2^(e+places)*(1/2^places)=s*2^e:=λs=>by
  rw[wF];have:s*(2^e*2^places)*(1/2^places)=s*2^e*(2^places*(1/2^places)):=by grind
  rw[this,hp,alx]
 have hM:(((2:Int)^(e+places):Int):Rat)=2^(e+places):=(uY _).symm;have jh:(0:Int)<2^(e+places):=alq ax;have hw:((2:Int)^(e+places)) - (-((2:Int)^(e+places)))<2^(e+places+2):=by
  rw[show e+places+2=(e+places)+1+1 from rfl,ϫ,ϫ];omega
 have uI:decide (k<(aB n a m ((((2:Int)^(e+places):Int):Rat)*(1/2^places))).m+(aB n a m ((((2:Int)^(e+places):Int):Rat)*(1/2^places))).left)=true:=by
  rw[hM,show(2:Rat)^(e+places)*(1/2^places)=2^e from by have:=Zl 1;grind];have g1:=h.sum (2^e);have g2:=h1.2;exact decide_eq_true aa
 obtain⟨a1,a2,a3,a4⟩:=xE (λK=>decide (k<(aB n a m ((K:Rat)*(1/2^places))).m+(aB n a m ((K:Rat)*(1/2^places))).left)) (e+places+2) (-((2:Int)^(e+places))) ((2:Int)^(e+places)) aa hw uI;rw[<-hR]at a1 a2 a3 a4;have b3:=of_decide_eq_true a3;refine⟨⟨a1,a2⟩,λlow qv=>⟨⟨R,rfl⟩,b3, ?_⟩⟩;by_cases hg:(aB n a m ((R:Rat)*(1/2^places))).m>k
 ·rw[if_pos hg]at qv;refine .inr ⟨qv,hg, ?_⟩;rcases a4 with g|g
  ·exfalso;rw[g,Rat.intCast_neg,hM,show -(2:Rat)^(e+places)*(1/2^places)= -(2^e)from by have:=Zl (-1);grind]at hg;have:=h1.1;omega
  ·have g:=of_decide_eq_false g
   rw[Rat.intCast_sub,show((R:Rat) - ((1:Int):Rat))*(1/2^places)=(R:Rat)*(1/2^places) - 1/2^places from by
    have:((1:Int):Rat)=1:=rfl
    grind,<-qv]at g
   show(aB n a m low).m+(aB n a m low).left<=k;omega
 ·rw[if_neg hg]at qv;exact .inl ⟨qv,by show(aB n a m ((R:Rat)*(1/2^places))).m<=k;omega⟩
theorem lE {k places:Nat} (h2:2<=C) (hs:B+C<=20000) (hk:k<n) (hp:places<=100) (he:e<=70) (h1:fg n a m (2^e)) (h0:∀k,k<e->¬fg n a m (2^k)):
  ∃(R:Int) (low:Rat),R=p7 (λK=>decide (k<(aB n a m ((K:Rat)*(1/2^places))).m+(aB n a m ((K:Rat)*(1/2^places))).left)) (e+places+2) (-((2:Int)^(e+places))) ((2:Int)^(e+places))/\
   low=(if (aB n a m ((R:Rat)*(1/2^places))).m>k then(R:Rat)*(1/2^places) - 1/2^places else(R:Rat)*(1/2^places))/\
   C0 39 [mA n n a,mA n n m,iv (k:Nat),iv (places:Nat)] (.bQ [.frac low,.frac ((R:Rat)*(1/2^places)),iv 0])/\fs low<=1000/\fs ((R:Rat)*(1/2^places))<=1000:=by
 refine⟨_,_,rfl,rfl, ?_⟩;obtain⟨R,hR⟩:∃R,R=p7 (λK=>decide (k<(aB n a m ((K:Rat)*(1/2^places))).m+(aB n a m ((K:Rat)*(1/2^places))).left)) (e+places+2) (-((2:Int)^(e+places))) ((2:Int)^(e+places)):=⟨_,rfl⟩;obtain⟨⟨r1,r2⟩,hbk⟩:=h.brk hk h1 hR;have fst:fs ((1:Rat)/2^places)<=106:=by
  have g1:=rl 1 ((2:Rat)^places);have g2:=mi places;have g3:=jv;omega
 have fK:∀K:Int, -((2:Int)^(e+places))<=K->K<=(2:Int)^(e+places)->fs ((K:Rat)*(1/2^places))<=300:=λK k1 k2=>by
  have g1:=RY k1 k2;have g2:=yN (n:=K) g1 aa;have g3:=cH (K:Rat) (1/2^places);unfold fs at*;omega
 have hn5:=h.n5;have kc:∀t,fs t<=1000->C0 75 [mA n n a,mA n n m,.frac t] (cnV (aB n a m t)):=λt ht=>Fe (B+(1000+C)) a m t hn5 h.ka h.km (h.sym t) aa aa (h.size ht (ζ _))
 have k1:=dL (h.ok h2 aa);have k2:=h.reach h2 hs he h1 h0;have k3:=Rx places aa;have f2:C0 35 [iv 2] (.frac 2):=dH 2 ax ax;have f1:C0 35 [iv 1] (.frac 1):=dH 1 ax ax;have g2:=mi places;have g3:=mi e;have k4:=Dv 1 ((2:Rat)^places) (by have:=two_pos places;grind) (by have:=jv;omega);have k5:=pa ((2:Rat)^e) (2^places) aa;rw[<-wF]at k5;have k6:=aeq ((2:Rat)^(e+places));rw[show((2:Rat)^(e+places)).num=(2:Int)^(e+places)from by rw[uY];exact Rat.num_intCast _]at k6;have k7:=Pk ((2:Int)^(e+places));have hw:((2:Int)^(e+places)) - (-((2:Int)^(e+places)))<2^(e+places+2):=by
  have jh:(0:Int)<2^(e+places):=alq ax;rw[show e+places+2=(e+places)+1+1 from rfl,ϫ,ϫ];omega
 have k8:=RX (f:=e+places+2) (S:=300) (-((2:Int)^(e+places))) ((2:Int)^(e+places)) (1/2^places) (λK=>decide (k<(aB n a m ((K:Rat)*(1/2^places))).m+(aB n a m ((K:Rat)*(1/2^places))).left)) 101 (lY (mC n n a)) (lY (mC n n m)) (lY [iv (k:Nat)])
  aa hw ax (λK k1 k2=>Ι (RY k1 k2) aa) aa λK k1 k2=>NH aa (by have:=h.sum ((K:Rat)*(1/2^places));omega) (kc _ (by have:=fK K k1 k2;omega))
 rw[<-hR]at k8 ⊢;have fR:=fK R r1 r2;have k9:=kc ((R:Rat)*(1/2^places)) aa;have ks:=Hx ((R:Rat)*(1/2^places)) (1/2^places) aa;have fL:=rh ((R:Rat)*(1/2^places)) (1/2^places);have t1:decide ((k:Int)<0)=false:=decide_eq_false aa;have t2:decide ((k:Int)>=(n:Int))=false:=decide_eq_false aa;have t3:decide ((places:Int)<0)=false:=decide_eq_false aa;have t4:decide ((places:Int)>100)=false:=decide_eq_false aa;clear hbk kc fK g2 g3 hw r1 r2 hR;generalize (R:Rat)*(1/2^places)=hi at*;generalize (1:Rat)/2^places=st at*;generalize (2:Rat)^places=sc at*;generalize (2:Int)^(e+places)=mo at*;generalize (2:Rat)^(e+places)=rm at*;generalize (2:Rat)^e=re at*;generalize aB n a m hi=F at*;by_cases hF:F.m>k
 ·rw[if_pos hF];have t5:decide (((F.m:Nat):Int)>(k:Int))=true:=decide_eq_true aa;refine⟨?_,aa,aa⟩;clear h1 h0 h fst fR fL;refine bB [4,5,6] Tryz.func39 ?_;intro W0 w0 ρ0 hE;conv=>whnf
  (repeat((first|refine ag rfl rfl ?_|refine ae rfl rfl ?_|refine aq aD ?_|refine aN aJ ?_|refine an dZ ?_|rw[bne_self_eq_false]|refine aG t4 ?_|refine ay t5 ?_|refine an Q6 ?_|refine an Q9 ?_|refine an Gv ?_|refine⟨_,[],[],eG rfl (ai rfl) (l:=[.int .i64 _,.int .i64 _,.int .i64 _]) rfl (ai rfl) (dz.get (t:=108) aH rfl) rfl (dz.get (t:=3) aH rfl) rfl rfl ax ax (v:=.int .i64 _) rfl rfl,aF,ak, ?_⟩|rw[t1]|rw[t2]);conv=>whnf));exact Q4
 ·rw[if_neg hF];have t5:decide (((F.m:Nat):Int)>(k:Int))=false:=decide_eq_false aa;refine⟨?_,aa,aa⟩;clear h1 h0 h fst fR fL;refine bB [4,5,6] Tryz.func39 ?_;intro W0 w0 ρ0 hE;conv=>whnf
  (repeat((first|refine ag rfl rfl ?_|refine ae rfl rfl ?_|refine aq aD ?_|refine aN aJ ?_|refine an dZ ?_|rw[bne_self_eq_false]|refine aG t4 ?_|refine aG t5 ?_|refine an Q6 ?_|refine an Q9 ?_|refine an Gv ?_|refine⟨_,[],[],eG rfl (ai rfl) (l:=[.int .i64 _,.int .i64 _,.int .i64 _]) rfl (ai rfl) (dz.get (t:=108) aH rfl) rfl (dz.get (t:=3) aH rfl) rfl rfl ax ax (v:=.int .i64 _) rfl rfl,aF,ak, ?_⟩|rw[t1]|rw[t2]);conv=>whnf));exact Q4
end
