/- The texts Ko, Az, Kp, Kr, Kt, Qa, Qb, Qc, Ae, Fb, Ai, Qd. -/
import Derived.Test.YtadphegfhgmgmaaGreatDoorQMModesKnown6
import Derived.Test.YtadphegfhgmgmaaGreatDoorQMModesKnown5
import Derived.Test.YtadphegfhgmgmaaGreatDoorQMModesKnown3
import Derived.Test.YtadphegfhgmgmaaGreatDoorQMModesKnown2
set_option linter.unusedSimpArgs false
set_option linter.unusedVariables false
set_option maxHeartbeats 40000000
set_option maxRecDepth 100000
open And renaming intro->Ξ
open BitVec renaming ofInt->acN,ofInt_natCast->ac8,toNat_ofNat->aeD
open Bool renaming and_eq_true->Μ,not_eq_true'->agk,or_eq_true->af8
open Go.IntKind renaming i64->ε
open Int renaming natCast_mul->Ρ,toNat_natCast->ι
open List renaming cons_append->af3,find?_some->agh,getD_eq_getElem?_getD->δ,length_cons->ϊ,length_set->ϒ,map_replicate->ai8,mem_cons->Λ,mem_cons_of_mem->Δ,mem_cons_self->η,mem_map->abo,mem_of_find?_eq_some->ac7,mem_singleton->μ,range->Η,replicate->θ
open Nat renaming beq->ϋ,eq_of_beq_eq_true->χ,le_refl->ζ,le_trans->Ι,mod_eq_of_lt->Υ,mul_le_mul->Ϧ,mul_le_mul_left->ϧ,mul_zero->amb,one_pow->amn,sub_self->af0,succ_ne_zero->Ϗ,zero_add->υ,zero_le->Γ
open Ne renaming symm->ahf
open Rat renaming add_assoc->al4,add_zero->alc
namespace Go.Proofs.YtadphegfhgmgmaaGreatDoor
open Go.Sx
def E7 (l:List (Int×Int)) (n i:Nat):Nat->Nat->List Rat->List Rat
 |0,_,a=>a
 |m+1,t,a=>E7 l n i m (t+1) (if t<l.length then(a.set (i*n+(n - (m+1))) (qV (l.getD t (0,0)))).set ((n - (m+1))*n+i) (qV (l.getD t (0,0)))else a)
def Cm (l:List (Int×Int)) (n:Nat):Nat->Nat->List Rat->List Rat
 |0,_,a=>a
 |m+1,t,a=>Cm l n m (t+(m+1)) (E7 l n (n - (m+1)) (m+1) t a)
def qz (l:List (Int×Int)) (n:Nat):List Rat:=Cm l n n 0 (θ (n*n) 0)
def Hs (n:Nat) (a:List Rat):Prop:=a.length=n*n/\SymM n a/\Sm 130 a
theorem LL {l:List (Int×Int)} {n i:Nat} (hq:∀q∈l,my q) (hi:i<n):∀m t a,m<=n->Hs n a->Hs n (E7 l n i m t a)
 |0,_,a,_,h=>h
 |m+1,t,a,hm,h=>by
  rw[E7];refine LL hq hi m (t+1) _ aa ?_;by_cases ht:t<l.length
  ·rw[if_pos ht];obtain⟨h1,h2,h3⟩:=h;have fq:fs (qV (l.getD t (0,0)))<=130:=oR (oo hq t);exact⟨by rw[ϒ,ϒ,h1],Qz h1 h2 hi aa,QA (QA h3 fq) fq⟩
  ·rw[if_neg ht];exact h
theorem LM {l:List (Int×Int)} {n:Nat} (hq:∀q∈l,my q):∀m t a,m<=n->Hs n a->Hs n (Cm l n m t a)
 |0,_,a,_,h=>h
 |m+1,t,a,hm,h=>by
  rw[Cm];exact LM hq m _ _ aa (LL hq aa (m+1) t a hm h)
theorem zf {l:List (Int×Int)} (n:Nat) (hq:∀q∈l,my q):Hs n (qz l n):=
 LM hq n 0 _ (ζ _) ⟨by simp,(λi k hi hk=>by rw[el,el,ru (dP hi hk),ru (dP hk hi)]),Ld ax (EA _)⟩
theorem ab4 (l:List (Int×Int)) (hl:l.length<=maxLen) (hq:∀q∈l,my q) {n:Nat} (hn:n<=12):C0 63 [iv n,bN 2 qA l] (mA n n (qz l n)):=by
 have hnn:n*n<=12*12:=Ϧ hn hn;have t0:ε.wrap ((n:Int)*(n:Int))=((n*n:Nat):Int):=by rw[<-Ρ,wrap_i64 aa aa]
 have hlen:=(zf n hq).1;refine kg [] Tryz.func63 ?_;intro w0 ρ0 hE;conv=>whnf
 (repeat(first|(refine Ξ Q5 ?_;conv=>whnf)|(rw[t0];conv=>whnf)|(rw[ι];conv=>whnf)))
 refine av hE (λk=>k) [0,1,4,5,6,7] [4,5,14] (λm fr hp=>∃(i t:Nat) (a:List Rat),m=n - i/\i<=n/\t<=i*12/\a.length=n*n/\Cm l n (n - i) t a=qz l n/\
  fr=[(0,iv n),(1,bN 2 qA l),(4,.ptr 4 0 0 0),(5,.ptr 5 0 0 0),(6,iv (t:Nat)),(7,iv (i:Nat))]/\hp=[(4,zM),(5,bM n n 14),(14,eJ a)]) n ?_ ?_ ?_
 ·kernel_rfl
 ·exact⟨0,0,_,rfl,Γ _,Γ _,by simp,rfl,rfl,rfl⟩
 rintro m _ _ ⟨i,t,a,rfl,hi,ht,ha,hS,rfl,rfl⟩;conv=>whnf
 by_cases aE:i<n
 ·have t1:=gZ aE;have t2:=bW (i:=i) aa;have e1:n - i=(n - (i+1))+1:=aa;have e2:n - ((n - (i+1))+1)=i:=aa;rw[e1,Cm,e2,<-e1]at hS
  (repeat(first|(refine ag rfl rfl ?_;conv=>whnf)|(rw[t1];conv=>whnf)))
  refine av hE (λk=>k) [0,1,4,5,6,7,8] [4,5,14] (λm fr hp=>∃(k t:Nat) (a:List Rat),m=n - k/\i<=k/\k<=n/\t<=i*12+k/\a.length=n*n/\Cm l n (n - (i+1)) (t+(n - k)) (E7 l n i (n - k) t a)=qz l n/\
   fr=[(0,iv n),(1,bN 2 qA l),(4,.ptr 4 0 0 0),(5,.ptr 5 0 0 0),(6,iv (t:Nat)),(7,iv (i:Nat)),(8,iv (k:Nat))]/\hp=[(4,zM),(5,bM n n 14),(14,eJ a)]) (n - i) ?_ ?_ ?_
  ·kernel_rfl
  ·exact⟨i,t,a,rfl,ζ _,hi,aa,ha,hS,rfl,rfl⟩
  clear hS ht ha;rintro m _ _ ⟨k,t,a,rfl,N8,hk,ht,ha,hS,rfl,rfl⟩;conv=>whnf
  by_cases hlk:k<n
  ·have t3:=gZ hlk;have t4:=bW (i:=k) aa;have t5:=bW (i:=t) aa;have e3:n - k=(n - (k+1))+1:=aa;have e4:n - ((n - (k+1))+1)=k:=aa;have e5:t+(n - k)=t+1+(n - (k+1)):=aa;rw[e5,e3,E7,e4]at hS;by_cases htl:t<l.length
   ·have t6:=gZ htl;have o1:=rn (l.getD t (0,0)) (oo hq t);rw[if_pos htl]at hS;obtain⟨w1,w2⟩:=rD (i:=i) (k:=k) (c:=n) aa aa aa;obtain⟨w3,w4⟩:=rD (i:=k) (k:=i) (c:=n) aa aa aa;have b1:=dP aE hlk;have b2:=dP hlk aE
    (repeat((first|refine ag rfl rfl ?_|refine aq aD ?_|refine Ξ Q5 ?_|refine aN aJ ?_|refine an Q8 ?_|refine an Q6 ?_|refine an Q21 ?_|rw[t3]|rw[t6]|rw[w1]|rw[w2]|rw[w3]|rw[w4]|rw[t5]|rw[t4]|rw[ι]|rw[υ]);conv=>whnf))
    refine⟨n - (k+1),λk=>k,[0,1,4,5,6,7,8],[4,5,14],aa,aD,k+1,t+1,_,rfl,aa,hlk,aa, ?_,hS,rfl,rfl⟩;rw[ϒ,ϒ,ha]
   ·have t6:=iH htl;rw[if_neg htl]at hS
    (repeat((first|refine ag rfl rfl ?_|refine ae rfl rfl ?_|refine an Q8 ?_|rw[t3]|rw[t6]|rw[t5]|rw[t4]);conv=>whnf))
    exact⟨n - (k+1),λk=>k,[0,1,4,5,6,7,8],[4,5,14],aa,aD,k+1,t+1,a,rfl,aa,hlk,aa,ha,hS,rfl,rfl⟩
  ·have t3:=iH hlk;obtain rfl:k=n:=aa;rw[af0,E7]at hS
   (repeat(first|(refine ae rfl rfl ?_;conv=>whnf)|(rw[t3];conv=>whnf)|(rw[t2];conv=>whnf)))
   exact⟨k - (i+1),λk=>k,[0,1,4,5,6,7],[4,5,14],aa,aD,i+1,t,a,rfl,aE,aa,ha,hS,rfl,rfl⟩
 ·have t1:=iH aE;obtain rfl:i=n:=aa;rw[af0,Cm]at hS;subst hS
  (repeat(first|(refine ae rfl rfl ?_;conv=>whnf)|(rw[t1];conv=>whnf)))
  exact Q19
def fH (l:List (Int×Int)) (n:Nat):List Rat:=mk n n λi k=>delta i k+aj n λp=>eQ l (p*n+i)*eQ l (p*n+k)
theorem zg {l:List (Int×Int)} {n i k:Nat} (hi:i<n) (hk:k<n):el (fH l n) n i k=delta i k+aj n λp=>eQ l (p*n+i)*eQ l (p*n+k):=mP hi hk
theorem Ht (l:List (Int×Int)) (n:Nat):SymM n (fH l n):=λi k hi hk=>by
 rw[zg hi hk,zg hk hi];congr 1
 ·unfold delta;by_cases e:i=k
  ·rw[if_pos e,if_pos e.symm]
  ·rw[if_neg e,if_neg (ahf e)]
 ·exact ah n λp _=>Rat.mul_comm ..
theorem Rj (n:Nat) (x:Nat->Rat):qf n delta x=aj n λi=>x i*x i:=ah n λi hi=>by
 rw[eu (j:=i) n hi λk _ a8=>by unfold delta;rw[if_neg (ahf a8)];grind];unfold delta;rw[if_pos rfl];grind
theorem WG (n:Nat) (b:Mx) (x:Nat->Rat):qf n (λi k=>aj n λp=>b p i*b p k) x=aj n λp=>(aj n λi=>b p i*x i)*aj n λi=>b p i*x i:=by
 unfold qf
 rw[ah n (g:=λi=>aj n λp=>x i*(b p i*aj n λk=>b p k*x k)) λi _=>by
  rw[ah n (g:=λk=>aj n λp=>x i*(b p i*(b p k*x k))) λk _=>by
   rw[bH,ir];exact ah n λp _=>by grind]
  rw[dX]
  exact ah n λp _=>by rw[bH,bH]]
 rw[dX];refine ah n λp _=> ?_
 rw[ir];exact ah n λi _=>by grind
theorem WH (l:List (Int×Int)) (n:Nat) (x:Nat->Rat):qf n (el (fH l n) n) x=aj n (λi=>x i*x i)+aj n λp=>(aj n λi=>eQ l (p*n+i)*x i)*aj n λi=>eQ l (p*n+i)*x i:=by
 rw[jT (B:=λi k=>delta i k+aj n λp=>eQ l (p*n+i)*eQ l (p*n+k)) λi k hi hk=>zg hi hk,xm,Rj,WG n λp i=>eQ l (p*n+i)]
theorem wy (l:List (Int×Int)) (n:Nat) (x:Nat->Rat):aj n (λi=>x i*x i)<=qf n (el (fH l n) n) x:=by
 rw[WH];have:=uL (n:=n) (f:=λp=>(aj n λi=>eQ l (p*n+i)*x i)*aj n λi=>eQ l (p*n+i)*x i) λp _=>mW _
 grind
theorem Hu (l:List (Int×Int)) (n:Nat):iP n (el (fH l n) n):=λx ⟨i,hi,hx⟩=>by
 have h1:=wy l n x;have h2:=sl (n:=n) (f:=λi=>x i*x i) (λi _=>mW _) ⟨i,hi,sq_pos hx⟩;grind
theorem LN {l:List (Int×Int)} {n:Nat} (hq:∀q∈l,my q) (hn:n<=5):Sm 1304 (fH l n):=C4 λi k _ _=>by
 have h1:=pQ (f:=λp=>eQ l (p*n+i)*eQ l (p*n+k)) (B:=260) n λp _=>by
  have g1:=oR (oo hq (p*n+i));have g2:=oR (oo hq (p*n+k));have g3:=cH (eQ l (p*n+i)) (eQ l (p*n+k));unfold eQ at g3 ⊢;omega
 have h2:=fW (delta i k) (aj n λp=>eQ l (p*n+i)*eQ l (p*n+k));have h3:fs (delta i k)<=2:=by unfold delta;split<;>decide+kernel
 omega
theorem Rk {n:Nat} {a:List Rat} (h:fZ n n a=a):qp n n n n a (fZ n n a)=true:=by simp[qp,h]
end Go.Proofs.YtadphegfhgmgmaaGreatDoor
namespace Go.Sx
section
variable {P:Program} {o:Oper} {ft:List (Nat×SV)} {fk:List (Nat×aC)}
theorem Rl {t e:TypeId} {x y:Operand} {ti te:TI} {kl kc:IntKind} {n:Nat} (ho:o.op= .makeSlice t x y) (hx:bg ft x (.val (.int kl n))) (hy:bg ft y (.val (.int kc n)))
  (ht:b6 P t ti) (hk:ti.kind= .aM e) (he:b6 P e te) (hz:te.zero=[.frac 0]) (hs:te.size=5) (hb:(te.bytes:Int)*n<=281474976710656/\(n:Int)<=9223372036854775807):
  bR P o ft fk (bx (θ n 0)) [] []:=
 dU λρ a w hp=>by
  have e1:=aK (hx ρ a hp.dR);have e2:=aK (hy ρ a hp.dR);have hu:=ht.kind;rw[hk]at hu;obtain⟨i,z,i1,i2,i3,i4,i5,i6,i7,_⟩:=he.info;have ny:=run_make (P:=P) (w:=w) t e i z hu i1 i4 kl kc n n (Int.natCast_nonneg _) (Int.le_refl _) (by rw[i3];exact hb.1) hb.2;have Z0:z.cells.toList=bL 0:=by rw[i5,hz];rfl
  have fP:madeCells z.cells (n*i.size)=((θ n (bL 0)).flatten).toArray:=by
   have:=gv z.cells te.size i7 n;rw[i2];apply Array.ext';rw[this,Z0]
  have nu:aw ρ (θ n (SV.frac 0)) (θ n (bL 0)):=by
   clear ny fP hb hx hy e1 e2;induction n with
   |zero=>simp[aw]
   |succ n ih=>simp only[List.replicate_succ,aw];exact⟨_,_,rfl,rfl,ih⟩
  have ph:aS (θ n (SV.frac 0))=true:=by
   rw[<-ai8 (f:=SV.frac)];exact bO (λ_=>rfl) _
  obtain⟨ρ',cq⟩:=KF (w:=w) (e:=e) (s:=5) (n:=n) hp.aW nu ph (λx hx=>by rw[(List.mem_replicate.1 hx).2];rfl) (by simp);refine⟨_,_,ρ', ?_,by rw[bx,bN,ai8];exact cq⟩;simp only[execOp,ho,e1,e2,Sem.run_bind,ny,Result.andThen_ok,Sem.run_pure,fP,ι]
end
end Go.Sx
namespace Go.Proofs.YtadphegfhgmgmaaGreatDoor
open Go.Sx
theorem WI {r c:Nat} {a v w:List Rat} (ha:fa r c a) (hv:v.length<1099511627776) (hw:w.length<=2048) (h:v.length≠r):∃e,C0 58 [mA r c a,bx v,bx w] (.bQ [.frac 0,iv e])/\(v.length<=2048->e=1):=by
 have k0:=cO ha;have k1:=y8 [v,w] (by simp) (by simp;omega);by_cases hl:2048<v.length
 ·have e:iQ [v,w]=3:=by simp[iQ,hl]
  rw[e]at k1;refine⟨3, ?_,λh=>aa⟩;refine bB [3,20] Tryz.func58 ?_;intro W0 w0 ρ0 hE;conv=>whnf
  (repeat((first|refine ag rfl rfl ?_|refine ae rfl rfl ?_|refine aN aJ ?_|refine an Q6 ?_);conv=>whnf));exact Q4
 ·have e:iQ [v,w]=0:=by simp[iQ];omega
  rw[e]at k1;have t1:((v.length:Int) != (r:Int))=true:=bne_iff_ne.2 aa;refine⟨1, ?_,λ_=>rfl⟩;refine bB [3,20] Tryz.func58 ?_;intro W0 w0 ρ0 hE;conv=>whnf
  (repeat((first|refine ag rfl rfl ?_|refine ae rfl rfl ?_|refine aN aJ ?_|refine an er ?_|rw[bne_self_eq_false]|refine an Q8 ?_|refine an Q6 ?_|refine an Q9 ?_|rw[t1]);conv=>whnf));exact Q4
end Go.Proofs.YtadphegfhgmgmaaGreatDoor
namespace Go.Sx
theorem Bo {E:Env} (k:Nat) {blk:aC} {c:Code} {K:bF} {fr:List (Nat×SV)} {hp:List (Nat×aC)} (hk:find hp k=none) (he:blk.data.empty) (hs:dY E c K fr ((k,blk)::hp)):dY E c K fr hp:=
 ⟨λa w hR=>hs.run a w (Dl hk he hR)⟩
end Go.Sx
namespace Go.Proofs.YtadphegfhgmgmaaGreatDoor
open Go.Sx
end Go.Proofs.YtadphegfhgmgmaaGreatDoor
namespace Go.Sx
theorem aL.ahq {P:Program} {f:FuncId} {args:List SV} {fk fk':List (Nat×aC)} {c:SV} {new upd:List (Nat×aC)} (h:aL P f args fk' c new upd) (hk:∀ρ w,n7 fk new ρ w->n7 fk' new ρ w):aL P f args fk c new upd:=by
 rcases h with⟨h1,h2⟩|h
 ·exact .inl ⟨h1,λρ w z hz hp=>h2 ρ w z hz (hk ρ w hp)⟩
 ·exact .inr λρ w z hz hp=>h ρ w z hz (hk ρ w hp)
def roB (b:Bool) (x:aC):aC:=⟨x.ty,b&&x.wr,x.data⟩
theorem n7.some {ρ:bY} {w:World} {fk new:List (Nat×aC)} (g:Nat->Bool) (hp:n7 fk new ρ w):n7 (fk.map λx=>(x.1,roB (g x.1) x.2)) new ρ w:=by
 refine⟨λk b hk=> ?_,λk k' x x' b b' hk kQ e1 e2 e3 e4 e5 e6=> ?_,hp.aW,λk b x hk hw hl hx=> ?_,hp.fresh⟩
 ·obtain⟨⟨q,b0⟩,hq,he⟩:=abo.1 hk;cases he;exact hp.oq q b0 hq
 ·obtain⟨⟨q,b0⟩,hq,he⟩:=abo.1 hk;obtain⟨⟨q',b0'⟩,uA,he'⟩:=abo.1 kQ;cases he;cases he';have:=hp.sep q q' x x' b0 b0' hq uA e1 e2 e3 e4 e5 e6;simp[roB,this]
 ·obtain⟨⟨q,b0⟩,hq,he⟩:=abo.1 hk;cases he;exact hp.fB q b0 x hq (by simp[roB]at hw;exact hw.2) hl hx
def wz:List Nat->List (Nat×aC)
 |[]=>[]
 |k::r=>(k,⟨0,true,.dead⟩)::wz r
theorem iR {mv:List Nat} {hp:List (Nat×aC)} {k:Nat}:(k∈mv->find (wz mv++hp) k=some ⟨0,true,.dead⟩)/\(k∉mv->find (wz mv++hp) k=find hp k):=by
 induction mv with
 |nil=>exact⟨(λh=>by cases h),λ_=>rfl⟩
 |cons j r ih=>
  simp only[wz,af3,find];cases hb:ϋ j k with
  |true=>
   obtain rfl:=χ hb;exact⟨λ_=>rfl,λh=>absurd (η ..) h⟩
  |false=>
   have a8:k≠j:=by rintro rfl;simp[Nat.beq_refl]at hb
   exact⟨λh=>ih.1 ((Λ.1 h).resolve_left a8),λh=>ih.2 λg=>h (Δ _ g)⟩
def WJ (σ:Nat->Nat) (ks mv:List Nat):List Nat->Bool
 |[]=>true
 |k::r=>(yw k mv||(yw k ks&&ϋ (σ k) k))&&WJ σ ks mv r
theorem Dt {σ:Nat->Nat} {ks mv:List Nat}:∀{l:List Nat},WJ σ ks mv l=true->∀k∈l,k∈mv\/(k∈ks/\σ k=k)
 |j::r,h,k,hk=>by
  simp only[WJ,Μ,af8,kW]at h;rcases Λ.1 hk with rfl|hk
  ·exact h.1.imp id λg=>⟨g.1,χ g.2⟩
  ·exact Dt h.2 k hk
def E8 (σ:Nat->Nat) (mv:List Nat):List Nat->Bool
 |[]=>true
 |k::r=> !(yw (σ k) mv)&&E8 σ mv r
theorem yi {σ:Nat->Nat} {mv:List Nat}:∀{l:List Nat},E8 σ mv l=true->∀k∈l,σ k∉mv
 |j::r,h,k,hk=>by
  simp only[E8,Μ,agk,<-Bool.not_eq_true,kW]at h;rcases Λ.1 hk with rfl|hk
  ·exact h.1
  ·exact yi h.2 k hk
def JX (fx:List Nat) (σ:Nat->Nat) (ts ks mv:List Nat) (fr:List (Nat×SV)) (hp:List (Nat×aC)):Bool:=
 ek ks fr ts&&(dI ks hp ks&&(ud σ ks&&(WJ σ ks mv fx&&(E8 σ mv ks&&fD mv fx))))
theorem WK {E:Env} (hE:E.OK) {σ:Nat->Nat} {ts ks mv:List Nat} {fr:List (Nat×SV)} {hp:List (Nat×aC)} (h:JX E.fx σ ts ks mv fr hp=true) {a:Act} {w:World} (hR:RR E (fn fr hp) a w):
  RR E (fn (fC σ fr ts) (wz mv++iV σ hp ks)) a w:=by
 simp only[JX,Μ]at h;obtain⟨h1,h2,h3,h4,h5,h6⟩:=h;obtain⟨ρ,hext,hfx,hR⟩:=hR;have aac:=uC h3;have MY:=Dt h4;have afc:=yi h5;have hmv:=ed h6
 let ρ':bY:=⟨λk'=>if k'∈mv then ρ.key k' else match ks.find? (λk=>σ k==k')with
  |some k=>ρ.key k
  |none=>none,ρ.aW,ρ.cA⟩
 have JY:∀k∈mv,ρ'.key k=ρ.key k:=λk hk=>if_pos hk
 have bZ:∀k∈ks,ρ'.key (σ k)=ρ.key k:=by
  intro k hk;show(if σ k∈mv then ρ.key (σ k)else match ks.find? (λj=>σ j==σ k)with|some k=>ρ.key k|none=>none)=ρ.key k;rw[if_neg (afc k hk)];cases hf:ks.find? (λj=>σ j==σ k)with
  |none=>have:=List.find?_eq_none.1 hf k hk;simp at this
  |some j=>
   have hj:=ac7 hf;have hs:=agh hf;have:j=k:=aac j hj k hk (by simpa using hs);rw[this]
 have OP:∀k' x,ρ'.key k'=some x->k'∈mv\/(k'∉mv/\∃k∈ks,σ k=k'/\ρ.key k=some x):=by
  intro k' x hx;by_cases hm:k'∈mv
  ·exact .inl hm
  have hx:(if k'∈mv then ρ.key k' else match ks.find? (λj=>σ j==k')with|some k=>ρ.key k|none=>none)=some x:=hx;rw[if_neg hm]at hx;cases hf:ks.find? (λj=>σ j==k')with
  |none=>rw[hf]at hx;cases hx
  |some j=>rw[hf]at hx;exact .inr ⟨hm,j,ac7 hf,by simpa using agh hf,hx⟩
 have hold:∀k' b',(fn (fC σ fr ts) (wz mv++iV σ hp ks) (.k k')).blk=some b'->(k'∈mv/\b'=⟨0,true,.dead⟩)\/∃k∈ks,σ k=k'/\∃b,find hp k=some b/\b'=eC σ b/\∀j∈qU b.data,j∈ks:=by
  intro k' b' hb;simp only[fn,LV.blk]at hb;by_cases hm:k'∈mv
  ·rw[iR.1 hm]at hb;cases hb;exact .inl ⟨hm,rfl⟩
  ·rw[iR.2 hm]at hb;exact .inr (uD h2 k' b' hb)
 have Cu:∀k' b',(fn (fC σ fr ts) (wz mv++iV σ hp ks) (.k k')).blk=some b'->b'.data.live=true->∃k∈ks,σ k=k'/\∃b,find hp k=some b/\b'=eC σ b/\∀j∈qU b.data,j∈ks:=by
  intro k' b' hb hl;rcases hold k' b' hb with⟨_,rfl⟩|g
  ·cases hl
  ·exact g
 have oq:∀k∈E.fx,ρ'.key k=ρ.key k:=by
  intro k hk;rcases MY k hk with e|⟨e1,e2⟩
  ·exact JY k e
  ·have:=bZ k e1;rw[e2]at this;exact this
 refine⟨ρ',⟨⟨λk x hx=> ?_,hext.le.aW⟩,hext.aW,λk hk=> ?_⟩,λk hk=> ?_,{defers:=hR.defers,size:=hR.size,fr:= ?_,bE:=hR.bE,hp:= ?_}⟩
 ·rw[oq k (hE.wW k x hx)];exact hext.le.key k x hx
 ·rw[oq k hk];exact hext.fix k hk
 ·simp only[fn,LV.blk];rcases MY k hk with e|⟨e1,e2⟩
  ·rw[iR.1 e];simp
  ·by_cases hm:k∈mv
   ·rw[iR.1 hm];simp
   ·rw[iR.2 hm];obtain⟨b,hb⟩:=oE (σ:=σ) h2 k e1;rw[e2]at hb;rw[hb];simp
 ·intro t sv ht;obtain⟨c,c1,rfl,c3⟩:=vC h1 t sv ht;exact(yJ (ρ:=ρ) (ρ':=ρ') (σ:=σ) rfl c _ (λk hk=>bZ k (c3 k hk))).2 (hR.fr t c (by simp only[fn,LV.sv];exact c1))
 ·constructor
  ·intro k' b' hb;rcases hold k' b' hb with⟨_,rfl⟩|⟨k,hk,rfl,b,b1,rfl,b3⟩
   ·exact .inl rfl
   ·exact(kY (ρ:=ρ) (ρ':=ρ') (σ:=σ) rfl k b (bZ k hk) (λj hj=>bZ j (b3 j hj))).2 (hR.hp.blk k b (by simp only[fn,LV.blk];exact b1))
  ·intro k1 k2 x1 x2 b1 b2 hx1 Om a8 he hb1 hb2 iT iD;obtain⟨j1,m1,rfl,c1,d1,rfl,_⟩:=Cu k1 b1 hb1 iT;obtain⟨j2,m2,rfl,c2,d2,rfl,_⟩:=Cu k2 b2 hb2 iD;rw[bZ j1 m1]at hx1;rw[bZ j2 m2]at Om;exact hR.hp.sep j1 j2 x1 x2 c1 c2 hx1 Om (λh=>a8 (by rw[h])) he (by simp only[fn,LV.blk];exact d1) (by simp only[fn,LV.blk];exact d2) (by rwa [eC,cT]at iT) (by rwa [eC,cT]at iD)
  ·intro k' b' x hb hw hl hx;obtain⟨k,hk,rfl,b,b1,rfl,_⟩:=Cu k' b' hb hl;rw[bZ k hk]at hx;exact hR.hp.own k b x (by simp only[fn,LV.blk];exact b1) hw (by rwa [eC,cT]at hl) hx
  ·intro k' x hx;simp only[fn,LV.blk];rcases OP k' x hx with hm|⟨hm,k,hk,rfl,_⟩
   ·exact⟨_,iR.1 hm⟩
   ·rw[iR.2 hm];exact oE (σ:=σ) h2 k hk
  ·exact hR.hp.aW
  ·intro k' b' x hb hw hl hx;obtain⟨k,hk,rfl,b,b1,rfl,_⟩:=Cu k' b' hb hl;rw[bZ k hk]at hx;exact hR.hp.fB k b x (by simp only[fn,LV.blk];exact b1) hw (by rwa [eC,cT]at hl) hx
theorem Rm {E:Env} (hE:E.OK) (σ:Nat->Nat) (ts ks mv:List Nat) {c:Code} {K:bF} {fr:List (Nat×SV)} {hp:List (Nat×aC)} (h:JX E.fx σ ts ks mv fr hp=true)
  (hs:dY E c K (fC σ fr ts) (wz mv++iV σ hp ks)):dY E c K fr hp:=⟨λa w hR=>hs.run a w (WK hE h hR)⟩
theorem Rn {E:Env} (hE:E.OK) (σ:Nat->Nat) (ts ks:List Nat) {c:Code} {K:bF} {fr:List (Nat×SV)} {hp:List (Nat×aC)} (h:iK E.fx σ ts ks fr hp=true)
  (hs:dY E c K (fC σ fr ts) (iV σ hp ks)):dY E c K fr hp:=⟨yK hE σ ts ks h hs.run⟩
theorem get_nil {hp:List (Nat×aC)}:∀j c,(j,c)∈([]:List (Nat×aC))->find hp j=some c:=λ_ _ h=>by cases h
theorem cI {hp l:List (Nat×aC)} {k:Nat} {b:aC} (h:find hp k=some b) (r:∀j c,(j,c)∈l->find hp j=some c):∀j c,(j,c)∈(k,b)::l->find hp j=some c:=by
 intro j c hm;rcases Λ.1 hm with e|e
 ·cases e;exact h
 ·exact r j c e
theorem bl.same {fk:List (Nat×aC)}:bl fk [] λk=>k:=⟨λ_ _ _ _ _ _ h _=>h,(λ_ _ h=>by cases h),λ_ _ h=>by cases h⟩
mutual
theorem E9:∀c:SV,fT (λk=>k) c=c
 |.ptr .. |.aM .. |.any|.val _|.nat _|.int _|.frac _|.atom _=>rfl
 |.agg cs=>by rw[fT,mg cs]
 |.bQ vs=>by rw[fT,mg vs]
 |.clo f a b=>by rw[fT,mg a,mg b]
 |.yld k rc ts a=>by rw[fT,mg a]
theorem mg:∀l:List SV,mI (λk=>k) l=l
 |[]=>rfl
 |c::l=>by rw[mI,E9 c,mg l]
end
theorem LO (b:aC):eC (λk=>k) b=b:=by
 obtain⟨ty,wr,d⟩:=b;cases d<;>simp only[eC,Cf,mg]
theorem sI:∀l:List (Nat×aC),lJ (λk=>k) l=l
 |[]=>rfl
 |(k,b)::r=>by rw[lJ,LO,sI r]
theorem rH {P:Program} {T:List (TypeId×TI)} {Z:List Nat} (hT:dz P T) (hm:P.follows .mixedOrders=true) {f:FuncId} {fn':Func} {code:Code} (hf:P.funcs[f]? =some fn') (hb:fn'.body=some code)
  (hn:(fn'.name== "runtime.NumGoroutine")=false) {args:List SV} {fk:List (Nat×aC)} {c:SV} {upd:List (Nat×aC)} (hs:cb args fk c [] upd) (hnt:Nat.ble args.length fn'.ntmps=true)
  (h:∀W0 w0 ρ0,Env.OK ⟨P,T,W0,w0,fn'.ntmps,ρ0,az fk,Z,none⟩->Ee ⟨P,T,W0,w0,fn'.ntmps,ρ0,az fk,Z,none⟩ code (N9 T fn'.results.toList (Fin c [] upd)) (enum 0 args) fk):
  aL P f args fk c [] upd:=by
 have:=gY hT hm hf hb hn hs hnt (λk=>k) bl.same h;rwa [mg,sI,E9,sI upd]at this
section
variable {P:Program} {o:Oper} {fr:List (Nat×SV)} {hp:List (Nat×aC)}
theorem Hv {ρ:bY} {v:Value} {k i:Nat} (h:Has ρ (.ptr k 1 i 0) v):Has ρ (.ptr k 1 0 i) v:=by
 obtain⟨z,⟨b,t',h1,h2⟩,h3⟩:=h;refine⟨z,⟨b,t',h1, ?_⟩,h3⟩;rw[h2];simp
theorem dc {K:SV->List (Nat×aC)->List (Nat×aC)->List (Nat×aC)->Prop} {t ty:TypeId} {x:Operand} {ti:TI} {k i:Nat} {wr:Bool} {cs l:List SV} {c:SV} (ho:o.op= .load t x) (hx:bg fr x (.ptr k 1 i 0))
  (hf:find hp k=some ⟨ty,wr,.one cs⟩) (ht:b6 P t ti) (hs:sub 64 cs i ti.size=some l) (gM:ti.size≠0) (hsh:eR ti l=some c) (hK:K c [(k,⟨ty,wr,.one cs⟩)] [] []):
  ∃c fk new upd,bR P o fr fk c new upd/\(∀j b,(j,b)∈fk->find hp j=some b)/\(∀j b,(j,b)∈new->find hp j=none)/\(∀j b,(j,b)∈upd->∃b0,(j,b0)∈fk/\b0.wr=true/\b0.data.live=true/\b.wr=true)/\K c fk new upd:=
 ⟨c,_,[],[],yH (ob:=none) (i:=0) (s:=1) ho (λρ a h=>Hv (hx ρ a h)) ht (μ.2 rfl) rfl trivial hs gM hsh,eB hf,ak,ar,hK⟩
theorem Ro {K:SV->List (Nat×aC)->List (Nat×aC)->List (Nat×aC)->Prop} {t ty:TypeId} {x y:Operand} {ti:TI} {k i:Nat} {cs cs' nw:List SV} {sv:SV} (ho:o.op= .store t x y) (hx:bg fr x (.ptr k 1 i 0))
  (hy:bg fr y sv) (hf:find hp k=some ⟨ty,true,.one cs⟩) (ht:b6 P t ti) (hc:qJ sv=some nw) (hw:SV.cP nw=ti.size) (hle:i+ti.size<=SV.cP cs) (cl:put 64 cs i ti.size nw=some cs')
  (hK:K .any [(k,⟨ty,true,.one cs⟩)] [] [(k,⟨ty,true,.one cs'⟩)]):
  ∃c fk new upd,bR P o fr fk c new upd/\(∀j b,(j,b)∈fk->find hp j=some b)/\(∀j b,(j,b)∈new->find hp j=none)/\(∀j b,(j,b)∈upd->∃b0,(j,b0)∈fk/\b0.wr=true/\b0.data.live=true/\b.wr=true)/\K c fk new upd:=
 ⟨.any,_,[],_,FX (ob:=none) (i:=0) (s:=1) ho (λρ a h=>Hv (hx ρ a h)) hy ht (μ.2 rfl) rfl trivial hc hw hle cl rfl,eB hf,ak,eT (μ.2 rfl) rfl rfl rfl,hK⟩
end
end Go.Sx
namespace Go.Proofs.YtadphegfhgmgmaaGreatDoor
open Go.Sx
abbrev wkC (r m p:Nat) (d:Rat):List SV:=[.aM 1002 1 0 r,iv m,.aM 1003 1 0 p,.frac d]
abbrev wkB (b:Bool) (r m p:Nat) (d:Rat):aC:=⟨183,b,.one (wkC r m p d)⟩
abbrev Hw (b:Bool) (l:List SV):aC:=⟨33,b,.one l⟩
abbrev rk (i c:Nat):SV:=.aM (1010+i) 5 0 c
abbrev pvB (b:Bool) (l:List Int):aC:=⟨3,b,.ints .i64 l⟩
abbrev xy (b:Bool) (l:List Rat):aC:=⟨49,b,.cf l⟩
abbrev jy (r c:Nat):List SV:=(Η r).map λi=>rk i c
def nU (b:Nat->Bool) (M:Nat->List Rat):Nat->Nat->List (Nat×aC)
 |0,_=>[]
 |n+1,i=>(1010+i,xy (b i) (M i))::nU b M n (i+1)
abbrev hpE (uW uR uP:Bool) (w:Nat->Bool) (r m c p:Nat) (d:Rat) (pv:List Int) (M:Nat->List Rat):List (Nat×aC):=
 (1001,wkB uW r m p d)::(1002,Hw uR (jy r c))::(1003,pvB uP pv)::nU w M r 0
theorem ab5 {r i k:Nat} (m c p:Nat) (d:Rat) (pv:List Int) (M:Nat->List Rat) (hr:r<=6) (hi:i<r) (hk:k<i):
  aL Tryz.prog 162 [.ptr 1001 0 0 0,iv i,iv k] (hpE true true false (λ_=>false) r m c p d pv M) (.bQ []) []
   [(1001,wkB true r m p (-d)),(1002,Hw true (((jy r c).set i (rk k c)).set k (rk i c)))]:=by
 have k1:=pK d;obtain rfl|rfl|rfl|rfl|rfl:r=2\/r=3\/r=4\/r=5\/r=6:=aa
 all_goals obtain rfl|rfl|rfl|rfl|rfl:i=1\/i=2\/i=3\/i=4\/i=5:=aa
 all_goals first|omega|skip
 all_goals obtain rfl|rfl|rfl|rfl|rfl:k=0\/k=1\/k=2\/k=3\/k=4:=aa
 all_goals first|omega|skip
 all_goals
  refine rH (Z:=[]) aH bC Tryz.func162 rfl aD (cb.of rfl rfl rfl rfl rfl rfl rfl rfl rfl rfl rfl) rfl ?_;intro W0 w0 ρ0 hE;conv=>whnf
  (repeat((first|refine ag rfl rfl ?_|refine aq aD ?_|refine ao Q3 ?_|refine aN aJ ?_|refine dc rfl (ai rfl) rfl (ez rfl) rfl (Ϗ _) rfl ?_|refine Ro rfl (ai rfl) (ai rfl) rfl (ez rfl) rfl rfl (Nat.le_of_ble_eq_true rfl) rfl ?_);conv=>whnf))
  exact⟨au.refl _,get_nil,cI rfl (cI rfl get_nil)⟩
theorem WM (i:Int):aL Tryz.prog 162 [.ptr 1001 0 0 0,iv i,iv i] [(1001,⟨0,false,.dead⟩)] (.bQ []) [] []:=by
 refine rH (Z:=[]) aH bC Tryz.func162 rfl aD (cb.of rfl rfl rfl rfl rfl rfl rfl rfl rfl rfl rfl) rfl ?_;intro W0 w0 ρ0 hE;conv=>whnf
 (repeat(first|(refine ae rfl rfl ?_;conv=>whnf)|(rw[bne_self_eq_false];conv=>whnf)))
 exact⟨au.refl _,get_nil,get_nil⟩
end Go.Proofs.YtadphegfhgmgmaaGreatDoor
namespace Go.Sx
def nV (hp:List (Nat×aC)):List Nat->List (Nat×aC)
 |[]=>[]
 |k::r=>match find hp k with
  |some b=>(k,b)::nV hp r
  |none=>nV hp r
theorem o9 (hp:List (Nat×aC)):∀ks,iV (λk=>k) hp ks=nV hp ks
 |[]=>rfl
 |k::r=>by
  rw[iV,nV,o9 hp r];cases find hp k with
  |none=>rfl
  |some b=>simp only[LO]
theorem wB {E:Env} (hE:E.OK) {c:Code} {K:bF} {fr:List (Nat×SV)} {hp:List (Nat×aC)} (ts:List Nat) (I:Nat->List (Nat×SV)->List (Nat×aC)->Prop) (m:Nat)
  (h0:iK E.fx (λk=>k) ts E.fx fr hp=true) (hI:I m (fC (λk=>k) fr ts) (nV hp E.fx))
  (h:∀m fr hp,I m fr hp->Ee E c (λe fr' cl=>match e with
   |.normal=>∃m',m'<m/\iK E.fx (λk=>k) ts E.fx fr' cl=true/\I m' (fC (λk=>k) fr' ts) (nV cl E.fx)
   |e=>K e fr' cl) fr hp):dY E (.loop c) K fr hp:=by
 refine⟨?_⟩;refine yK hE (λk=>k) ts E.fx h0 (Ef (λm fr hp=>∃fr0 vD,(∀a w,RR E (fn fr hp) a w->RR E (fn fr0 vD) a w)/\I m fr0 vD) m ⟨_,_,λ_ _ h=>h,by rw[o9];exact hI⟩ ?_);rintro m fr hp ⟨fr0,vD,hw,hI⟩ a w hR;refine Code.wpIn_mono ?_ (jM hE c _ fr0 vD (h m fr0 vD hI) a w (hw a w hR));rintro e a' w' ⟨fr',cl,h1,h2⟩;cases e with
 |normal=>
  obtain⟨m',aE,hok,KK⟩:=h1;rw[<-o9]at KK;exact⟨fr',cl,⟨m',aE,_,_,λa w hR=>px hE hok hR,KK⟩,h2⟩
 |_=>exact⟨fr',cl,h1,h2⟩
theorem jX {fx:List Nat} {σ:Nat->Nat} {ts ks:List Nat} {fr:List (Nat×SV)} {hp:List (Nat×aC)} (h1:ek ks fr ts=true) (h2:dI ks hp ks=true) (h3:(ud σ ks&&vz σ ks fx)=true):iK fx σ ts ks fr hp=true:=by
 rw[iK,h1,h2,h3];rfl
theorem nW {ks:List Nat} {hp:List (Nat×aC)}:dI ks hp []=true:=rfl
theorem bw {ks r:List Nat} {hp:List (Nat×aC)} {k:Nat} {b:aC} (h:find hp k=some b) (h1:fD (qU b.data) ks=true) (h2:dI ks hp r=true):dI ks hp (k::r)=true:=by
 simp only[dI,h,h1,h2,Bool.and_self]
theorem Rp {l m r:List Nat}:fD (l++m) r=(fD l r&&fD m r):=by
 induction l with
 |nil=>rfl
 |cons x l ih=>simp only[af3,fD,ih,Bool.and_assoc]
theorem xz {r:List Nat}:fD (jo []) r=true:=rfl
theorem cR {k:Nat} {b:aC} {l:List (Nat×aC)} {r:List Nat} (h:fD (qU b.data) r=true) (h2:fD (jo l) r=true):fD (jo ((k,b)::l)) r=true:=by
 rw[jo,Rp,h,h2];rfl
theorem zh {A B:List SV} {x:SV} (hx:x.width=1):∀(f:Nat),(∀a∈A,a.width=1)->A.length+1<f->sub f (A++x::B) A.length 1=some [x]:=by
 induction A with
 |nil=>
  intro f _ hf
  match f,hf with
  |f+2,_=>simp[sub,hx]
 |cons a A ih=>
  intro f ha hf
  match f,hf with
  |f+1,hf=>
   have:=ih f (λb hb=>ha b (Δ _ hb)) (by simp only[ϊ]at hf;omega);simp only[af3,ϊ,sub,ha a (η ..),Nat.add_sub_cancel];rw[show Nat.ble 1 (A.length+1)=true from Nat.ble_eq_true_of_le aa];exact this
inductive WL:List SV->List SV->Prop
 |refl {l}:WL l l
 |eq {c l m}:WL l m->WL (c::l) (c::m)
 |any {c l m}:c.width=1->WL l m->WL (c::l) (.any::m)
theorem WL.has {ρ:bY} {l m:List SV} (h:WL l m):∀z,aw ρ l z->aw ρ m z:=by
 induction h with
 |refl=>exact λ_ h=>h
 |eq _ ih=>
  intro z hz;simp only[aw]at hz ⊢;obtain⟨x,r,rfl,h1,h2⟩:=hz;exact⟨x,r,rfl,h1,ih r h2⟩
 |any hw _ ih=>
  intro z hz;simp only[aw]at hz ⊢;obtain⟨x,r,rfl,h1,h2⟩:=hz;refine⟨x,r,rfl, ?_,ih r h2⟩;obtain⟨g1,g2⟩:=aI.len _ x h1;rw[hw]at g1
  match x,g1,g2 with
  |[v],_,g2=>simp only[aI];exact⟨v,rfl,g2 v (μ.2 rfl)⟩
inductive mL:aC->aC->Prop
 |dead {b ty}:mL b ⟨ty,false,.dead⟩
 |same {ty wr wr' d}:(wr'=true->wr=true)->mL ⟨ty,wr,d⟩ ⟨ty,wr',d⟩
 |one {ty wr wr' cs cs'}:(wr'=true->wr=true)->WL cs cs'->mL ⟨ty,wr,.one cs⟩ ⟨ty,wr',.one cs'⟩
theorem Jb {p:Prop} (h:false=true):p:=by cases h
theorem mL.ok {b b':aC} (h:mL b b') {ρ:bY} {w:World} {k:Nat} (hb:jl ρ w k b):jl ρ w k b':=by
 cases h with
 |dead=>exact .inl rfl
 |same=>exact hb
 |one _ hl=>
  rcases hb with h|⟨b,t,vs,ex,h1,h2,⟨z,h3,h4⟩,h5⟩|⟨h1,h2⟩
  ·cases h
  ·exact .inr (.inl ⟨b,t,vs,ex,h1,h2,⟨z,hl.has z h3,h4⟩,h5⟩)
  ·exact .inr (.inr ⟨h1,h2⟩)
theorem mL.live {b b':aC} (h:mL b b') (hl:b'.data.live=true):b.data.live=true/\(b'.wr=true->b.wr=true):=by
 cases h with
 |dead=>cases hl
 |same g=>exact⟨hl,g⟩
 |one g _=>exact⟨rfl,g⟩
def Cn (hp:List (Nat×aC)):List (Nat×aC)->List (Nat×aC)
 |[]=>[]
 |(k,_)::r=>match find hp k with
  |some b=>(k,b)::Cn hp r
  |none=>Cn hp r
theorem Bp {hp:List (Nat×aC)}:∀{l:List (Nat×aC)} (j:Nat) (b:aC),(j,b)∈Cn hp l->find hp j=some b
 |(k,_)::r,j,b,hm=>by
  rw[Cn]at hm;cases hf:find hp k with
  |none=>rw[hf]at hm;exact Bp j b hm
  |some c=>
   rw[hf]at hm;rcases Λ.1 hm with e|e
   ·cases e;exact hf
   ·exact Bp j b e
inductive Ja (hp:List (Nat×aC)):List (Nat×aC)->Prop
 |nil:Ja hp []
 |cons {k b b' l}:find hp k=some b->mL b b'->Ja hp l->Ja hp ((k,b')::l)
theorem Ja.mem {hp l:List (Nat×aC)} (h:Ja hp l):∀k b',(k,b')∈l->∃b,(k,b)∈Cn hp l/\mL b b':=by
 induction h with
 |nil=>intro _ _ h;cases h
 |cons hf hw _ ih=>
  intro j b' hm;rw[Cn,hf];rcases Λ.1 hm with e|e
  ·cases e;exact⟨_,η ..,hw⟩
  ·obtain⟨c,h1,h2⟩:=ih j b' e;exact⟨c,Δ _ h1,h2⟩
theorem n7.view {hp l new:List (Nat×aC)} {ρ:bY} {w:World} (h:Ja hp l) (cl:n7 (Cn hp l) new ρ w):n7 l new ρ w:=by
 refine⟨λk b hk=> ?_,λk k' x x' b b' hk kQ e1 e2 e3 e4 e5 e6=> ?_,cl.aW,λk b x hk hw hl hx=> ?_,cl.fresh⟩
 ·obtain⟨c,h1,h2⟩:=h.mem k b hk;exact h2.ok (cl.oq k c h1)
 ·obtain⟨c,h1,h2⟩:=h.mem k b hk;obtain⟨c',h1',h2'⟩:=h.mem k' b' kQ;have:=cl.sep k k' x x' c c' h1 h1' e1 e2 e3 e4 (h2.live e5).1 (h2'.live e6).1;cases hb:b.wr with
  |false=>rfl
  |true=>rw[(h2.live e5).2 hb]at this;cases this
 ·obtain⟨c,h1,h2⟩:=h.mem k b hk;exact cl.fB k c x h1 ((h2.live hl).2 hw) (h2.live hl).1 hx
section
variable {P:Program} {f:FuncId} {args:List SV} {c:SV} {hp:List (Nat×aC)}
theorem Co {k:SV->List (Nat×aC)->List (Nat×aC)->List (Nat×aC)->Prop} {l upd:List (Nat×aC)} (h:aL P f args l c [] upd) (hw:Ja hp l) (hu:mK (Cn hp l) upd) (hk:k c (Cn hp l) [] upd):
  ∃fk c new upd,aL P f args fk c new upd/\yx hp fk/\vG hp new/\mK fk upd/\k c fk new upd:=
 ⟨Cn hp l,c,[],upd,aL.ahq h λ_ _=>n7.view hw,Bp,ak,hu,hk⟩
end
theorem jd {fk upd:List (Nat×aC)} (h:CR fk upd=true) (hw:(upd.all λx=>x.2.wr)=true):mK fk upd:=λj b hm=>by
 obtain⟨b0,h1,h2,h3⟩:=pF h j b hm;exact⟨b0,h1,h2,h3,List.all_eq_true.1 hw _ hm⟩
def WN (σ:Nat->Nat) (k:Nat):List Nat->Bool
 |[]=>true
 |j::r=>(ϋ j k|| !(ϋ (σ k) (σ j)))&&WN σ k r
theorem Du {σ:Nat->Nat} {k:Nat}:∀{l:List Nat},WN σ k l=true->∀j∈l,k≠j->σ k≠σ j
 |i::r,h,j,hj,a8=>by
  simp only[WN,Μ,af8,agk]at h;rcases Λ.1 hj with rfl|hj
  ·rcases h.1 with g|g
   ·exact absurd (χ g).symm a8
   ·intro e;rw[e]at g;simp at g
  ·exact Du h.2 j hj a8
def Fa (σ:Nat->Nat) (ks:List Nat):List (Nat×aC)->Bool
 |[]=>true
 |(k,b)::r=>(!b.wr||WN σ k ks)&&Fa σ ks r
theorem yj {σ:Nat->Nat} {ks:List Nat}:∀{l:List (Nat×aC)},Fa σ ks l=true->∀q b,(q,b)∈l->b.wr=true->∀j∈ks,q≠j->σ q≠σ j
 |(k,b)::r,h,q,c,hm,hw,j,hj,a8=>by
  simp only[Fa,Μ,af8,agk]at h;rcases Λ.1 hm with e|e
  ·cases e;rcases h.1 with g|g
   ·rw[hw]at g;cases g
   ·exact Du g j hj a8
  ·exact yj h.2 q c e hw j hj a8
theorem bl.of {fk:List (Nat×aC)} {σ:Nat->Nat} (h:Fa σ (az fk) fk=true):bl fk [] σ:=
 ⟨λq q' b b' hq uA a8 hw=>yj h q b hq hw q' (aR.2 ⟨b',uA⟩) a8,(λ_ _ h=>by cases h),λ_ _ h=>by cases h⟩
end Go.Sx
namespace Go.Proofs.YtadphegfhgmgmaaGreatDoor
open Go.Sx
theorem p0 {l:List Rat} {j:Nat} {x:Rat} (h:j<l.length):(l.set j x).getD j 0=x:=by simp[δ,h]
theorem gT {l:List Rat} {j k:Nat} {x:Rat} (h:k≠j):(l.set j x).getD k 0=l.getD k 0:=by simp[δ,List.getElem?_set_ne (ahf h)]
theorem mF {o:List Rat} {n:Nat} {F:Nat->Rat} (hl:o.length=n) (h:∀k,k<n->o.getD k 0=F k):o=(Η n).map F:=by
 refine List.ext_getElem (by simp[hl]) λk h1 h2=> ?_
 have:=h k aa;rw[δ,List.getElem?_eq_getElem h1]at this;simpa using this
abbrev wvB (r m:Nat) (d:Rat):aC:=⟨183,false,.one [.aM 1002 1 0 r,iv m,.any,.frac d]⟩
abbrev qB (q:Rat):aC:=⟨49,false,.one [.frac q]⟩
abbrev um (A B:List SV) (n:Nat):List SV:=A++ .aM 1010 5 0 n::B
theorem WO {r i:Nat} (A B:List SV) (m c:Nat) (d q:Rat) (x:List Rat) (F:Nat->Rat) (g:FuncId) (hi:A.length=i) (hA:∀a∈A,a.width=1) (hr:r<=40) (Lh:i<r) (hc:c<=4096) (hx:x.length=c)
  (hR:fD (il (um A B c)) [1001,1002,1006,1010]=true)
  (hf:∀k,k<c->aL Tryz.prog g ([]++([iv (k:Nat),.frac (x.getD k 0)]++[.ptr 1006 0 0 0])) [(1006,qB q)] (.frac (F k)) [] []) (σ:Nat->Nat) (hσ:bl [(1001,wvB r m d),(1002,Hw false (um A B c)),(1006,qB q),(1010,xy true x)] [] σ):
  aL Tryz.prog 199 (mI σ [.ptr 1001 0 0 0,iv i,.clo g [] [.ptr 1006 0 0 0]]) (lJ σ [(1001,wvB r m d),(1002,Hw false (um A B c)),(1006,qB q),(1010,xy true x)]) (fT σ (.bQ [])) (lJ σ []) (lJ σ [(1010,xy true ((Η c).map F))]):=by
 refine gY (Z:=[]) aH bC Tryz.func199 rfl aD (cb.of rfl (by exact cR rfl (cR hR (cR rfl (cR rfl xz)))) rfl rfl rfl rfl rfl rfl rfl rfl rfl) rfl σ hσ ?_;intro W0 w0 ρ0 hE;have hs:sub 64 (um A B c) A.length 1=some [.aM 1010 5 0 c]:=zh rfl 64 hA aa;obtain⟨AA,hAA⟩:∃X,X=A:=⟨A,rfl⟩;rcases A with _|⟨a,A⟩
 all_goals
  subst hi;conv=>whnf
  (repeat((first|refine ao Q3 ?_|refine dc rfl (ai rfl) rfl (ez rfl) hs (Ϗ _) rfl ?_|rw[ι]|rw[υ]);conv=>whnf))
  refine wB hE [0,1,2,14,15,16] (λm' fr hp=>∃(j:Nat) (o:List Rat),m'=c - j/\j<=c/\o.length=c/\(∀k,k<j->o.getD k 0=F k)/\(∀k,j<=k->o.getD k 0=x.getD k 0)/\
   fr=[(0,.ptr 1001 0 0 0),(1,iv AA.length),(2,.clo g [] [.ptr 1006 0 0 0]),(14,.aM 1010 5 0 c),(15,iv c),(16,iv (j:Nat))]/\hp=[(1001,wvB r m d),(1002,Hw false (um AA B c)),(1006,qB q),(1010,xy true o)]) c ?_ ?_ ?_
  ·exact jX aD (by exact bw rfl rfl (bw rfl hR (bw rfl rfl (bw rfl rfl nW)))) aD
  ·exact⟨0,x,rfl,Γ _,hx,λk h=>aa,λk _=>rfl,by subst hAA;rfl,by subst hAA;rfl⟩
  rintro m _ _ ⟨j,o,rfl,hj,hl,ho,hu,rfl,rfl⟩;subst hAA;conv=>whnf
  by_cases aE:j<c
  ·have t1:=gZ aE;have t2:=bW (i:=j) aa;have hk:=hf j aE;rw[<-hu j (ζ _)]at hk
   (repeat((first|refine aq aD ?_|refine aX Q3 ?_|refine ao Q3 ?_|refine od aJ rfl ?_|refine ay t1 ?_|refine dc rfl (ai rfl) rfl (ez rfl) hs (Ϗ _) rfl ?_|rw[t1]|rw[t2]|rw[ι]|rw[υ]);conv=>whnf))
   refine⟨c - (j+1),aa,jX aD (by exact bw rfl rfl (bw rfl hR (bw rfl rfl (bw rfl rfl nW)))) aD,j+1,o.set j (F j),rfl,aE,by rw[ϒ];exact hl, ?_, ?_,rfl,rfl⟩
   ·intro k h;by_cases e:k=j
    ·rw[e,p0 aa]
    ·rw[gT e];exact ho k aa
   ·intro k h;rw[gT aa];exact hu k aa
  ·have t1:=iH aE;obtain rfl:j=c:=aa;have hx:=mF hl ho
   (repeat(first|(refine aG t1 ?_;conv=>whnf)))
   exact⟨au.refl _,get_nil,cI (by rw[<-hx];rfl) get_nil⟩
theorem gU {n:Nat} (h:sz n<=4398046511104):(af n).length<274877906944:=by
 have:=KZ (n:=n) (M:=137438953472) aa;omega
theorem mh:lh 4398046511104 where
 sQ:=ax
 cmp a b ha hb:=GC a b (by have:=gU ha;omega) (by have:=gU hb;omega)
 add a b h:=YL a b (by have:=gU (n:=a) (Ι (fY aa) h);omega) (by have:=gU (n:=b) (Ι (fY aa) h);omega)
 sub a b ha h:=YM a b (by have:=gU ha;omega) h
 aa4 a b hb h:=Px a b (by have:=gU hb;have:=iX (Nat.lt_trans h (cp b));omega) (by have:=gU hb;omega) h
 mul a b h:=YN a b (gU aa) (gU aa)
 div a b ha hb h0:=PI a b (gU ha) (gU hb) h0
 aa5 a:=Pq a
 gcd a b ha hb:=YU a b (gU ha) (gU hb)
theorem uq (a b:Rat) (h:fs a+fs b<=4398046511104):C0 33 [.frac a,.frac b] (.frac (a+b)):=PF mh a b (by unfold fs at h;omega)
theorem pa (a b:Rat) (h:fs a+fs b<=4398046511104):C0 37 [.frac a,.frac b] (.frac (a*b)):=Jg mh a b (by unfold fs at h;omega)
theorem Dv (a b:Rat) (hb:b≠0) (h:fs a+fs b<=4398046511104):C0 45 [.frac a,.frac b] (.bQ [.frac (a/b),.val (.int .i64 0)]):=Po mh a b hb (by unfold fs at h;omega)
theorem Hx (a b:Rat) (h:fs a+fs b<=4398046511104):C0 43 [.frac a,.frac b] (.frac (a - b)):=by
 have k1:=pK b;have k2:=uq a (-b) (by rw[ju];exact h);rw[<-Rat.sub_eq_add_neg]at k2;refine bB [] Tryz.func43 ?_;intro W0 w0 ρ0 hE;conv=>whnf
 (repeat(first|(refine aq aD ?_;conv=>whnf)|(refine aN aJ ?_;conv=>whnf)));exact Q4
theorem Rq (k:Int) (x q:Rat) (hq:q≠0) (h:fs x+fs q<=4398046511104):aL Tryz.prog 200 ([]++([iv k,.frac x]++[.ptr 1006 0 0 0])) [(1006,qB q)] (.frac (x/q)) [] []:=by
 have k1:=Dv x q hq h;refine rH (Z:=[]) aH bC Tryz.func200 rfl aD (cb.of rfl rfl rfl rfl rfl rfl rfl rfl rfl rfl rfl) rfl ?_;intro W0 w0 ρ0 hE;conv=>whnf
 (repeat(first|(refine aN aJ ?_;conv=>whnf)))
 exact⟨au.refl _,get_nil,get_nil⟩
abbrev wbB:aC:=⟨159,false,.one [.ptr 1001 0 0 0]⟩
abbrev WQ (C D:List SV) (n:Nat):List SV:=C++ .aM 1011 5 0 n::D
theorem Rr {r top k:Nat} (C D:List SV) (m c A:Nat) (d x q:Rat) (T o:List Rat) (hi:C.length=top) (hC:∀a∈C,a.width=1) (hr:r<=40) (ht:top<r) (hk:k<c) (hT:T.length=c)
  (hR:fD (il (WQ C D c)) [1006,1005,1001,1002,1011,1010]=true) (hx:fs x<=A) (hq:fs q<=A) (hn:fs (T.getD k 0)<=2*A) (hA:4*A<=4398046511104):
  aL Tryz.prog 201 ([]++([iv (k:Nat),.frac x]++[.ptr 1006 0 0 0,.ptr 1005 0 0 0,b9 [iv top]])) [(1006,qB q),(1005,wbB),(1001,wvB r m d),(1002,Hw false (WQ C D c)),(1011,xy false T),(1010,xy false o)] (.frac (x - q*T.getD k 0)) [] []:=by
 have k1:=pa q (T.getD k 0) aa;have k2:=Hx x (q*T.getD k 0) (by have:=cH q (T.getD k 0);omega);refine rH (Z:=[]) aH bC Tryz.func201 rfl aD (cb.of rfl (by exact cR rfl (cR rfl (cR rfl (cR hR (cR rfl (cR rfl xz)))))) rfl rfl rfl rfl rfl rfl rfl rfl rfl) rfl ?_;intro W0 w0 ρ0 hE;have hs:sub 64 (WQ C D c) C.length 1=some [.aM 1011 5 0 c]:=zh rfl 64 hC aa;rcases C with _|⟨a,C⟩
 all_goals
  subst hi;conv=>whnf
  (repeat((first|refine aq aD ?_|refine aX Q3 ?_|refine ao Q3 ?_|refine aN aJ ?_|refine an Q6 ?_|refine dc rfl (ai rfl) rfl (ez rfl) hs (Ϗ _) rfl ?_|rw[ι]|rw[υ]);conv=>whnf))
  exact⟨au.refl _,get_nil,get_nil⟩
theorem Rs {i k:Nat}:(((i:Nat):Int)==((k:Nat):Int))=decide (i=k):=by
 by_cases e:i=k
 ·subst e;rw[decide_eq_true rfl];exact beq_self_eq_true _
 ·rw[decide_eq_false e];exact beq_eq_false_iff_ne.2 aa
theorem Rt (l:List (Int×Int)) (hl:l.length<=maxLen) (hq:∀q∈l,my q) {n:Nat} (hn:n<=5):C0 50 [iv n,bN 2 qA l] (mA n n (fH l n)):=by
 have UH:(0:Int)<=0/\(0:Int)<256:=ax;have k0:=JN (0,0,l) ⟨UH,UH,hl,hq⟩ (r:=n) (c:=n) aa aa
 replace k0:C0 27 [mQ (0,0,l),iv n,iv n] (mA n n (eZ l (n*n))):=k0
 have lX:=gS l (n*n);have hX:∀p i,p<n->i<n->(eZ l (n*n)).getD (p*n+i) 0=eQ l (p*n+i):=λp i hp hi=>oZ (dP hp hi)
 have hP:(fH l n).length=n*n:=eD ..;have hPe:∀i k,i<n->k<n->(fH l n).getD (i*n+k) 0=delta i k+aj n λp=>eQ l (p*n+i)*eQ l (p*n+k):=λi k hi hk=>zg hi hk
 have WB:∀p,fs (eQ l p)<=130:=λp=>oR (oo hq p)
 have hnn:n*n<=5*5:=Ϧ hn hn;generalize eZ l (n*n)=X at*;generalize fH l n=P at*;generalize eQ l=w at*;refine kg [] Tryz.func50 ?_;intro w0 ρ0 hE;conv=>whnf
 (repeat(first|(refine aN aJ ?_;conv=>whnf)))
 refine uS (j:=6) (k:=2001) (s:=5) (p:=2) (blk:=eJ []) rfl rfl rfl rfl rfl ?_
 refine cG hE (λk=>k) [0,4,5,6,7] [4,5,6,2001] (λm fr hp=>∃i:Nat,m=n - i/\i<=n/\fr=[(0,iv n),(4,.ptr 4 0 0 0),(5,.ptr 5 0 0 0),(6,.ptr 6 0 0 0),(7,iv (i:Nat))]/\
  hp=[(4,zM),(5,⟨35,true,.one (mC n n X)⟩),(6,⟨35,true,.one [iv n,iv n,.aM 2001 5 0 (i*n)]⟩),(2001,eJ (P.take (i*n)))]) n ?_ ?_ ?_
 ·kernel_rfl
 ·exact⟨0,rfl,Γ _,rfl,by rw[Nat.zero_mul];rfl⟩
 rintro m _ _ ⟨i,rfl,hi,rfl,rfl⟩;by_cases aE:i<n
 ·have t1:=gZ aE;have t2:=bW (i:=i) aa;refine dY.of hE ?_;conv=>whnf
  (repeat(first|(refine ay t1 ?_;conv=>whnf)|(rw[t1];conv=>whnf)))
  refine cG hE (λk=>k) [0,4,5,6,7,8] [4,5,6,2001] (λm fr hp=>∃k:Nat,m=n - k/\k<=n/\fr=[(0,iv n),(4,.ptr 4 0 0 0),(5,.ptr 5 0 0 0),(6,.ptr 6 0 0 0),(7,iv (i:Nat)),(8,iv (k:Nat))]/\
   hp=[(4,zM),(5,⟨35,true,.one (mC n n X)⟩),(6,⟨35,true,.one [iv n,iv n,.aM 2001 5 0 (i*n+k)]⟩),(2001,eJ (P.take (i*n+k)))]) n ?_ ?_ ?_
  ·kernel_rfl
  ·exact⟨0,rfl,Γ _,rfl,rfl⟩
  rintro m _ _ ⟨k,rfl,hk,rfl,rfl⟩;by_cases hlk:k<n
  ·have t3:=gZ hlk;have t4:=bW (i:=k) aa;have oy:=dP aE hlk;have Wt:(P.take (i*n+k)).length=i*n+k:=by rw[List.length_take];omega
   have hv:=hPe i k aE hlk;have e1:=LF (d:=(0:Rat)) (show i*n+k<P.length by omega);rw[hv]at e1;have c1:C0 35 [iv 1] (.frac 1):=dH 1 ax ax;have hd:delta i k=if i=k then 1 else 0:=rfl
   refine dY.of hE ?_;conv=>whnf
   have body:∀q,q<=n->True:=λ_ _=>trivial
   by_cases N8:i=k
   ·have t5:(((i:Nat):Int)==((k:Nat):Int))=true:=by rw[Rs];exact decide_eq_true N8
    rw[if_pos N8]at hd
    (repeat((first|refine aN aJ ?_|refine ay t3 ?_|refine ay t5 ?_|rw[t3]|rw[t5]);conv=>whnf))
    refine cG hE (λk=>k) [0,4,5,6,7,8,9,10] [4,5,6,9,2001] (λm fr hp=>∃p:Nat,m=n - p/\p<=n/\fr=[(0,iv n),(4,.ptr 4 0 0 0),(5,.ptr 5 0 0 0),(6,.ptr 6 0 0 0),(7,iv (i:Nat)),(8,iv (k:Nat)),(9,.ptr 9 0 0 0),(10,iv (p:Nat))]/\
     hp=[(4,zM),(5,⟨35,true,.one (mC n n X)⟩),(6,⟨35,true,.one [iv n,iv n,.aM 2001 5 0 (i*n+k)]⟩),(9,⟨49,true,.one [.frac (delta i k+aj p λp=>w (p*n+i)*w (p*n+k))]⟩),(2001,eJ (P.take (i*n+k)))]) n ?_ ?_ ?_
    ·kernel_rfl
    ·exact⟨0,rfl,Γ _,rfl,by rw[hd];simp only[aj,alc];rfl⟩
    rintro m _ _ ⟨p,rfl,hp,rfl,rfl⟩;by_cases hlp:p<n
    ·have t6:=gZ hlp;have t7:=bW (i:=p) aa;obtain⟨w1,w2⟩:=rD (i:=p) (k:=i) (c:=n) aa aa aa;obtain⟨w3,w4⟩:=rD (i:=p) (k:=k) (c:=n) aa aa aa;have b1:=dP hlp aE;have b2:=dP hlp hlk;have g1:=hX p i hlp aE;have g2:=hX p k hlp hlk;have f1:=WB (p*n+i);have f2:=WB (p*n+k);have f3:=cH (w (p*n+i)) (w (p*n+k));have hs:=pQ (f:=λp=>w (p*n+i)*w (p*n+k)) (B:=260) p λj _=>by
      have g1:=WB (j*n+i);have g2:=WB (j*n+k);have g3:=cH (w (j*n+i)) (w (j*n+k));omega
     have Jn:fs (delta i k)<=2:=by unfold delta;split<;>decide+kernel
     have La:=fW (delta i k) (aj p λp=>w (p*n+i)*w (p*n+k));have m1:=pa (w (p*n+i)) (w (p*n+k)) aa;have m2:=uq (delta i k+aj p λp=>w (p*n+i)*w (p*n+k)) (w (p*n+i)*w (p*n+k)) aa;rw[show delta i k+aj p (λp=>w (p*n+i)*w (p*n+k))+w (p*n+i)*w (p*n+k)=delta i k+aj (p+1) (λp=>w (p*n+i)*w (p*n+k))from by rw[aj];exact al4 ..]at m2;clear hs La Jn f1 f2 f3;refine dY.of hE ?_;conv=>whnf
     (repeat((first|refine aq aD ?_|refine aN aJ ?_|refine ay t6 ?_|refine an Q6 ?_|refine an Q22 ?_|rw[t6]|rw[w1]|rw[w2]|rw[w4]|rw[g1]|rw[g2]|rw[t7]|rw[ι]|rw[υ]);conv=>whnf))
     exact⟨n - (p+1),λk=>k,[0,4,5,6,7,8,9,10],[4,5,6,9,2001],aa,aD,p+1,rfl,hlp,rfl,rfl⟩
    ·have t6:=iH hlp;obtain rfl:p=n:=aa;refine dY.of hE ?_;conv=>whnf
     (repeat((first|refine ao Q3 ?_|refine aG t6 ?_|rw[t6]|rw[t4]|rw[υ]);conv=>whnf))
     refine⟨p - (k+1),dA [(64,2001)],[0,4,5,6,7,8],[4,5,6,64],aa,aD,k+1,rfl,hlk,rfl, ?_⟩;rw[show i*p+(k+1)=i*p+k+1 from rfl,e1];rfl
   ·have t5:(((i:Nat):Int)==((k:Nat):Int))=false:=by rw[Rs];exact decide_eq_false N8
    rw[if_neg N8]at hd
    (repeat((first|refine ay t3 ?_|refine aG t5 ?_|rw[t3]|rw[t5]);conv=>whnf))
    refine cG hE (λk=>k) [0,4,5,6,7,8,9,10] [4,5,6,9,2001] (λm fr hp=>∃p:Nat,m=n - p/\p<=n/\fr=[(0,iv n),(4,.ptr 4 0 0 0),(5,.ptr 5 0 0 0),(6,.ptr 6 0 0 0),(7,iv (i:Nat)),(8,iv (k:Nat)),(9,.ptr 9 0 0 0),(10,iv (p:Nat))]/\
     hp=[(4,zM),(5,⟨35,true,.one (mC n n X)⟩),(6,⟨35,true,.one [iv n,iv n,.aM 2001 5 0 (i*n+k)]⟩),(9,⟨49,true,.one [.frac (delta i k+aj p λp=>w (p*n+i)*w (p*n+k))]⟩),(2001,eJ (P.take (i*n+k)))]) n ?_ ?_ ?_
    ·kernel_rfl
    ·exact⟨0,rfl,Γ _,rfl,by rw[hd];simp only[aj,alc];rfl⟩
    rintro m _ _ ⟨p,rfl,hp,rfl,rfl⟩;by_cases hlp:p<n
    ·have t6:=gZ hlp;have t7:=bW (i:=p) aa;obtain⟨w1,w2⟩:=rD (i:=p) (k:=i) (c:=n) aa aa aa;obtain⟨w3,w4⟩:=rD (i:=p) (k:=k) (c:=n) aa aa aa;have b1:=dP hlp aE;have b2:=dP hlp hlk;have g1:=hX p i hlp aE;have g2:=hX p k hlp hlk;have f1:=WB (p*n+i);have f2:=WB (p*n+k);have f3:=cH (w (p*n+i)) (w (p*n+k));have hs:=pQ (f:=λp=>w (p*n+i)*w (p*n+k)) (B:=260) p λj _=>by
      have g1:=WB (j*n+i);have g2:=WB (j*n+k);have g3:=cH (w (j*n+i)) (w (j*n+k));omega
     have Jn:fs (delta i k)<=2:=by unfold delta;split<;>decide+kernel
     have La:=fW (delta i k) (aj p λp=>w (p*n+i)*w (p*n+k));have m1:=pa (w (p*n+i)) (w (p*n+k)) aa;have m2:=uq (delta i k+aj p λp=>w (p*n+i)*w (p*n+k)) (w (p*n+i)*w (p*n+k)) aa;rw[show delta i k+aj p (λp=>w (p*n+i)*w (p*n+k))+w (p*n+i)*w (p*n+k)=delta i k+aj (p+1) (λp=>w (p*n+i)*w (p*n+k))from by rw[aj];exact al4 ..]at m2;clear hs La Jn f1 f2 f3;refine dY.of hE ?_;conv=>whnf
     (repeat((first|refine aq aD ?_|refine aN aJ ?_|refine ay t6 ?_|refine an Q6 ?_|refine an Q22 ?_|rw[t6]|rw[w1]|rw[w2]|rw[w4]|rw[g1]|rw[g2]|rw[t7]|rw[ι]|rw[υ]);conv=>whnf))
     exact⟨n - (p+1),λk=>k,[0,4,5,6,7,8,9,10],[4,5,6,9,2001],aa,aD,p+1,rfl,hlp,rfl,rfl⟩
    ·have t6:=iH hlp;obtain rfl:p=n:=aa;refine dY.of hE ?_;conv=>whnf
     (repeat((first|refine ao Q3 ?_|refine aG t6 ?_|rw[t6]|rw[t4]|rw[υ]);conv=>whnf))
     refine⟨p - (k+1),dA [(64,2001)],[0,4,5,6,7,8],[4,5,6,64],aa,aD,k+1,rfl,hlk,rfl, ?_⟩;rw[show i*p+(k+1)=i*p+k+1 from rfl,e1];rfl
  ·have t3:=iH hlk;obtain rfl:k=n:=aa;refine dY.of hE ?_;conv=>whnf
   (repeat(first|(refine aG t3 ?_;conv=>whnf)|(rw[t3];conv=>whnf)|(rw[t2];conv=>whnf)))
   exact⟨k - (i+1),λk=>k,[0,4,5,6,7],[4,5,6,2001],aa,aD,i+1,rfl,aE,rfl,by rw[Nat.succ_mul];rfl⟩
 ·have t1:=iH aE;obtain rfl:i=n:=aa;rw[List.take_of_length_le aa];refine dY.of hE ?_;conv=>whnf
  (repeat(first|(refine aG t1 ?_;conv=>whnf)))
  exact Q19
variable {M:Nat}
theorem LP (ok:lh M) (n:Int) (d:Nat) (h1:sz n.natAbs<=M) (h2:sz d<=M) (hd:d≠0):C0 104 [.int n,.nat d] (.bQ [.frac (mkRat n d),.val (.int .i64 0)]):=by
 have k1:=mM ok n d h1 h2 hd;refine bB [] Tryz.func104 ?_;intro W0 w0 ρ0 hE;conv=>whnf
 skip
 refine⟨_,bV aH cd rfl (ai rfl) (ai rfl) rfl rfl rfl rfl (oK d 0) mu, ?_⟩;rw[decide_eq_false hd];conv=>whnf
 (repeat(first|(refine ae rfl rfl ?_;conv=>whnf)|(refine aN aJ ?_;conv=>whnf)));exact au.refl _
abbrev zV:Bool×List Int->SV:=ag2 bel (gP .u32)
abbrev gV:(Bool×List Int)×List Int->SV:=ag2 zV (gP .u32)
structure Words (M:Nat) (xs:List Int):Prop where
 w32:gQ xs
 len:xs.length<1099511627776
 fit:32*xs.length+33<=M
end Go.Proofs.YtadphegfhgmgmaaGreatDoor
namespace Go.Proofs.YtadphegfhgmgmaaGreatDoor
open Go.Sx
theorem Ru {x y:Nat} (hx:x<4611686018427387904) (hy:y<4611686018427387904):DU .i64 x y=((x&&& y:Nat):Int):=by
 have:x&&& y<4611686018427387904:=Nat.lt_of_le_of_lt Nat.and_le_left hx;show ε.wrap (((acN 64 x&&& acN 64 y).toNat:Nat):Int)=_;rw[BitVec.toNat_and,ac8,ac8,aeD,aeD,Υ (a:=x) aa,Υ (a:=y) aa];exact wrap_i64 aa aa
theorem Rv {N:Nat} (hN:N=1\/N=2):C0 159 [.nat N] (iv (N:Nat)):=by
 rcases hN with rfl|rfl
 ·have k:=xh 1 1001 ax;rw[show(af 1).length=1 from ax,show cC 1=[1,0]from by decide]at k;have kl:C0 198 [.val (.int .u32 1)] (.val (.int .i64 1)):=Et 1 ax;refine bB [1] Tryz.func159 ?_;intro W0 w0 ρ0 hE;conv=>whnf
  (repeat((first|refine ae rfl rfl ?_|refine aX Q3 ?_|refine ao Q3 ?_|refine aN aJ ?_|refine oe aJ rfl ?_|refine an Q6 ?_);conv=>whnf));exact Q4
 ·have k:=xh 2 1001 ax;rw[show(af 2).length=1 from ax,show cC 2=[2,0]from by decide]at k;have kl:C0 198 [.val (.int .u32 2)] (.val (.int .i64 2)):=Et 2 ax;refine bB [1] Tryz.func159 ?_;intro W0 w0 ρ0 hE;conv=>whnf
  (repeat((first|refine ae rfl rfl ?_|refine aX Q3 ?_|refine ao Q3 ?_|refine aN aJ ?_|refine oe aJ rfl ?_|refine an Q6 ?_);conv=>whnf));exact Q4
theorem Hy {N:Nat} (hN:N=1\/N=2) (e:Nat):sz (N^e)<=e+1:=by
 rcases hN with rfl|rfl
 ·rw[amn];exact Ι (Nat.le_of_eq aak) aa
 ·exact eW.2 (Nat.pow_lt_pow_right ax aa)
abbrev nB (n:Nat):aC:=⟨43,true,.one [.nat n]⟩
theorem Rw {N:Nat} (hN:N=1\/N=2) (K:Nat) (hK:K<=120):C0 103 [.nat N,iv (K:Nat)] (.bQ [.nat (N^K),iv 0]):=by
 have kb:=Rv hN;have t1:decide ((K:Int)<0)=false:=decide_eq_false aa;have t2:decide ((K:Int)>4096)=false:=decide_eq_false aa;have w1:ε.wrap ((K:Int)*(N:Int))=((K*N:Nat):Int):=by
  rw[<-Ρ];have:K*N<=120*2:=Ϧ hK aa;exact wrap_i64 aa aa
 have t3:decide (((K*N:Nat):Int)>262144)=false:=decide_eq_false (by
  have:K*N<=120*2:=Ϧ hK aa
  omega)
 have k0:C0 150 [.val (.int .u64 1)] (.nat 1):=CV 1 ax;have hz:=Hy hN;have h1:N^1=N:=Nat.pow_one N;refine bB [] Tryz.func103 ?_;intro W0 w0 ρ0 hE;conv=>whnf
 (repeat((first|refine ag rfl rfl ?_|refine ae rfl rfl ?_|refine aN aJ ?_|refine an dZ ?_|refine aG t3 ?_|rw[t1]|rw[t2]|rw[w1]|rw[t3]);conv=>whnf))
 refine av hE (λk=>k) [1,2,4,5,6] [2,4,6] (λm fr hp=>∃eo en:Nat,eo+en*m=K/\(m≠0->en<=K)/\eo<=K/\m<=K/\fr=[(1,iv (m:Nat)),(2,.ptr 2 0 0 0),(4,.ptr 4 0 0 0),(5,iv 0),(6,.ptr 6 0 0 0)]/\hp=[(2,nB (N^en)),(4,nB 0),(6,nB (N^eo))]) K ?_ ?_ ?_
 ·kernel_rfl
 ·exact⟨0,1,aa,λh=>aa,aa,aa,rfl,by rw[h1];rfl⟩
 rintro m _ _ ⟨eo,en,hs,hen,heo,hm,rfl,rfl⟩;by_cases Ux:m=0
 ·subst Ux;have t4:decide (((0:Nat):Int)>0)=false:=ax;have:eo=K:=aa;subst this;conv=>whnf
  (repeat(first|(refine ae rfl rfl ?_;conv=>whnf)));exact Q4
 ·have t4:decide ((m:Int)>0)=true:=decide_eq_true aa;have e1:DU .i64 (m:Int) 1=((m % 2:Nat):Int):=by
   have:=Ru (x:=m) (y:=1) aa ax;rw[Nat.and_one_is_mod]at this;exact this
  have e2:lG .i64 (m:Int) 1=((m/2:Nat):Int):=jr .i64 (x:=m) (s:=1) ax;have akz:=hen Ux;have z1:=hz eo;have z2:=hz en;have k1:=mh.mul (N^eo) (N^en) aa;have k2:=mh.mul (N^en) (N^en) aa;rw[<-Nat.pow_add]at k1 k2;have hmd:m=m % 2+2*(m/2):=aa;have hmul:en*m=en*(m % 2)+(en+en)*(m/2):=by
   conv=>lhs;rw[hmd,Nat.mul_add,<-Nat.mul_assoc,Nat.mul_two]
  by_cases hodd:m % 2=1
  ·have t5:(((m % 2:Nat):Int)==1)=true:=by rw[hodd];rfl
   rw[hodd,Nat.mul_one]at hmul;by_cases h2:m>1
   ·have t6:decide ((m:Int)>1)=true:=decide_eq_true aa;have hle:en+en<=K:=by
     have:(en+en)*1<=(en+en)*(m/2):=ϧ _ aa;omega
    conv=>whnf
    (repeat((first|refine kA Q3 ?_|refine aN aJ ?_|refine ay t4 ?_|refine ay t5 ?_|refine ay t6 ?_|rw[t4]|rw[e1]|rw[t5]|rw[t6]|rw[e2]);conv=>whnf))
    exact⟨m/2,λk=>k,[1,2,4,5,6],[2,4,6],aa,aD,eo+en,en+en,aa,λ_=>hle,aa,aa,rfl,rfl⟩
   ·have t6:decide ((m:Int)>1)=false:=decide_eq_false aa;have Of:m/2=0:=aa;rw[Of,amb]at hmul;conv=>whnf
    (repeat((first|refine kA Q3 ?_|refine aN aJ ?_|refine ay t4 ?_|refine ay t5 ?_|refine aG t6 ?_|rw[t4]|rw[e1]|rw[t5]|rw[t6]|rw[e2]);conv=>whnf))
    exact⟨m/2,λk=>k,[1,2,4,5,6],[2,4,6],aa,aD,eo+en,en,by rw[Of];omega,λh=>absurd Of h,aa,aa,rfl,rfl⟩
  ·have t5:(((m % 2:Nat):Int)==1)=false:=by rw[show m % 2=0 by omega];rfl
   rw[show m % 2=0 by omega,amb]at hmul;have t6:decide ((m:Int)>1)=true:=decide_eq_true aa;have hle:en+en<=K:=by
    have:(en+en)*1<=(en+en)*(m/2):=ϧ _ aa;omega
   conv=>whnf
   (repeat((first|refine kA Q3 ?_|refine aN aJ ?_|refine ay t4 ?_|refine aG t5 ?_|refine ay t6 ?_|rw[t4]|rw[e1]|rw[t5]|rw[t6]|rw[e2]);conv=>whnf))
   exact⟨m/2,λk=>k,[1,2,4,5,6],[2,4,6],aa,aD,eo,en+en,aa,λ_=>hle,aa,aa,rfl,rfl⟩
theorem Rx (K:Nat) (hK:K<=120):C0 40 [.frac 2,iv (K:Nat)] (.bQ [.frac (2^K),iv 0]):=by
 have k1:C0 96 [.int 2] (.nat 2):=Gx 2;have k2:=Rw (N:=2) (.inr rfl) K hK;have k3:C0 91 [.frac 2] (.nat 1):=x8 mh 2 Gw;have k4:=Rw (N:=1) (.inl rfl) K hK;rw[amn]at k4;have k5:C0 46 [.frac 2] (iv 1):=iI 2;have hz:=Hy (N:=2) (.inr rfl) K;have k6:C0 95 [.val (.bool false),.nat (2^K)] (.int ((2^K:Nat):Int)):=iN false (2^K);have k7:=LP mh ((2^K:Nat):Int) 1 Vo ax ax;rw[show mkRat ((2^K:Nat):Int) 1=(2:Rat)^K from by rw[Rat.mkRat_one,Int.natCast_pow,Rat.intCast_pow];rfl]at k7;have t1:decide ((K:Int)< -4096)=false:=decide_eq_false aa;have t2:decide ((K:Int)>4096)=false:=decide_eq_false aa;have t3:decide ((K:Int)<0)=false:=decide_eq_false aa;generalize (2:Nat)^K=P at*;generalize (2:Rat)^K=Q at*;refine bB [2] Tryz.func40 ?_;intro W0 w0 ρ0 hE;conv=>whnf
 (repeat((first|refine ag rfl rfl ?_|refine ae rfl rfl ?_|refine aq aD ?_|refine aN aJ ?_|refine an dZ ?_|rw[bne_self_eq_false]|refine aG t2 ?_|refine an Q6 ?_|refine an Q9 ?_);conv=>whnf));exact Q4
end Go.Proofs.YtadphegfhgmgmaaGreatDoor
namespace Go.Sx
section
variable {P:Program} {f:FuncId} {args:List SV} {c:SV} {hp:List (Nat×aC)}
end
end Go.Sx
namespace Go.Proofs.YtadphegfhgmgmaaGreatDoor
open Go.Sx
abbrev ab6 (top:Nat):List SV:=[.ptr 1006 0 0 0,.ptr 1005 0 0 0,b9 [iv top]]
abbrev fk2 (r m c:Nat) (A B:List SV) (d q:Rat) (T x:List Rat) (b:Bool):List (Nat×aC):=[(1006,qB q),(1005,wbB),(1001,wvB r m d),(1002,Hw false (um A B c)),(1011,xy false T),(1010,xy b x)]
theorem WR {r i top:Nat} (A B:List SV) (m c:Nat) (d q:Rat) (x T:List Rat) (F:Nat->Rat) (g:FuncId) (hi:A.length=i) (hA:∀a∈A,a.width=1) (hr:r<=40) (Lh:i<r) (hc:c<=4096) (hx:x.length=c)
  (hR:fD (il (um A B c)) [1006,1005,1001,1002,1011,1010]=true)
  (hf:∀k o,k<c->aL Tryz.prog g ([]++([iv (k:Nat),.frac (x.getD k 0)]++ab6 top)) (fk2 r m c A B d q T o false) (.frac (F k)) [] []) (σ:Nat->Nat) (hσ:bl (fk2 r m c A B d q T x true) [] σ):
  aL Tryz.prog 199 (mI σ [.ptr 1001 0 0 0,iv i,.clo g [] (ab6 top)]) (lJ σ (fk2 r m c A B d q T x true)) (fT σ (.bQ [])) (lJ σ []) (lJ σ [(1010,xy true ((Η c).map F))]):=by
 refine gY (Z:=[]) aH bC Tryz.func199 rfl aD (cb.of rfl (by exact cR rfl (cR rfl (cR rfl (cR hR (cR rfl (cR rfl xz)))))) rfl rfl rfl rfl rfl rfl rfl rfl rfl) rfl σ hσ ?_;intro W0 w0 ρ0 hE;have hs:sub 64 (um A B c) A.length 1=some [.aM 1010 5 0 c]:=zh rfl 64 hA aa;obtain⟨AA,hAA⟩:∃X,X=A:=⟨A,rfl⟩;rcases A with _|⟨a,A⟩
 all_goals
  subst hi;conv=>whnf
  (repeat((first|refine ao Q3 ?_|refine dc rfl (ai rfl) rfl (ez rfl) hs (Ϗ _) rfl ?_|rw[ι]|rw[υ]);conv=>whnf))
  refine wB hE [0,1,2,14,15,16] (λm' fr hp=>∃(j:Nat) (o:List Rat),m'=c - j/\j<=c/\o.length=c/\(∀k,k<j->o.getD k 0=F k)/\(∀k,j<=k->o.getD k 0=x.getD k 0)/\
   fr=[(0,.ptr 1001 0 0 0),(1,iv AA.length),(2,.clo g [] (ab6 top)),(14,.aM 1010 5 0 c),(15,iv c),(16,iv (j:Nat))]/\hp=fk2 r m c AA B d q T o true) c ?_ ?_ ?_
  ·exact jX aD (by exact bw rfl rfl (bw rfl rfl (bw rfl rfl (bw rfl hR (bw rfl rfl (bw rfl rfl nW)))))) aD
  ·exact⟨0,x,rfl,Γ _,hx,λk h=>aa,λk _=>rfl,by subst hAA;rfl,by subst hAA;rfl⟩
  rintro m _ _ ⟨j,o,rfl,hj,hl,ho,hu,rfl,rfl⟩;subst hAA;conv=>whnf
  by_cases aE:j<c
  ·have t1:=gZ aE;have t2:=bW (i:=j) aa;have hk:=λb=>hf j b aE
   rw[<-hu j (ζ _)]at hk
   (repeat((first|refine aq aD ?_|refine aX Q3 ?_|refine ao Q3 ?_|refine ay t1 ?_|refine dc rfl (ai rfl) rfl (ez rfl) hs (Ϗ _) rfl ?_|refine Co (hk o) (Ja.cons rfl (.same λh=>h) (Ja.cons rfl (.same λh=>h) (Ja.cons rfl (.same λh=>h) (Ja.cons rfl (.same λh=>h) (Ja.cons rfl (.same λh=>h) (Ja.cons rfl (.same Jb) .nil)))))) ar ?_|rw[t1]|rw[t2]|rw[ι]|rw[υ]);conv=>whnf))
   refine⟨c - (j+1),aa,jX aD (by exact bw rfl rfl (bw rfl rfl (bw rfl rfl (bw rfl hR (bw rfl rfl (bw rfl rfl nW)))))) aD,j+1,o.set j (F j),rfl,aE,by rw[ϒ];exact hl, ?_, ?_,rfl,rfl⟩
   ·intro k h;by_cases e:k=j
    ·rw[e,p0 aa]
    ·rw[gT e];exact ho k aa
   ·intro k h;rw[gT aa];exact hu k aa
  ·have t1:=iH aE;obtain rfl:j=c:=aa;have hx:=mF hl ho
   (repeat(first|(refine aG t1 ?_;conv=>whnf)))
   exact⟨au.refl _,get_nil,cI (by rw[<-hx];rfl) get_nil⟩
