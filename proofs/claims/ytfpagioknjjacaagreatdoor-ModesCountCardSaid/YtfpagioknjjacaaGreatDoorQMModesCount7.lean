/- The texts Xd, Xe, Xf, Xg, Xh, Xi, Xj, Xm, Ra, Rb, Rc, Rd, Aa, Re, Rf, Ta, Tb, Tc, Td, Te, Tf, Rg, Xr, Xn. -/
import Derived.Shelf.LaysM
import Derived.Shelf.Strconv.Itoa1
import Derived.Shelf.Strconv.Itoa2
import Derived.Lib.Walk
import Derived.Lib.ItoaMem
import Derived.Lib.AppendIntMem
import Derived.WalkKit
import Derived.BigCall
import Derived.BigGuard
import Derived.Test.YtfpagioknjjacaaGreatDoorQMModesCount6
import Derived.Test.YtfpagioknjjacaaGreatDoorQMModesCount2
namespace Go.Proofs.YtfpagioknjjacaaGreatDoor
open Go.Sx
set_option linter.unusedSimpArgs false
set_option linter.unusedVariables false
set_option maxRecDepth 100000
set_option maxHeartbeats 4000000
theorem Cp {n:Nat} {N:Mx} {d:Nat→Rat} {e k:Rat} (he:0≤e) (hN:∀i j,i<n→j<n→i≠j→Bd (N i j) e) (hd:∀i,i<n→N i i=d i) (hk:∀i,i<n→0<d i→k≤d i) (a7:(n:Rat)*e<k):et n N (cF n fun i=>decide (0<d i)):=by
 refine⟨o9 n fun i=>decide (0<d i),fun c ⟨j,hj,hcj⟩=> ?_⟩
 obtain⟨x,hx⟩:∃x,comb (cF n fun i=>decide (0<d i)) c (o9 n fun i=>decide (0<d i))=x:=⟨_,rfl⟩
 have ae7:∀i,¬0<d i→x i=0:=fun i hi=>by rw[←hx];exact ym (Nat.le_refl _) (by simp[hi])
 have hon:=o8 (p:=fun i=>decide (0<d i)) hj
 have hxj:x (vM n (fun i=>decide (0<d i)) j)≠0:=by rw[←hx,uA (Nat.le_refl _) hj];exact hcj
 rw[hx]
 have e1:qf n N x=qf n (na d) x+qf n (fun i j=>if i=j then 0 else N i j) x:=by
  rw[←uy]
  refine iL fun i j hi hj=> ?_
  unfold na
  by_cases g:i=j
  ·subst g;rw[if_pos rfl,if_pos rfl,hd i hi];grind
  ·rw[if_neg g,if_neg g];grind
 have e2:=pa (n:=n) (A:=fun i j=>if i=j then 0 else N i j) (K:=e) (fun i j hi hj=>by
  by_cases g:i=j
  ·rw[if_pos g];constructor<;>grind
  ·rw[if_neg g];exact hN i j hi hj g) x
 have e3:k*ao n (fun i=>x i*x i)≤qf n (na d) x:=by
  rw[vq,←sum_smul]
  refine D9 n fun i hi=> ?_
  by_cases g:0<d i
  ·have:=Rat.mul_nonneg (show(0:Rat)≤d i - k by have:=hk i hi g;grind) (kX (x i))
   grind
  ·rw[ae7 i g];grind
 have e4:0<ao n fun i=>x i*x i:=pL (fun i _=>kX _) ⟨_,hon.1,sq_pos hxj⟩
 have e5:=Rat.mul_pos (show(0:Rat)<k - n*e by grind) e4
 rw[e1]
 grind
theorem AP {n k:Nat} {S T:Mx} (h:et n (pull n S T) k):et n S k:=by
 obtain⟨V,hV⟩:=h
 refine⟨fun j=>comb n (V j) T,fun c hc=> ?_⟩
 have h1:=hV c hc
 rw[sE]at h1
 rw[dY (y:=comb n (comb k c V) T) fun i _=> ?_]
 ·exact h1
 ·show ao k (fun j=>c j*ao n fun l=>V j l*T l i)=ao n fun l=>(ao k fun j=>c j*V j l)*T l i
  rw[ai k (g:=fun j=>ao n fun l=>c j*(V j l*T l i)) fun j _=>by rw[bO],dX]
  refine ai n fun l _=> ?_
  rw[jr]
  exact ai k fun j _=>by grind
theorem yu (N:Nat) (s:Rat) (A T:Mx) (i j:Nat):pull N (fun i k=>s*A i k) T i j=s*pull N A T i j:=by
 show ao N (fun i'=>T i i'*ao N fun k=>s*A i' k*T j k)=s*ao N fun i'=>T i i'*ao N fun k=>A i' k*T j k
 rw[←sum_smul]
 refine ai N fun i' _=> ?_
 rw[ai N (g:=fun k=>s*(A i' k*T j k)) fun k _=>by grind,sum_smul];grind
theorem sI (N:Nat) (A M T:Mx) (x:Rat) (i j:Nat):pull N (iX A M x) T i j=pull N A T i j - x*pull N M T i j:=by
 show ao N (fun i'=>T i i'*ao N fun k=>(A i' k - x*M i' k)*T j k)=ao N (fun i'=>T i i'*ao N fun k=>A i' k*T j k) - x*ao N fun i'=>T i i'*ao N fun k=>M i' k*T j k
 have e1:∀i',ao N (fun k=>(A i' k - x*M i' k)*T j k)=ao N (fun k=>A i' k*T j k)+(-x)*ao N (fun k=>M i' k*T j k):=fun i'=>by
  rw[←sum_smul,←sum_add];exact ai N fun k _=>by grind
 rw[ai N (g:=fun i'=>T i i'*ao N (fun k=>A i' k*T j k)+(-x)*(T i i'*ao N fun k=>M i' k*T j k)) fun i' _=>by rw[e1];grind,sum_add,sum_smul]
 grind
theorem Eu (n:Nat) (A T:Mx):bD n (pull n A T)=bD n T*bD n T*bD n A:=by
 have e:∀i k,i<n→k<n→pull n A T i k=pr n T (pr n A (tr T)) i k:=fun i k _ _=>rfl
 rw[bn e,wh,wh,mL];grind
theorem MU (d:Nat→Rat):∀n,bD (n+1) (na d)=d n*bD n (na d):=fun n=>by
 rw[D7 fun k hk=>by unfold na;rw[if_neg aa]]
 congr 1
 unfold na;rw[if_pos rfl]
theorem Ev (d u:Nat→Rat) (x:Rat):∀n,bD n (na fun i=>d i - x*u i)=fA x ((List.range n).map fun i=>(d i,u i))
 |0=>rfl
 |n+1=>by
  rw[MU,Ev d u x n,List.range_succ,List.map_append,mO]
  simp only[List.map_cons,List.map_nil,fA]
  grind
def dL (a b:Rat):Prop:=(0<a↔0<b)∧(a<0↔b<0)
theorem Cq:∀{a b:List Rat} (s:Int),a.length=b.length→(∀j,dL (a.getD j 0) (b.getD j 0))→vr s a=vr s b
 |[],[],_,_,_=>rfl
 |[],_::_,_,h,_=>by simp at h
 |_::_,[],_,h,_=>by simp at h
 |x::a,y::b,s,h,hs=>by
  have h0:dL x y:=hs 0
  have ih:=fun s=>Cq (a:=a) (b:=b) s (by simpa using h) fun j=>hs (j+1)
  have Cn:x=0∨0<x∨x<0:=by grind
  rcases Cn with g|g|g
  ·have gy:y=0:=by
    have h1:¬0<y:=fun g2=>by have:=h0.1.2 g2;grind
    have h2:¬y<0:=fun g2=>by have:=h0.2.2 g2;grind
    grind
   subst g gy
   rw[cY,cY,ih]
  ·rw[cO g,cO (h0.1.1 g),ih]
  ·rw[cP g,cP (h0.2.1 g),ih]
theorem pP:∀(l:List Rat) (b:Bool) (j:Nat),(cU b l).getD j 0=if (b^^(j % 2==1))then -(l.getD j 0)else l.getD j 0
 |[],b,j=>by simp[cU]
 |a::l,b,0=>by cases b<;>simp[cU]
 |a::l,b,j+1=>by
  rw[cU]
  show(cU (!b) l).getD j 0=if (b^^((j+1) % 2==1))then -(l.getD j 0)else l.getD j 0
  rw[pP l (!b) j]
  have e:((!b)^^(j % 2==1))=(b^^((j+1) % 2==1)):=by
   rcases Nat.mod_two_eq_zero_or_one j with g|g
   ·rw[show(j+1) % 2=1 by omega,g];cases b<;>rfl
   ·rw[show(j+1) % 2=0 by omega,g];cases b<;>rfl
  rw[e]
theorem MW {a b:List Rat} (h:∀j,dL (a.getD j 0) (b.getD j 0)) (t:Bool) (j:Nat):dL ((cU t a).getD j 0) ((cU t b).getD j 0):=by
 rw[pP,pP]
 obtain⟨h1,h2⟩:=h j
 split
 ·exact⟨⟨fun g=>by have:=h2.1 (by grind);grind,fun g=>by have:=h2.2 (by grind);grind⟩,⟨fun g=>by have:=h1.1 (by grind);grind,fun g=>by have:=h1.2 (by grind);grind⟩⟩
 ·exact⟨h1,h2⟩
theorem H4 (n:Nat) (d u:Nat→Rat) (p:Rat→Bool):(((List.range n).map fun i=>(d i,u i)).filter fun q=>p q.1).length=cF n fun i=>p (d i):=by
 unfold cF
 rw[List.filter_map,List.length_map]
 rfl
theorem MX (f:Nat→Rat):∀n,∃K:Rat,0≤K∧∀i,i<n→Bd (f i) K
 |0=>⟨0,Rat.le_refl,fun i hi=>absurd hi (Nat.not_lt_zero _)⟩
 |n+1=>by
  obtain⟨K,hK,h⟩:=MX f n
  by_cases g:0≤f n
  ·refine⟨K+f n,by grind,fun i hi=> ?_⟩
   by_cases e:i=n
   ·subst e;constructor<;>grind
   ·exact(h i aa).mono (by grind)
  ·refine⟨K+ -f n,by grind,fun i hi=> ?_⟩
   by_cases e:i=n
   ·subst e;constructor<;>grind
   ·exact(h i aa).mono (by grind)
theorem Cr (X:Mx) (m:Nat):∀n,∃K:Rat,0≤K∧∀i k,i<n→k<m→Bd (X i k) K
 |0=>⟨0,Rat.le_refl,fun i k hi=>absurd hi (Nat.not_lt_zero _)⟩
 |n+1=>by
  obtain⟨K,hK,h⟩:=Cr X m n
  obtain⟨J,hJ,g⟩:=MX (X n) m
  refine⟨K+J,by grind,fun i k hi hk=> ?_⟩
  by_cases e:i=n
  ·subst e;exact(g k hk).mono (by grind)
  ·exact(h i k aa hk).mono (by grind)
theorem Cs (f:Nat→Rat):∀n,(∀i,i<n→f i≠0)→∃D:Rat,0<D∧∀i,i<n→D≤f i∨f i≤ -D
 |0,_=>⟨1,aH,fun i hi=>absurd hi (Nat.not_lt_zero _)⟩
 |n+1,h=>by
  obtain⟨D,hD,hi⟩:=Cs f n fun i hi=>h i aa
  have hn:=h n aa
  obtain⟨a,ha0,ha⟩:∃a:Rat,0<a∧(a≤f n∨f n≤ -a):=by
   by_cases g:0<f n
   ·exact⟨f n,g,.inl Rat.le_refl⟩
   ·exact⟨-f n,by grind,.inr (by grind)⟩
  by_cases g:D≤a
  ·exact⟨D,hD,fun i aI=>by
    by_cases e:i=n
    ·subst e;rcases ha with x|x
     ·exact .inl (by grind)
     ·exact .inr (by grind)
    ·exact hi i aa⟩
  ·exact⟨a,ha0,fun i aI=>by
    by_cases e:i=n
    ·subst e;exact ha
    ·rcases hi i aa with x|x
     ·exact .inl (by grind)
     ·exact .inr (by grind)⟩
theorem Ct {B:Rat} (hB:1≤B):∀n:Nat,1≤B^n
 |0=>by rw[Rat.pow_zero];exact Rat.le_refl
 |n+1=>by
  rw[Rat.pow_succ]
  have h:=Ct hB n
  have:=Rat.mul_nonneg (show(0:Rat)≤B^n - 1 by grind) (show(0:Rat)≤B by grind)
  grind
theorem Ew {B:Rat} (hB:1≤B) {d u:Nat→Rat}:∀n,(∀i,i<n→Bd (d i) B)→(Bd (fA 0 ((List.range n).map fun i=>(d i,u i))) (B^n))∧∀i e,i<n→Bd (d i) e→Bd (fA 0 ((List.range n).map fun i=>(d i,u i))) (e*B^n)
 |0,_=>⟨by rw[Rat.pow_zero];exact(show Bd 1 1 from⟨aH,aH⟩),fun i e hi=>absurd hi (Nat.not_lt_zero _)⟩
 |n+1,h=>by
  obtain⟨h1,h2⟩:=Ew hB n fun i hi=>h i aa
  have e1:fA 0 ((List.range (n+1)).map fun i=>(d i,u i))=fA 0 ((List.range n).map fun i=>(d i,u i))*d n:=by
   rw[List.range_succ,List.map_append,mO];simp only[List.map_cons,List.map_nil,fA];grind
  have hBn:=Ct hB n
  rw[e1,Rat.pow_succ]
  refine⟨h1.mul (h n aa),fun i e hi he=> ?_⟩
  have he0:=he.yc
  by_cases g:i=n
  ·subst g
   refine(h1.mul he).mono ?_
   have:=Rat.mul_nonneg (Rat.mul_nonneg he0 (show(0:Rat)≤B^i by grind)) (show(0:Rat)≤B - 1 by grind)
   grind
  ·refine((h2 i e aa he).mul (h n aa)).mono (by grind)
theorem yv {a b:Rat} (ha:0≤a) (hb:0≤b):∃e:Rat,0<e∧e≤1∧a*e≤1∧b*e<1:=by
 have hd:(0:Rat)<1+a+b:=by grind
 have h1:(1+a+b)*(1+a+b)⁻¹=1:=Rat.mul_inv_cancel _ (by grind)
 have h2:=Rat.inv_pos.2 hd
 have h3:=Rat.mul_nonneg ha (show(0:Rat)≤(1+a+b)⁻¹ by grind)
 have h4:=Rat.mul_nonneg hb (show(0:Rat)≤(1+a+b)⁻¹ by grind)
 refine⟨(1+a+b)⁻¹,h2, ?_, ?_, ?_⟩
 ·generalize (1+a+b)⁻¹=y at*;grind
 ·generalize (1+a+b)⁻¹=y at*;grind
 ·generalize (1+a+b)⁻¹=y at*;grind
theorem AQ {x y g:Rat} (hg:g≤x∨x≤ -g) (h:Bd (x - y) (g*(1/2))) (h0:0<g):dL x y∧(g*(1/2)≤y∨y≤ -(g*(1/2))):=by
 obtain⟨h1,h2⟩:=h
 have e:g*(1/2)=g/2:=by grind
 rcases hg with hx|hx
 ·refine⟨⟨⟨fun _=>by grind,fun _=>by grind⟩,⟨fun g2=>by grind,fun g2=>by grind⟩⟩,.inl (by grind)⟩
 ·refine⟨⟨⟨fun g2=>by grind,fun g2=>by grind⟩,⟨fun _=>by grind,fun _=>by grind⟩⟩,.inr (by grind)⟩
theorem GG {n:Nat} {S M T:Mx} {e:Rat} (h:AD n S M e T):1≤bD n T*bD n T*bD n M:=by
 rw[←Eu]
 have e1:∀i k,i<n→k<n→pull n M T i k=na (fun i=>bf n M (T i) (T i)) i k:=fun i k hi hk=>by
  unfold na
  by_cases g:i=k
  ·subst g;rw[if_pos rfl];rfl
  ·rw[if_neg g];exact h.aby i k hi hk g
 rw[bn e1]
 have:∀m,m≤n→1≤bD m (na fun i=>bf n M (T i) (T i)):=by
  intro m
  induction m with
  |zero=>intro _;exact Rat.le_refl
  |succ m ih=>
   intro hm
   rw[MU]
   have h1:=ih aa
   have h2:=(h.QL m aa).1
   have:=Rat.mul_nonneg (show(0:Rat)≤bf n M (T m) (T m) - 1 by grind) (show(0:Rat)≤bD m (na fun i=>bf n M (T i) (T i)) by grind)
   grind
 exact this n (Nat.le_refl _)
theorem JB {n:Nat} {S M:Mx} {c:List Rat} {m z p:Nat} (hS:cZ n S) (hM:cZ n M) (h1:∀x,ao n (fun i=>x i*x i)≤qf n M x) (hc:c.length=n+1) (hv:∀x,cm c x=bD n (iX S M x)) (a7:∀k,k<n+1→c.getD k 0≠0) (hI:cK n S m z p):
  vr 0 c=p∧vr 0 (cU false c)=m:=by
 have GH:hZ n M:=fun x ⟨i,hi,hx⟩=>by
  have g1:=h1 x
  have g2:=pL (n:=n) (f:=fun i=>x i*x i) (fun i _=>kX _) ⟨i,hi,sq_pos hx⟩
  grind
 obtain⟨K,hK0,hK⟩:=Cr S n n
 have Pn:(0:Rat)≤(n:Rat):=by
  have:((0:Nat):Rat)≤(n:Rat):=Rat.natCast_le_natCast.2 (Nat.zero_le _)
  exact this
 obtain⟨R,hRe⟩:∃R:Rat,R=n*K:=⟨_,rfl⟩
 have Pm:0≤R:=by rw[hRe];exact Rat.mul_nonneg Pn hK0
 have hR:∀x,qf n S x≤R*qf n M x∧ -(R*qf n M x)≤qf n S x:=fun x=>by
  have g1:=pa (K:=K) hK x
  have g2:=pa (K:=K) (A:=fun i k=> -1*S i k) (fun i k hi hk=>by obtain⟨a1,a2⟩:=hK i k hi hk;clear Pm hRe GH;constructor<;>grind) x
  rw[dI]at g2
  rw[←hRe]at g1 g2
  have g3:=Rat.mul_nonneg Pm (show(0:Rat)≤qf n M x - ao n (fun i=>x i*x i) by have:=h1 x;grind)
  constructor<;>grind
 have hdM:0<bD n M:=by
  obtain⟨T,hT⟩:=HY n hS hM GH Pm hR (show(0:Rat)<1 by decide)
  have g1:=GG hT
  have g2:=kX (bD n T)
  refine Rat.not_le.1 fun g=> ?_
  have:=Rat.mul_nonneg g2 (show(0:Rat)≤ -bD n M by grind)
  grind
 have Pk:bD n M*(bD n M)⁻¹=1:=Rat.mul_inv_cancel _ (by grind)
 have hdp:=Rat.inv_pos.2 hdM
 obtain⟨D,hD0,hD⟩:=Cs (fun k=>c.getD k 0) (n+1) a7
 obtain⟨g,hg⟩:∃g:Rat,g=D*(bD n M)⁻¹:=⟨_,rfl⟩
 have hg0:0<g:=by rw[hg];exact Rat.mul_pos hD0 hdp
 obtain⟨C,hC0,hC⟩:=Er (n+1)
 obtain⟨B,hB⟩:∃B:Rat,B=4*R+4*n+1:=⟨_,rfl⟩
 have hB1:1≤B:=by rw[hB];grind
 obtain⟨L,hL0,hL⟩:=H2 n B
 have hBn:=Ct hB1 n
 have hBi:B^n*(B^n)⁻¹=1:=Rat.mul_inv_cancel _ (by grind)
 have hBp:=Rat.inv_pos.2 (show(0:Rat)<B^n by grind)
 obtain⟨k,hk⟩:∃k:Rat,k=g*(1/2)*(B^n)⁻¹:=⟨_,rfl⟩
 have QN:0<k:=by rw[hk];exact Rat.mul_pos (by grind) hBp
 have hgi:g*g⁻¹=1:=Rat.mul_inv_cancel _ (by grind)
 have hgp:=Rat.inv_pos.2 hg0
 have hki:k*k⁻¹=1:=Rat.mul_inv_cancel _ (by grind)
 have hkp:=Rat.inv_pos.2 QN
 obtain⟨e,he0,he1,hea,heb⟩:=yv (a:=2*(C*L)*g⁻¹) (b:=n*k⁻¹) (Rat.mul_nonneg (by have:=Rat.mul_nonneg hC0 hL0;grind) (by grind)) (Rat.mul_nonneg Pn (by grind))
 have heC:C*(L*e)≤g*(1/2):=by
  have:=Rat.mul_nonneg (show(0:Rat)≤g by grind) (show(0:Rat)≤1 - 2*(C*L)*g⁻¹*e by grind)
  have h2:g*(1 - 2*(C*L)*g⁻¹*e)=g - 2*(C*(L*e))*(g*g⁻¹):=by generalize g⁻¹=y;grind
  rw[h2,hgi]at this
  grind
 have hek:(n:Rat)*e<k:=by
  have:=Rat.mul_pos QN (show(0:Rat)<1 - n*k⁻¹*e by grind)
  have h2:k*(1 - n*k⁻¹*e)=k - n*e*(k*k⁻¹):=by generalize k⁻¹=y;grind
  rw[h2,hki]at this
  grind
 obtain⟨T,hT⟩:=HY n hS hM GH Pm hR he0
 have ahK:=GG hT
 obtain⟨q,hq⟩:∃q:Rat,q=bD n T*bD n T:=⟨_,rfl⟩
 rw[←hq]at ahK
 obtain⟨d,hd⟩:∃d:Nat→Rat,d=fun i=>bf n S (T i) (T i):=⟨_,rfl⟩
 obtain⟨u,hu⟩:∃u:Nat→Rat,u=fun i=>bf n M (T i) (T i):=⟨_,rfl⟩
 have hu1:∀i,i<n→1≤u i∧u i≤4:=fun i hi=>by rw[hu];exact hT.QL i hi
 have Pg:∀i,i<n→Bd (d i) (4*R):=fun i hi=>by
  have g1:=hR (T i)
  rw[l7,l7]at g1
  have g2:=hu1 i hi
  rw[hu]at g2
  rw[hd]
  have g3:=Rat.mul_nonneg Pm (show(0:Rat)≤4 - bf n M (T i) (T i) by grind)
  constructor
  ·show -(4*R)≤bf n S (T i) (T i);grind
  ·show bf n S (T i) (T i)≤4*R;grind
 have afx:∀j:Nat,j<n+1→Bd (cm (c.map (q*·)) j - cm (dC ((List.range n).map fun i=>(d i,u i))) j) (L*e):=fun j hj=>by
  have FF:((j:Nat):Rat)≤(n:Rat):=Rat.natCast_le_natCast.2 aa
  have hj0:(0:Rat)≤(j:Rat):=by
   have:((0:Nat):Rat)≤(j:Rat):=Rat.natCast_le_natCast.2 (Nat.zero_le _)
   exact this
  rw[jQ,hv,hq,←Eu,iN,←Ev]
  refine hL _ _ e (by grind) fun i l hi hl=> ?_
  rw[sI]
  unfold na
  by_cases gil:i=l
  ·subst gil
   rw[if_pos rfl]
   have g1:=Pg i hi
   have g2:=hu1 i hi
   have g3:pull n S T i i - (j:Rat)*pull n M T i i=d i - (j:Rat)*u i:=by rw[hd,hu];rfl
   rw[g3]
   have g4:=Rat.mul_nonneg hj0 (show(0:Rat)≤u i by grind)
   have g5:=Rat.mul_nonneg hj0 (show(0:Rat)≤4 - u i by grind)
   obtain⟨g6,g7⟩:=g1
   have g8:Bd (d i - (j:Rat)*u i) B:=by rw[hB];constructor<;>grind
   exact⟨g8,g8,by rw[Rat.sub_self];constructor<;>grind⟩
  ·rw[if_neg gil]
   have g1:Bd (pull n S T i l) e:=hT.QM i l hi hl gil
   have g2:pull n M T i l=0:=hT.aby i l hi hl gil
   rw[g2,Rat.mul_zero,show pull n S T i l - 0=pull n S T i l by grind]
   exact⟨g1.mono (by grind),⟨by grind,by grind⟩,by rw[show pull n S T i l - 0=pull n S T i l by grind];exact g1⟩
 have hlen:(dC ((List.range n).map fun i=>(d i,u i))).length=n+1:=by rw[iM];simp
 have afz:=hC (c.map (q*·)) (dC ((List.range n).map fun i=>(d i,u i))) (L*e) (by rw[List.length_map];omega) aa (Rat.mul_nonneg hL0 (by grind)) afx
 have qx:∀j,j<n+1→g≤(c.map (q*·)).getD j 0∨(c.map (q*·)).getD j 0≤ -g:=fun j hj=>by
  rw[jv]
  have g1:(bD n M)⁻¹≤q:=by
   have:=Rat.mul_nonneg (show(0:Rat)≤(bD n M)⁻¹ by grind) (show(0:Rat)≤q*bD n M - 1 by grind)
   have h2:(bD n M)⁻¹*(q*bD n M - 1)=q*(bD n M*(bD n M)⁻¹) - (bD n M)⁻¹:=by generalize (bD n M)⁻¹=y;grind
   rw[h2,Pk]at this
   grind
  have Gd:0≤q:=by grind
  rcases hD j hj with x|x
  ·have g2:=Rat.mul_nonneg Gd (show(0:Rat)≤c.getD j 0 - D by grind)
   have g3:=Rat.mul_nonneg (show(0:Rat)≤D by grind) (show(0:Rat)≤q - (bD n M)⁻¹ by grind)
   exact .inl (by rw[hg];grind)
  ·have g2:=Rat.mul_nonneg Gd (show(0:Rat)≤ -D - c.getD j 0 by grind)
   have g3:=Rat.mul_nonneg (show(0:Rat)≤D by grind) (show(0:Rat)≤q - (bD n M)⁻¹ by grind)
   exact .inr (by rw[hg];grind)
 have MY:∀j,j<n+1→dL ((c.map (q*·)).getD j 0) ((dC ((List.range n).map fun i=>(d i,u i))).getD j 0)∧(g*(1/2)≤(dC ((List.range n).map fun i=>(d i,u i))).getD j 0∨(dC ((List.range n).map fun i=>(d i,u i))).getD j 0≤ -(g*(1/2))):=fun j hj=>
  AQ (qx j hj) ((afz j).mono heC) hg0
 have Gd:0<q:=by
  refine Rat.not_le.1 fun gq=> ?_
  have:=Rat.mul_nonneg (show(0:Rat)≤ -q by grind) (show(0:Rat)≤bD n M by grind)
  grind
 have Ai:∀j,dL (c.getD j 0) ((dC ((List.range n).map fun i=>(d i,u i))).getD j 0):=fun j=>by
  by_cases hj:j<n+1
  ·obtain⟨⟨s1,s2⟩,_⟩:=MY j hj
   rw[jv]at s1 s2
   refine⟨⟨fun gp=>s1.1 (Rat.mul_pos Gd gp),fun gp=> ?_⟩,⟨fun gn=>s2.1 ?_,fun gn=> ?_⟩⟩
   ·have:=s1.2 gp
    refine Rat.not_le.1 fun gx=> ?_
    have:=Rat.mul_nonneg (show(0:Rat)≤q by grind) (show(0:Rat)≤ -c.getD j 0 by grind)
    grind
   ·have:=Rat.mul_pos Gd (show(0:Rat)< -c.getD j 0 by grind)
    grind
   ·have:=s2.2 gn
    refine Rat.not_le.1 fun gx=> ?_
    have:=Rat.mul_nonneg (show(0:Rat)≤q by grind) (show(0:Rat)≤c.getD j 0 by grind)
    grind
  ·rw[List.getD_eq_getElem?_getD,List.getElem?_eq_none aa,List.getD_eq_getElem?_getD,List.getElem?_eq_none aa]
   exact⟨Iff.rfl,Iff.rfl⟩
 have v1:=Cq 0 (hc.trans hlen.symm) Ai
 have v2:=Cq 0 (show(cU false c).length=(cU false (dC ((List.range n).map fun i=>(d i,u i)))).length by rw[lf,lf,hc,hlen]) (MW Ai false)
 have hdk:∀i,i<n→¬(-k<d i∧d i<k):=fun i hi ⟨b1,b2⟩=>by
  obtain⟨_,s3⟩:=MY 0 aa
  rw[←HZ,iN]at s3
  have aI:∃a:Rat,0≤a∧a<k∧Bd (d i) a:=by
   by_cases gs:0≤d i
   ·exact⟨d i,gs,b2,by constructor<;>grind⟩
   ·exact⟨-d i,by grind,by grind,by constructor<;>grind⟩
  obtain⟨a,ha0,hak,had⟩:=aI
  have hp:=(Ew (u:=u) hB1 n fun i hi=>(Pg i hi).mono (by rw[hB];grind)).2 i a hi had
  have hs:a*B^n<g*(1/2):=by
   have g1:=Rat.mul_pos (show(0:Rat)<B^n by grind) (show(0:Rat)<k - a by grind)
   have g2:B^n*(k - a)=g*(1/2)*(B^n*(B^n)⁻¹) - a*B^n:=by rw[hk];generalize (B^n)⁻¹=y;grind
   rw[g2,hBi]at g1
   grind
  obtain⟨p1,p2⟩:=hp
  rcases s3 with x|x<;>grind
 obtain⟨x1,x2⟩:=MT (L:=(List.range n).map fun i=>(d i,u i)) fun q' qn=>by
  obtain⟨i,hi,rfl⟩:=List.mem_map.1 qn
  rw[List.mem_range]at hi
  have g1:=hdk i hi
  have g2:=hu1 i hi
  exact⟨fun(gz:d i=0)=>g1 ⟨by rw[gz];grind,by rw[gz];exact QN⟩,by show 0<u i;grind⟩
 rw[H4 n d u fun a=>decide (0<a)]at x1
 rw[H4 n d u fun a=> !decide (0<a)]at x2
 have afB:=yn (fun i=>decide (0<d i)) n
 have Fz:et n S (cF n fun i=>decide (0<d i)):=AP (T:=T) (Cp (e:=e) (k:=k) (by grind) (fun i j hi hj gij=>hT.QM i j hi hj gij) (fun i hi=>by rw[hd];rfl) (fun i hi gd=>by
  have:=hdk i hi
  exact Rat.not_lt.1 fun gl=>this ⟨by grind,gl⟩) hek)
 have Ko:et n (fun i k=> -1*S i k) (cF n fun i=>decide (0< -1*d i)):=AP (T:=T) (Cp (e:=e) (k:=k) (by grind) (fun i j hi hj gij=>by
  rw[yu]
  obtain⟨b1,b2⟩:Bd (pull n S T i j) e:=hT.QM i j hi hj gij
  constructor<;>grind) (fun i hi=>by rw[yu,hd];rfl) (fun i hi gd=>by
  have:=hdk i hi
  exact Rat.not_lt.1 fun gl=>this ⟨by grind,by grind⟩) hek)
 have hmm:cF n (fun i=>decide (0< -1*d i))=cF n fun i=> !decide (0<d i):=fa fun i hi=>by
  have:=hdk i hi
  by_cases gd:0<d i
  ·have:¬0< -1*d i:=by grind
   simp[gd,this]
  ·have h3:0< -1*d i:=by
    have hz:d i≠0:=fun gz=>hdk i hi ⟨by rw[gz];grind,by rw[gz];exact QN⟩
    grind
   simp[gd,h3]
 rw[hmm]at Ko
 have a1:=(hI.pos _).1 Fz
 have a2:=(hI.neg _).1 Ko
 have a3:=hI.sum
 rw[v1,v2,x1,x2]
 omega
def qh (e:Rat):Rat→List Rat→List Rat
 |p,[]=>[p]
 |p,b::s=>(p+e*b)::qh e b s
def cG (e:Rat):List Rat→List Rat
 |[]=>[]
 |a::l=>qh e a (cG e l)
theorem AR (e:Rat):∀(s:List Rat) (p:Rat),(qh e p s).length=s.length+1
 |[],_=>rfl
 |b::s,_=>by rw[qh,List.length_cons,AR e s b,List.length_cons]
theorem nR (e:Rat):∀l:List Rat,(cG e l).length=l.length
 |[]=>rfl
 |a::l=>by rw[cG,AR,nR e l,List.length_cons]
theorem AS (e x:Rat):∀(s:List Rat) (p:Rat),cm (qh e p s) x=p+(x+e)*cm s x
 |[],p=>by rw[qh];simp only[cm];grind
 |b::s,p=>by rw[qh];simp only[cm];rw[AS e x s b];grind
theorem yw (e x:Rat):∀l:List Rat,cm (cG e l) x=cm l (x+e)
 |[]=>rfl
 |a::l=>by rw[cG,AS,yw e x l];rfl
theorem yx (e p:Rat) (s:List Rat):(qh e p s).getD 0 0=p+e*s.getD 0 0:=by
 cases s with
 |nil=>show p=p+e*0;grind
 |cons b s=>rfl
theorem yy (e:Rat):∀(s:List Rat) (p:Rat) (j:Nat),(qh e p s).getD (j+1) 0=s.getD j 0+e*s.getD (j+1) 0
 |[],p,j=>by
  show(0:Rat)=0+e*0
  grind
 |b::s,p,0=>yx e b s
 |b::s,p,j+1=>yy e s b j
theorem yA (e a:Rat) (l:List Rat):(cG e (a::l)).getD 0 0=a+e*(cG e l).getD 0 0:=yx ..
theorem qM (e a:Rat) (l:List Rat) (j:Nat):(cG e (a::l)).getD (j+1) 0=(cG e l).getD j 0+e*(cG e l).getD (j+1) 0:=yy ..
theorem yB:∀l:List Rat,∃K:Rat,0≤K∧∀e,0≤e→e≤1→∀j,Bd ((cG e l).getD j 0 - l.getD j 0) (K*e)∧Bd ((cG e l).getD j 0) K
 |[]=>⟨0,Rat.le_refl,fun e _ _ j=>by
  simp only[cG]
  have:([]:List Rat).getD j 0=0:=by simp
  rw[this,Rat.sub_self,Rat.zero_mul];exact⟨⟨aH,aH⟩,⟨aH,aH⟩⟩⟩
 |a::l=>by
  obtain⟨K,hK,h⟩:=yB l
  obtain⟨A,hA0,hA⟩:∃A:Rat,0≤A∧Bd a A:=by
   by_cases g:0≤a
   ·exact⟨a,g,by constructor<;>grind⟩
   ·exact⟨-a,by grind,by constructor<;>grind⟩
  refine⟨2*K+A,by grind,fun e h0 h1 j=> ?_⟩
  have hKe:=Rat.mul_nonneg hK h0
  have hAe:=Rat.mul_nonneg hA0 h0
  have hK1:=Rat.mul_nonneg hK (show(0:Rat)≤1 - e by grind)
  cases j with
  |zero=>
   rw[yA]
   obtain⟨_,g2⟩:=h e h0 h1 0
   have g3:=Bd.mul (x:=e) (a:=e) ⟨by grind,Rat.le_refl⟩ g2
   obtain⟨a1,a2⟩:=hA
   obtain⟨b1,b2⟩:=g3
   refine⟨⟨?_, ?_⟩,⟨?_, ?_⟩⟩
   ·show _≤a+e*(cG e l).getD 0 0 - a;grind
   ·show a+e*(cG e l).getD 0 0 - a≤_;grind
   ·grind
   ·grind
  |succ j=>
   rw[qM]
   obtain⟨g1,g4⟩:=h e h0 h1 j
   obtain⟨_,g2⟩:=h e h0 h1 (j+1)
   have g3:=Bd.mul (x:=e) (a:=e) ⟨by grind,Rat.le_refl⟩ g2
   obtain⟨b1,b2⟩:=g3
   obtain⟨c1,c2⟩:=g1
   obtain⟨d1,d2⟩:=g4
   refine⟨⟨?_, ?_⟩,⟨?_, ?_⟩⟩
   ·show _≤(cG e l).getD j 0+e*(cG e l).getD (j+1) 0 - l.getD j 0;grind
   ·show(cG e l).getD j 0+e*(cG e l).getD (j+1) 0 - l.getD j 0≤_;grind
   ·grind
   ·grind
def Fl (a b:List Rat):Prop:=a.length=b.length∧∀j,j<a.length→b.getD j 0≠0∧(a.getD j 0≠0→dL (a.getD j 0) (b.getD j 0))∧(a.getD j 0=0→dL (b.getD j 0) (b.getD (j+1) 0))
theorem Fl.tail {x y:Rat} {a b:List Rat} (h:Fl (x::a) (y::b)):Fl a b:=⟨by have:=h.1;simpa using this,fun j hj=>h.2 (j+1) (by simp;omega)⟩
theorem US:∀{a b:List Rat} (s:Int),Fl a b→vr s a=vr s b
 |[],[],_,_=>rfl
 |[],_::_,_,h=>by have:=h.1;simp at this
 |_::_,[],_,h=>by have:=h.1;simp at this
 |x::a,y::b,s,h=>by
  obtain⟨h1,h2,h3⟩:=h.2 0 (by simp)
  have h1:y≠0:=h1
  have h2:x≠0→dL x y:=h2
  have h3:x=0→dL y (b.getD 0 0):=h3
  have ih:=fun s=>US s h.tail
  by_cases g:x=0
  ·subst g
   rw[cY,ih]
   have h4:=h3 rfl
   cases b with
   |nil=>
    exfalso
    have h4:dL y 0:=h4
    rcases(show 0<y∨y<0 by grind)with q|q
    ·have:=h4.1.1 q;grind
    ·have:=h4.2.1 q;grind
   |cons z b=>
    have h4:dL y z:=h4
    rcases(show 0<y∨y<0 by grind)with q|q
    ·rw[cO q,cO (h4.1.1 q),cO (h4.1.1 q)];simp
    ·rw[cP q,cP (h4.2.1 q),cP (h4.2.1 q)];simp
  ·have h4:=h2 g
   rcases(show 0<x∨x<0 by grind)with q|q
   ·rw[cO q,cO (h4.1.1 q),ih]
   ·rw[cP q,cP (h4.2.1 q),ih]
theorem dL.trans {a b c:Rat} (h:dL a b) (g:dL b c):dL a c:=⟨h.1.trans g.1,h.2.trans g.2⟩
theorem dL.symm {a b:Rat} (h:dL a b):dL b a:=⟨h.1.symm,h.2.symm⟩
theorem dL.add {a b e:Rat} (h:dL a b) (he:0<e):dL a (a+e*b):=by
 have Cn:a=0∨0<a∨a<0:=by grind
 rcases Cn with g|g|g
 ·have gb:b=0:=by
   have h1:¬0<b:=fun q=>by have:=h.1.2 q;grind
   have h2:¬b<0:=fun q=>by have:=h.2.2 q;grind
   grind
  subst g gb
  rw[show(0:Rat)+e*0=0 by grind];exact⟨Iff.rfl,Iff.rfl⟩
 ·have:=Rat.mul_pos he (h.1.1 g)
  exact⟨⟨fun _=>by grind,fun _=>g⟩,⟨fun q=>by grind,fun q=>by grind⟩⟩
 ·have:=Rat.mul_pos he (show 0< -b by have:=h.2.1 g;grind)
  exact⟨⟨fun q=>by grind,fun q=>by grind⟩,⟨fun _=>by grind,fun _=>g⟩⟩
theorem JC {a y D:Rat} (ha:D≤a∨a≤ -D) (hy:Bd (y - a) (D*(1/2))) (hD:0<D):dL a y:=(AQ ha (by obtain⟨h1,h2⟩:=hy;constructor<;>grind) hD).1
theorem Ex:∀l:List Rat,l.getD (l.length - 1) 0≠0→∃D:Rat,0<D∧∀e,0<e→e≤D→Fl l (cG e l)
 |[],h=>by simp at h
 |[a],h=>⟨1,aH,fun e _ _=>⟨rfl,fun j hj=>by
  have hj0:j=0:=by simp at hj;exact hj
  subst hj0
  have h:a≠0:=h
  have e1:(cG e [a]).getD 0 0=a:=by show(qh e a []).getD 0 0=a;rfl
  rw[e1]
  exact⟨h,fun _=>⟨Iff.rfl,Iff.rfl⟩,fun g=>absurd g h⟩⟩⟩
 |a::b::l,h=>by
  obtain⟨D,hD0,ih⟩:=Ex (b::l) (by
   have:(a::b::l).length - 1=((b::l).length - 1)+1:=by simp
   rw[this]at h
   exact h)
  obtain⟨K,hK,hn⟩:=yB (a::b::l)
  obtain⟨d,wX,hd⟩:=Cs (fun j=>if (a::b::l).getD j 0=0 then 1 else(a::b::l).getD j 0) (a::b::l).length fun j _=>by
   by_cases g:(a::b::l).getD j 0=0
   ·simp only[if_pos g];decide
   ·simp only[if_neg g];exact g
  have Pk:d*d⁻¹=1:=Rat.mul_inv_cancel _ (by grind)
  have hdp:=Rat.inv_pos.2 wX
  obtain⟨x,hx0,hx1,Kv,_⟩:=yv (a:=2*K*d⁻¹) (b:=0) (Rat.mul_nonneg (by grind) (by grind)) Rat.le_refl
  have hKx:K*x≤d*(1/2):=by
   have:=Rat.mul_nonneg (show(0:Rat)≤d by grind) (show(0:Rat)≤1 - 2*K*d⁻¹*x by grind)
   have h2:d*(1 - 2*K*d⁻¹*x)=d - 2*(K*x)*(d*d⁻¹):=by generalize d⁻¹=y;grind
   rw[h2,Pk]at this
   grind
  obtain⟨y,hy0,hyD,hyx⟩:∃y:Rat,0<y∧y≤D∧y≤x:=by
   by_cases g:D≤x
   ·exact⟨D,hD0,Rat.le_refl,g⟩
   ·exact⟨x,hx0,by grind,Rat.le_refl⟩
  refine⟨y,hy0,fun e he hey=> ?_⟩
  have hf:=ih e he (by grind)
  have hnz:∀j,j<(a::b::l).length→(a::b::l).getD j 0≠0→dL ((a::b::l).getD j 0) ((cG e (a::b::l)).getD j 0):=fun j hj a7=>by
   have h1:=hd j hj
   simp only[if_neg a7]at h1
   have h2:=(hn e (by grind) (by grind) j).1
   refine JC h1 (h2.mono ?_) wX
   have:=Rat.mul_nonneg hK (show(0:Rat)≤x - e by grind)
   grind
  have nh:∀j,j<(b::l).length→dL ((cG e (b::l)).getD j 0) ((cG e (a::b::l)).getD (j+1) 0):=fun j hj=>by
   rw[qM]
   obtain⟨g1,g2,g3⟩:=hf.2 j hj
   by_cases gz:(b::l).getD j 0=0
   ·exact(g3 gz).add he
   ·have h1:=hnz (j+1) (by simp at hj ⊢;omega) gz
    rw[qM]at h1
    exact(g2 gz).symm.trans h1
  have QR:∀{p q:Rat},dL p q→p≠0→q≠0:=fun {p q} hs hp hq=>by
   subst hq
   rcases(show 0<p∨p<0 by grind)with g|g
   ·have:=hs.1.1 g;grind
   ·have:=hs.2.1 g;grind
  refine⟨(nR e _).symm,fun j hj=> ?_⟩
  cases j with
  |zero=>
   have hb0:=(hf.2 0 (by simp)).1
   have ht0:=nh 0 (by simp)
   by_cases gz:a=0
   ·have e1:(cG e (a::b::l)).getD 0 0=e*(cG e (b::l)).getD 0 0:=by rw[yA,gz];grind
    have hs:dL ((cG e (b::l)).getD 0 0) (e*(cG e (b::l)).getD 0 0):=by
     generalize (cG e (b::l)).getD 0 0=w at*
     rcases(show 0<w∨w<0 by grind)with g|g
     ·have:=Rat.mul_pos he g
      exact⟨⟨fun _=>this,fun _=>g⟩,⟨fun q=>by grind,fun q=>by grind⟩⟩
     ·have:=Rat.mul_pos he (show 0< -w by grind)
      exact⟨⟨fun q=>by grind,fun q=>by grind⟩,⟨fun _=>by grind,fun _=>g⟩⟩
    rw[e1]
    exact⟨QR hs hb0,fun g=>absurd gz g,fun _=>hs.symm.trans ht0⟩
   ·have hs:=hnz 0 hj gz
    exact⟨QR hs gz,fun _=>hs,fun g=>absurd g gz⟩
  |succ j=>
   have oc:j<(b::l).length:=by simp at hj ⊢;omega
   obtain⟨g1,g2,g3⟩:=hf.2 j oc
   have ht:=nh j oc
   refine⟨QR ht g1,fun gz=>(g2 gz).trans ht,fun gz=> ?_⟩
   have h3:=g3 gz
   have UT:j+1<(b::l).length:=by
    refine Nat.lt_of_not_le fun gl=> ?_
    have:(cG e (b::l)).getD (j+1) 0=0:=by rw[List.getD_eq_getElem?_getD,List.getElem?_eq_none (by rw[nR];omega)];rfl
    rw[this]at h3
    exact QR h3 g1 rfl
   exact ht.symm.trans (h3.trans (nh (j+1) UT))
theorem Ey:∀{l m:List Rat},l.length=m.length→(lE l m).length=l.length
 |[],[],_=>rfl
 |a::l,b::m,h=>by
  rw[lE,List.length_cons,List.length_cons,Ey (by simpa using h)]
theorem Ez (d u:Rat):∀(l:List Rat) (p:Rat),(ia d u p l).getD l.length 0= -(u*(p::l).getD l.length 0)
 |[],p=>rfl
 |a::l,p=>by
  have:=Ez d u l a
  rw[ia,List.length_cons,List.getD_cons_succ,List.getD_cons_succ,this]
theorem mP (x:Rat):∀n,cm (List.replicate n 0) x=0
 |0=>rfl
 |n+1=>by rw[List.replicate_succ,cm,mP x n];grind
theorem iO (n j:Nat):(List.replicate n (0:Rat)).getD j 0=0:=by
 rw[List.getD_eq_getElem?_getD,List.getElem?_replicate]
 split<;>rfl
theorem H5:∀(n:Nat) (S M:Mx),∃c:List Rat,c.length=n+1∧(∀x,cm c x=bD n (iX S M x))∧c.getD n 0=sg n*bD n M
 |0,S,M=>⟨[1],rfl,fun x=>by simp only[cm,bD];grind,by simp[bD,sg]⟩
 |n+1,S,M=>by
  have key:∀m,∃c:List Rat,c.length=n+2∧(∀x,cm c x=ao m fun k=>sg k*iX S M x 0 k*bD n (mn (iX S M x) k))∧c.getD (n+1) 0=ao m fun k=>sg (n+1)*(sg k*M 0 k*bD n (mn M k)):=by
   intro m
   induction m with
   |zero=>exact⟨List.replicate (n+2) 0,by simp,fun x=>by rw[mP];rfl,by rw[iO];rfl⟩
   |succ m ih=>
    obtain⟨c,h1,h2,h3⟩:=ih
    obtain⟨q,g1,g2,g3⟩:=H5 n (mn S m) (mn M m)
    have hl:(ia (S 0 m) (M 0 m) 0 q).length=n+2:=by rw[yp,g1]
    refine⟨lE c ((ia (S 0 m) (M 0 m) 0 q).map (sg m*·)), ?_,fun x=> ?_, ?_⟩
    ·rw[Ey (by rw[List.length_map,h1,hl]),h1]
    ·rw[mM,jQ,yq,h2,g2]
     show _=_+sg m*(S 0 m - x*M 0 m)*bD n (iX (mn S m) (mn M m) x)
     grind
    ·have ht:=Ez (S 0 m) (M 0 m) q 0
     rw[g1,List.getD_cons_succ,g3]at ht
     rw[pb,jv,h3,ht]
     show _=_+sg (n+1)*(sg m*M 0 m*bD n (mn M m))
     have:sg (n+1)= -sg n:=rfl
     rw[this]
     grind
  obtain⟨c,h1,h2,h3⟩:=key (n+1)
  refine⟨c,h1,fun x=>by rw[h2,bP], ?_⟩
  rw[h3,bP,sum_smul]
def yC:Nat→(Nat→Rat)→Rat
 |0,_=>1
 |n+1,t=>t 0*yC n fun i=>t (i+1)
theorem H6:∀(n:Nat) (A:Mx) (t:Nat→Rat),bD n (fun i k=>t i*A i k)=yC n t*bD n A
 |0,_,_=>by simp only[bD,yC];grind
 |n+1,A,t=>by
  rw[bP,bP,yC,←sum_smul]
  refine ai _ fun k _=> ?_
  have:=H6 n (mn A k) fun i=>t (i+1)
  rw[show mn (fun i k=>t i*A i k) k=fun i j=>t (i+1)*mn A k i j from rfl,this]
  grind
theorem Cu (x:Rat):∀(n k:Nat),k≤n→(yC n fun i=>if i<k then 1 else x)=x^(n - k)
 |0,k,h=>by rw[Nat.zero_sub,Rat.pow_zero];rfl
 |n+1,0,h=>by
  have:=Cu x n 0 (Nat.zero_le _)
  simp only[Nat.not_lt_zero,if_false]at this ⊢
  rw[yC,this,Nat.sub_zero,Nat.sub_zero,Rat.pow_succ];grind
 |n+1,k+1,h=>by
  have:=Cu x n k aa
  rw[yC,if_pos aa,show(fun i=>if i+1<k+1 then(1:Rat)else x)=fun i=>if i<k then 1 else x from funext fun i=>by simp,this,Nat.add_sub_add_right]
  grind
theorem EA (q:List Rat) (x:Rat):∀z:Nat,cm (List.replicate z 0++q) x=x^z*cm q x
 |0=>by rw[Rat.pow_zero];show cm q x=_;grind
 |z+1=>by rw[List.replicate_succ,List.cons_append,cm,EA q x z,Rat.pow_succ];grind
theorem MZ (q:List Rat) {z j:Nat} (h:j<z):(List.replicate z (0:Rat)++q).getD j 0=0:=by
 rw[List.getD_eq_getElem?_getD,List.getElem?_append_left (by simpa using h),List.getElem?_replicate,if_pos h];rfl
theorem M0 {d:Nat} {l m:List Rat} (hl:l.length≤d) (hm:m.length≤d) (h:∀k:Nat,k<d→cm l k=cm m k) (j:Nat):l.getD j 0=m.getD j 0:=by
 obtain⟨C,_,hC⟩:=Er d
 obtain⟨h1,h2⟩:=hC l m 0 hl hm aH (fun k hk=>by rw[h k hk];constructor<;>grind) j
 rw[Rat.mul_zero]at h1 h2
 grind
theorem H7 {n:Nat} {S M:Mx} {c:List Rat} {m z p:Nat} (hS:cZ n S) (hc:c.length=n+1) (hv:∀x,cm c x=bD n (iX S M x)) (hI:cK n S m z p):∀j,j<z→c.getD j 0=0:=by
 have he:∀i k,i<n→k<n→el (mk n n S) n i k=S i k:=fun i k hi hk=>r8 hi hk
 have hS':cZ n (el (mk n n S) n):=fun i k hi hk=>by rw[he i k hi hk,he k i hk hi,hS i k hi hk]
 have hr:=(hI.congr (B:=el (mk n n S) n) fun i k hi hk=>(he i k hi hk).symm).ahB hS'
 have abF:=Inv.red (r:=n) (W:=el (mk n n S) n) n
 obtain⟨P,hP,hb⟩:=abF.UL
 have oo:=abF.low
 unfold iK at hr
 generalize p6 n n ⟨el (mk n n S) n,[],1⟩=s at hr abF hP hb oo
 generalize s.bU.length=rk at hr oo
 have hdP:bD n P≠0:=fun g=>by rw[g]at hP;grind
 obtain⟨q,q1,q2,_⟩:=H5 n (fun i k=>if i<rk then s.w i k else -(pr n P M i k)) (fun i k=>if i<rk then pr n P M i k else 0)
 have key:∀x,cm (c.map (bD n P*·)) x=cm (List.replicate z 0++q) x:=fun x=>by
  rw[jQ,hv,←wh,EA,q2]
  have e1:bD n (pr n P (iX S M x))=bD n fun i k=>(if i<rk then 1 else x)*iX (fun i k=>if i<rk then s.w i k else -(pr n P M i k)) (fun i k=>if i<rk then pr n P M i k else 0) x i k:=by
   refine bn fun i k hi hk=> ?_
   have g1:pr n P (iX S M x) i k=pr n P S i k - x*pr n P M i k:=by
    unfold pr iX
    rw[show(fun p=>P i p*(S p k - x*M p k))=fun p=>P i p*S p k+ -x*(P i p*M p k)from funext fun p=>by grind,sum_add,sum_smul];grind
   have g2:pr n P S i k=s.w i k:=by
    rw[hb i hi k]
    unfold pr
    exact ai n fun j hj=>by rw[he j k hj hk]
   rw[g1,g2]
   unfold iX
   by_cases h:i<rk
   ·simp only[if_pos h];grind
   ·have:=oo i aa hi k hk
    simp only[if_neg h];rw[this];grind
  rw[e1,H6,Cu x n rk aa,show n - rk=z from by omega]
 intro j hj
 have:=M0 (d:=z+(n+1)) (by rw[List.length_map,hc];omega) (by rw[List.length_append,List.length_replicate,q1];omega) (fun k _=>key k) j
 rw[jv,MZ q hj]at this
 rcases Rat.mul_eq_zero.1 this with h|h
 ·exact absurd h hdP
 ·exact h
def eU (j:Nat):Nat→Rat:=fun i=>if i=j then 1 else 0
theorem M1 {n:Nat} (d:Nat→Rat) {i:Nat} (hi:i<n):qf n (na d) (eU i)=d i:=by
 rw[vq,dA (j:=i) n hi fun b _ hb=>by unfold eU;rw[if_neg hb];grind]
 unfold eU;rw[if_pos rfl];grind
theorem afC {n:Nat} (d:Nat→Rat) {i j:Nat} (hi:i<n) (hj:j<n) (a7:i≠j):qf n (na d) (fun l=>1*eU i l+eU j l)=d i+d j:=by
 rw[vq,show(fun l=>d l*((1*eU i l+eU j l)*(1*eU i l+eU j l)))=fun l=>d l*(eU i l*eU i l)+d l*(eU j l*eU j l)from funext fun l=>by
  unfold eU
  by_cases h:l=i
  ·rw[if_pos h,if_neg aa];grind
  ·rw[if_neg h];grind]
 rw[sum_add,←vq,←vq,M1 d hi,M1 d hj]
theorem QS {n:Nat} {S:Mx} {d:Nat→Rat} {T U:(Nat→Rat)→Nat→Rat} (hI:Ch n T U) (hS:cZ n S) (hq:∀x,qf n (na d) x=qf n S (T x)) {i j:Nat} (hi:i<n) (hj:j<n):
  bf n S (T (eU i)) (T (eU j))=if i=j then d i else 0:=by
 by_cases h:i=j
 ·subst h
  rw[if_pos rfl,←l7,←hq,M1 d hi]
 ·rw[if_neg h]
  have h1:=hq fun l=>1*eU i l+eU j l
  rw[afC d hi hj h,dY (y:=fun l=>T (eU i) l+T (eU j) l) fun l hl=>by rw[hI.uf.uf 1 _ _ l hl];grind,Ck hS,←hq,←hq,M1 d hi,M1 d hj]at h1
  grind
theorem JD {n:Nat} {S M:Mx} {m z p:Nat} (hS:cZ n S) (hP:hZ n M) (hI:cK n S m z p):∃D:Rat,0<D∧∀e,0<e→e≤D→∀m' z' p',cK n (iX S M e) m' z' p'→p'=p:=by
 obtain⟨d,T,U,hTU,hq⟩:=Cj hS
 have hV:∀i j,i<n→j<n→pull n S (fun j=>T (eU j)) i j=if i=j then d i else 0:=fun i j hi hj=>QS hTU hS hq hi hj
 have hp:p=cF n fun i=>decide (0<d i):=by
  have hd:Cg n S (na d):=⟨T,U,hTU,hq⟩
  have a1:=iW.1 (hd.vK.1 ((hI.pos p).2 (Nat.le_refl _)))
  have a2:=(hI.pos _).1 (hd.vK.2 (iW.2 (Nat.le_refl (cF n fun i=>decide (0<d i)))))
  omega
 obtain⟨K,hK0,hK⟩:=Cr (pull n M fun j=>T (eU j)) n n
 obtain⟨g,hg0,hg⟩:=Cs (fun i=>if 0<d i then d i else 1) n fun i _=>by
  by_cases h:0<d i
  ·simp only[if_pos h];grind
  ·simp only[if_neg h];decide
 have Pn:(0:Rat)≤(n:Rat):=by
  have:((0:Nat):Rat)≤(n:Rat):=Rat.natCast_le_natCast.2 (Nat.zero_le _)
  exact this
 have hnK:=Rat.mul_nonneg Pn hK0
 have hgi:g*g⁻¹=1:=Rat.mul_inv_cancel _ (by grind)
 have hgp:=Rat.inv_pos.2 hg0
 obtain⟨D,hD0,_,_,hD2⟩:=yv (a:=0) (b:=(n*K+K)*g⁻¹) Rat.le_refl (Rat.mul_nonneg (by grind) (by grind))
 refine⟨D,hD0,fun e he heD m' z' p' Hl=> ?_⟩
 have hek:(n:Rat)*(K*e)<g - K*e:=by
  have h1:=Rat.mul_pos hg0 (show(0:Rat)<1 - (n*K+K)*g⁻¹*D by grind)
  have h2:g*(1 - (n*K+K)*g⁻¹*D)=g - (n*K+K)*D*(g*g⁻¹):=by generalize g⁻¹=y;grind
  rw[h2,hgi]at h1
  have h3:=Rat.mul_nonneg (show(0:Rat)≤n*K+K by grind) (show(0:Rat)≤D - e by grind)
  grind
 have hKe:0≤K*e:=Rat.mul_nonneg hK0 (by grind)
 have hbd:∀i j,i<n→j<n→Bd (e*pull n M (fun j=>T (eU j)) i j) (K*e):=fun i j hi hj=>by
  obtain⟨h1,h2⟩:=hK i j hi hj
  have g1:=Rat.mul_nonneg (show(0:Rat)≤e by grind) (show(0:Rat)≤K - pull n M (fun j=>T (eU j)) i j by grind)
  have g2:=Rat.mul_nonneg (show(0:Rat)≤e by grind) (show(0:Rat)≤K+pull n M (fun j=>T (eU j)) i j by grind)
  constructor<;>grind
 have gN:et n (pull n (iX S M e) fun j=>T (eU j)) (cF n fun i=>decide (0<pull n (iX S M e) (fun j=>T (eU j)) i i)):=by
  refine Cp (e:=K*e) (k:=g - K*e) hKe (fun i j hi hj a7=> ?_) (fun i _=>rfl) (fun i hi Pk=> ?_) hek
  ·rw[sI,hV i j hi hj,if_neg a7]
   obtain⟨h1,h2⟩:=hbd i j hi hj
   constructor<;>grind
  ·rw[sI,hV i i hi hi,if_pos rfl]at Pk ⊢
   obtain⟨h1,h2⟩:=hbd i i hi hi
   by_cases h:0<d i
   ·have:=hg i hi
    simp only[if_pos h]at this
    grind
   ·exfalso
    have h3:0≤pull n M (fun j=>T (eU j)) i i:=by
     show 0≤bf n M (T (eU i)) (T (eU i))
     rw[←l7];exact hP.nn _
    have:=Rat.mul_nonneg (show(0:Rat)≤e by grind) h3
    grind
 have afB:(cF n fun i=>decide (0<pull n (iX S M e) (fun j=>T (eU j)) i i))=p:=by
  rw[hp]
  refine fa fun i hi=> ?_
  rw[sI,hV i i hi hi,if_pos rfl]
  obtain⟨h1,h2⟩:=hbd i i hi hi
  by_cases h:0<d i
  ·have:=hg i hi
   simp only[if_pos h]at this
   have Lf:(1:Rat)≤(n:Rat):=by
    have:((1:Nat):Rat)≤(n:Rat):=Rat.natCast_le_natCast.2 aa
    exact this
   have g5:=Rat.mul_nonneg Pn hKe
   rw[decide_eq_true h,decide_eq_true (by grind)]
  ·have h3:0≤pull n M (fun j=>T (eU j)) i i:=by
    show 0≤bf n M (T (eU i)) (T (eU i))
    rw[←l7];exact hP.nn _
   have:=Rat.mul_nonneg (show(0:Rat)≤e by grind) h3
   rw[decide_eq_false h,decide_eq_false (by grind)]
 rw[afB]at gN
 have h1:p≤p':=by
  obtain⟨V,hV2⟩:=gN
  refine(Hl.pos p).1 ⟨fun j=>comb n (V j) fun j=>T (eU j),fun c hc=> ?_⟩
  have h1:=hV2 c hc
  rw[sE]at h1
  rw[dY (y:=comb n (comb p c V) fun j=>T (eU j)) fun i _=> ?_]
  ·exact h1
  ·show ao p (fun j=>c j*ao n fun l=>V j l*T (eU l) i)=ao n fun l=>(ao p fun j=>c j*V j l)*T (eU l) i
   rw[ai p (g:=fun j=>ao n fun l=>c j*(V j l*T (eU l) i)) fun j _=>by rw[bO],dX]
   refine ai n fun l _=> ?_
   rw[jr]
   exact ai p fun j _=>by grind
 have h2:=((hI.congr (B:=iX S M 0) fun i k _ _=>by unfold iX;grind).up hP (show(0:Rat)≤e by grind) Hl).2
 omega
theorem M3 {n:Nat} {M:Mx} (hM:cZ n M) (hP:hZ n M):0<bD n M:=by
 obtain⟨T,hT⟩:=HY n hM hM hP (R:=1) (e:=1) aH (fun x=>by have:=hP.nn x;constructor<;>grind) aH
 have g1:=GG hT
 have g2:=kX (bD n T)
 refine Rat.not_le.1 fun g=> ?_
 have:=Rat.mul_nonneg g2 (show(0:Rat)≤ -bD n M by grind)
 grind
theorem afD (n:Nat):sg n≠0:=fun h=>by have:=D5 n;rw[h]at this;grind
theorem M4 {n:Nat} {S M:Mx} {c:List Rat} (hM:cZ n M) (hP:hZ n M) (hc:c.length=n+1) (hv:∀x,cm c x=bD n (iX S M x)):c.getD n 0≠0:=by
 obtain⟨q,q1,q2,q3⟩:=H5 n S M
 rw[M0 (l:=c) (m:=q) (d:=n+1) aa aa (fun k _=>by rw[hv,←q2]) n,q3]
 intro h
 have h1:=M3 hM hP
 rcases Rat.mul_eq_zero.1 h with h|h
 ·exact afD n h
 ·grind
theorem H8 {n:Nat} {M:Mx} (h1:∀x,ao n (fun i=>x i*x i)≤qf n M x):hZ n M:=fun x ⟨i,hi,hx⟩=>by
 have g1:=h1 x
 have g2:=pL (n:=n) (f:=fun i=>x i*x i) (fun i _=>kX _) ⟨i,hi,sq_pos hx⟩
 grind
theorem Cv {n:Nat} {S M:Mx} {c:List Rat} {m z p:Nat} (hS:cZ n S) (hM:cZ n M) (h1:∀x,ao n (fun i=>x i*x i)≤qf n M x) (hc:c.length=n+1) (hv:∀x,cm c x=bD n (iX S M x)) (hI:cK n S m z p):vr 0 c=p:=by
 have hP:=H8 h1
 obtain⟨D1,Lm,h2⟩:=Ex c (by rw[hc];exact M4 hM hP hc hv)
 obtain⟨D2,hD2,h3⟩:=JD hS hP hI
 obtain⟨e,he0,he1,he2⟩:∃e:Rat,0<e∧e≤D1∧e≤D2:=by
  by_cases g:D1≤D2
  ·exact⟨D1,Lm,Rat.le_refl,g⟩
  ·exact⟨D2,hD2,by grind,Rat.le_refl⟩
 have hf:=h2 e he0 he1
 have hs:=pN hS hM e
 have Hl:=qL hs
 have:=(JB (c:=cG e c) hs hM h1 (by rw[nR,hc]) (fun x=>by
  rw[yw,hv]
  exact bn fun i k _ _=>by unfold iX;grind) (fun k hk=>(hf.2 k aa).1) Hl).1
 rw[US 0 hf,this,h3 e he0 he2 _ _ _ Hl]
theorem wB (x:Rat):∀(l:List Rat) (b:Bool),cm (cU b l) x=(if b then -1 else 1)*cm l (-x)
 |[],b=>by rw[cU,cm,cm];grind
 |a::l,b=>by
  rw[cU,cm,cm,wB x l]
  cases b<;>simp<;>grind
theorem M5:∀n:Nat,sg n=(-1:Rat)^n
 |0=>by rw[Rat.pow_zero];rfl
 |n+1=>by rw[sg,M5 n,Rat.pow_succ];grind
theorem M6:∀n:Nat,sg n=1∨sg n= -1
 |0=>.inl rfl
 |n+1=>by rcases M6 n with h|h<;>rw[sg,h]<;>simp
theorem EB {s:Rat} (h:s=1∨s= -1) (l:List Rat):vr 0 (l.map (s*·))=vr 0 l:=by
 rcases h with rfl|rfl
 ·rw[show(fun x:Rat=>1*x)=id from funext fun x=>by show 1*x=x;grind,List.map_id]
 ·exact sF l 0
theorem H9 {n:Nat} {S M:Mx} {c:List Rat} {m z p:Nat} (hS:cZ n S) (hM:cZ n M) (h1:∀x,ao n (fun i=>x i*x i)≤qf n M x) (hc:c.length=n+1) (hv:∀x,cm c x=bD n (iX S M x)) (hI:cK n S m z p):vr 0 (cU false c)=m:=by
 rw[←EB (M6 n)]
 refine Cv (S:=fun i k=> -1*S i k) (fun i k hi hk=>by show -1*S i k= -1*S k i;rw[hS i k hi hk]) hM h1 (by rw[List.length_map,lf,hc]) (fun x=> ?_) hI.minus
 rw[jQ,wB,hv,bn (A:=iX (fun i k=> -1*S i k) M x) (B:=fun i k=> -1*iX S M (-x) i k) fun i k _ _=>by unfold iX;grind,Mi,M5]
 simp
theorem Cw:∀(k:Nat) (l:List Rat) (s:Int),(∀j,j<k→l.getD j 0=0)→vr s l=vr s (l.drop k)
 |0,_,_,_=>rfl
 |_+1,[],_,_=>rfl
 |k+1,a::l,s,h=>by
  have h0:a=0:=h 0 aa
  rw[h0,cY,List.drop_succ_cons,Cw k l s fun j hj=>h (j+1) aa]
theorem EC:∀(k:Nat) (l:List Rat) (b:Bool),∃t,(cU b l).drop k=cU t (l.drop k)
 |0,l,b=>⟨b,rfl⟩
 |_+1,[],b=>⟨b,by rw[cU];simp[cU]⟩
 |k+1,a::l,b=>by
  obtain⟨t,h⟩:=EC k l (!b)
  exact⟨t,by rw[cU,List.drop_succ_cons,List.drop_succ_cons,h]⟩
theorem Ia {l:List Rat} {j:Nat} (h:j<l.length):l[j]=l.getD j 0:=by rw[List.getD_eq_getElem?_getD,List.getElem?_eq_getElem h];rfl
theorem abG (l:List Rat) (b t:Bool):vr 0 (cU b l)=vr 0 (cU t l):=by
 have h:∀t,vr 0 (cU t l)=vr 0 (cU false l):=by
  intro t
  cases t with
  |false=>rfl
  |true=>
   rw[←EB (.inr rfl) (cU false l)]
   congr 1
   refine List.ext_getElem (by simp[lf]) fun j h1 h2=> ?_
   have e1:=pP l true j
   have e2:=pP l false j
   rw[List.getElem_map,Ia h1,Ia,e1,e2]
   cases (j % 2==1)<;>simp<;>grind
 rw[h b,h t]
theorem QT {n:Nat} {S M:Mx} {c:List Rat} {m z p:Nat} (hS:cZ n S) (hM:cZ n M) (h1:∀x,ao n (fun i=>x i*x i)≤qf n M x) (hc:c.length=n+1) (hv:∀x,cm c x=bD n (iX S M x)) (hI:cK n S m z p):c.getD z 0≠0:=by
 intro h0
 have hz:=H7 hS hc hv hI
 have Jc:∀j,j<z+1→c.getD j 0=0:=fun j hj=>by
  by_cases g:j<z
  ·exact hz j g
  ·rw[show j=z from by omega];exact h0
 have ht:=M4 hM (H8 h1) hc hv
 have hzn:z<n:=by
  have:=hI.sum
  refine Nat.lt_of_not_le fun g=>ht (Jc n aa)
 have e1:=Cv hS hM h1 hc hv hI
 have e2:=H9 hS hM h1 hc hv hI
 rw[Cw (z+1) c 0 Jc]at e1
 obtain⟨t,C3⟩:=EC (z+1) c false
 rw[Cw (z+1) (cU false c) 0 (fun j hj=>by rw[pP,Jc j hj];split<;>rfl),C3,abG _ t false]at e2
 have:=Co (c.drop (z+1)) false
 rw[List.length_drop,hc]at this
 have:=hI.sum
 omega
theorem sJ (x d:Rat):∀(l:List Rat) (i:Nat),i<l.length→cm (l.set i (l.getD i 0+d)) x=cm l x+d*x^i
 |[],i,h=>by simp at h
 |a::l,0,_=>by
  rw[List.set_cons_zero,List.getD_cons_zero,cm,cm]
  grind
 |a::l,i+1,h=>by
  have ih:=sJ x d l i (by simpa using h)
  rw[List.set_cons_succ,List.getD_cons_succ,cm,cm,ih]
  grind
theorem sK (x:Rat):∀(l:List Rat) (i:Nat),cm (l.take (i+1)) x=cm (l.take i) x+l.getD i 0*x^i
 |[],i=>by simp[cm];grind
 |a::l,0=>by simp[cm];grind
 |a::l,i+1=>by
  have ih:=sK x l i
  rw[List.take_succ_cons,List.take_succ_cons,List.getD_cons_succ,cm,cm,ih]
  grind
theorem Ib (x:Rat) {l:List Rat} {i:Nat} (h:l.length≤i):cm (l.take i) x=cm l x:=by rw[List.take_of_length_le h]
def lF (p:List Rat) (a b:Rat):Nat→List Rat
 |0=>List.replicate (p.length+1) 0
 |i+1=>((lF p a b i).set i ((lF p a b i).getD i 0+p.getD i 0*a)).set (i+1) (((lF p a b i).set i ((lF p a b i).getD i 0+p.getD i 0*a)).getD (i+1) 0+p.getD i 0*b)
abbrev GI (p:List Rat) (a b:Rat):List Rat:=lF p a b p.length
theorem iY (p:List Rat) (a b:Rat):∀i,(lF p a b i).length=p.length+1
 |0=>by simp[lF]
 |i+1=>by rw[lF,List.length_set,List.length_set,iY p a b i]
theorem Ic (p:List Rat) (a b x:Rat):∀i,i≤p.length→cm (lF p a b i) x=(a+b*x)*cm (p.take i) x
 |0,_=>by rw[lF,mP,List.take_zero,cm];grind
 |i+1,h=>by
  have ih:=Ic p a b x i aa
  have hl:=iY p a b i
  rw[lF,sJ _ _ _ _ (by rw[List.length_set];omega),sJ _ _ _ _ aa,ih,sK]
  grind
theorem Cx (p:List Rat) (a b x:Rat):cm (GI p a b) x=(a+b*x)*cm p x:=by
 rw[Ic p a b x _ (Nat.le_refl _),List.take_length]
theorem eu (l:List Rat) (i j:Nat) (v:Rat):(l.set i v).getD j 0=if i=j∧i<l.length then v else l.getD j 0:=by
 rw[List.getD_eq_getElem?_getD,List.getElem?_set]
 by_cases h:i=j
 ·subst h
  by_cases h2:i<l.length
  ·rw[if_pos rfl,if_pos h2,if_pos ⟨rfl,h2⟩];rfl
  ·rw[if_pos rfl,if_neg h2,if_neg (fun g=>h2 g.2),List.getD_eq_getElem?_getD,List.getElem?_eq_none aa]
 ·rw[if_neg h,if_neg (fun g=>h g.1),List.getD_eq_getElem?_getD]
theorem yD (p:List Rat) (a b:Rat) (k:Nat) (hp:∀j,k≤j→p.getD j 0=0):∀i j,k<j→(lF p a b i).getD j 0=0
 |0,j,_=>iO _ _
 |i+1,j,h=>by
  have ih:=yD p a b k hp i
  have h1:∀j,k<j→((lF p a b i).set i ((lF p a b i).getD i 0+p.getD i 0*a)).getD j 0=0:=fun j hj=>by
   rw[eu]
   split
   ·rename_i g
    obtain⟨e,_⟩:=g
    rw[e,←e,ih i aa,hp i aa];grind
   ·exact ih j hj
  rw[lF,eu]
  split
  ·rename_i g
   rw[show i+1=j from g.1,h1 j h,hp i aa];grind
  ·exact h1 j h
abbrev qI (i:Int):Rat:=(i:Rat)
def uE (k:Nat) (d:Rat):Nat→List Rat
 |0=>[d]
 |j+1=>if j=k then uE k d j else GI (uE k d j) (qI j/qI ((j:Int) - k)) (qI 1/qI ((j:Int) - k))
theorem sM (k:Nat) (d:Rat):∀j,(uE k d j).length=if k<j then j else j+1
 |0=>rfl
 |j+1=>by
  have ih:=sM k d j
  rw[uE]
  split
  ·rename_i h
   subst h
   rw[ih,if_neg (Nat.lt_irrefl _),if_pos (Nat.lt_succ_self _)]
  ·rw[iY,ih]
   by_cases h:k<j
   ·rw[if_pos h,if_pos aa]
   ·rw[if_neg h,if_neg aa]
theorem GJ (j k:Nat):qI ((j:Int) - k)=(j:Rat) - (k:Rat):=by
 show(((j:Int) - (k:Int):Int):Rat)=_
 rw[Rat.intCast_sub];rfl
theorem nat_ne {j k:Nat} (h:j≠k):(j:Rat) - (k:Rat)≠0:=fun g=>h (by
 have:(j:Rat)=(k:Rat):=by grind
 exact_mod_cast this)
theorem Ie (k:Nat) (d:Rat):∀j,cm (uE k d j) (-(k:Rat))=d
 |0=>by simp only[uE,cm];grind
 |j+1=>by
  have ih:=Ie k d j
  rw[uE]
  split
  ·exact ih
  ·rename_i h
   rw[Cx,ih,GJ]
   have hn:=nat_ne h
   show((j:Rat)/((j:Rat) - k)+1/((j:Rat) - k)* -(k:Rat))*d=d
   grind
theorem yE (k i:Nat) (d:Rat) (Kh:i≠k):∀j,i<j→cm (uE k d j) (-(i:Rat))=0
 |0,h=>absurd h (Nat.not_lt_zero _)
 |j+1,h=>by
  rw[uE]
  split
  ·rename_i g
   exact yE k i d Kh j aa
  ·rename_i g
   rw[Cx]
   by_cases e:i=j
   ·subst e
    rw[GJ]
    have hn:=nat_ne g
    show((i:Rat)/((i:Rat) - k)+1/((i:Rat) - k)* -(i:Rat))*_=0
    grind
   ·rw[yE k i d Kh j aa];grind
def AT (o p:List Rat):Nat→List Rat
 |0=>o
 |i+1=>(AT o p i).set i ((AT o p i).getD i 0+p.getD i 0)
theorem sN (o p:List Rat):∀i,(AT o p i).length=o.length
 |0=>rfl
 |i+1=>by rw[AT,List.length_set,sN o p i]
theorem Ig (o p:List Rat) (x:Rat):∀i,i≤o.length→cm (AT o p i) x=cm o x+cm (p.take i) x
 |0,_=>by rw[AT,List.take_zero,cm];grind
 |i+1,h=>by
  rw[AT,sJ _ _ _ _ (by rw[sN];omega),Ig o p x i aa,sK]
  grind
def vN (n:Nat) (D:Nat→Rat):Nat→List Rat
 |0=>List.replicate (n+1) 0
 |k+1=>AT (vN n D k) (uE k (D k) (n+1)) (n+1)
theorem nS (n:Nat) (D:Nat→Rat):∀k,(vN n D k).length=n+1
 |0=>by simp[vN]
 |k+1=>by rw[vN,sN,nS n D k]
theorem M7 (n:Nat) (D:Nat→Rat) {i:Nat} (hi:i<n+1):∀k,k≤n+1→cm (vN n D k) (-(i:Rat))=if i<k then D i else 0
 |0,_=>by rw[vN,mP,if_neg (Nat.not_lt_zero _)]
 |k+1,h=>by
  have hl:(uE k (D k) (n+1)).length≤n+1:=by rw[sM,if_pos aa];exact Nat.le_refl _
  rw[vN,Ig _ _ _ _ (by rw[nS];exact Nat.le_refl _),Ib _ hl,M7 n D hi k aa]
  by_cases e:i=k
  ·subst e
   rw[Ie,if_neg (Nat.lt_irrefl _),if_pos (Nat.lt_succ_self _)];grind
  ·rw[yE k i _ e _ hi]
   by_cases g:i<k
   ·rw[if_pos g,if_pos aa];grind
   ·rw[if_neg g,if_neg aa];grind
theorem ED:∀(l m:List Rat) (b:Bool),cU b l=cU b m→l=m
 |[],[],_,_=>rfl
 |[],c::m,b,h=>by simp[cU]at h
 |a::l,[],b,h=>by simp[cU]at h
 |a::l,c::m,b,h=>by
  rw[cU,cU,List.cons.injEq]at h
  have h2:=ED l m _ h.2
  have h1:a=c:=by
   have:=h.1
   cases b<;>simp at this<;>grind
  rw[h1,h2]
theorem M8 {d:Nat} {l m:List Rat} (hl:l.length=d) (hm:m.length=d) (h:∀k:Nat,k<d→cm l (-(k:Rat))=cm m (-(k:Rat))):l=m:=by
 refine ED l m false (wz (by rw[lf,hl]) (by rw[lf,hm]) fun k hk=> ?_)
 rw[wB,wB,h k hk]
theorem abH {n:Nat} {D:Nat→Rat} {c:List Rat} (hc:c.length=n+1) (h:∀k:Nat,k<n+1→cm c (-(k:Rat))=D k):vN n D (n+1)=c:=
 M8 (nS ..) hc fun k hk=>by rw[M7 n D hk _ (Nat.le_refl _),if_pos hk,h k hk]
def lp (p:List Rat) (c:Rat):Nat→List Rat
 |0=>List.replicate p.length 0
 |k+1=>((GI (lp p c k) c 1).take p.length).set 0 (((GI (lp p c k) c 1).take p.length).getD 0 0+p.getD (p.length - 1 - k) 0)
theorem l8 (p:List Rat) (c:Rat):∀k,(lp p c k).length=p.length
 |0=>by simp[lp]
 |k+1=>by rw[lp,List.length_set,List.length_take,iY,l8 p c k];omega
theorem pQ (l:List Rat) (m j:Nat):(l.take m).getD j 0=if j<m then l.getD j 0 else 0:=by
 rw[List.getD_eq_getElem?_getD,List.getElem?_take]
 split
 ·rw[List.getD_eq_getElem?_getD]
 ·rfl
theorem EE (p:List Rat) (c:Rat):∀k j,k≤j→(lp p c k).getD j 0=0
 |0,j,_=>iO _ _
 |k+1,j,h=>by
  rw[lp,eu,if_neg aa,pQ]
  split
  ·exact yD _ _ _ k (EE p c k) _ _ aa
  ·rfl
theorem Ih {l:List Rat} {m:Nat} (h:∀j,m≤j→l.getD j 0=0) (x:Rat):∀d,cm (l.take (m+d)) x=cm (l.take m) x
 |0=>rfl
 |d+1=>by rw[show m+(d+1)=m+d+1 from rfl,sK,Ih h x d,h _ aa];grind
theorem Ii (p:List Rat) (c x:Rat):∀k,k≤p.length→cm (lp p c k) x=cm (p.drop (p.length - k)) (x+c)
 |0,_=>by rw[lp,mP,Nat.sub_zero,List.drop_length,cm]
 |k+1,h=>by
  have ih:=Ii p c x k aa
  have hl:(GI (lp p c k) c 1).length=p.length+1:=by rw[iY,l8]
  have hz:∀j,p.length≤j→(GI (lp p c k) c 1).getD j 0=0:=fun j hj=>yD _ _ _ k (EE p c k) _ _ aa
  rw[lp,sJ _ _ _ _ (by rw[List.length_take,hl];omega),←Ih hz x 1,Ib _ aa,Cx,ih]
  have e:p.drop (p.length - (k+1))=p.getD (p.length - 1 - k) 0::p.drop (p.length - k):=by
   rw[List.drop_eq_getElem_cons aa,show p.length - (k+1)+1=p.length - k by omega]
   congr 1
   rw[List.getD_eq_getElem?_getD,List.getElem?_eq_getElem aa]
   show _=p[p.length - 1 - k]
   congr 1
   omega
  rw[e,cm]
  grind
theorem JE (p:List Rat) (c x:Rat):cm (lp p c p.length) x=cm p (x+c):=by
 rw[Ii _ _ _ _ (Nat.le_refl _),Nat.sub_self,List.drop_zero]
def qi (p:List Rat) (odd:Bool):Nat→Nat×Int
 |0=>(0,0)
 |i+1=>
  let s:=if odd=true∧i % 2=1 then -(p.getD i 0).num.sign else(p.getD i 0).num.sign
  ((if s≠0∧(qi p odd i).2≠0∧s≠(qi p odd i).2 then(qi p odd i).1+1 else(qi p odd i).1),if s≠0 then s else(qi p odd i).2)
theorem yF {a:Rat}:a.num.sign=0↔a=0:=by rw[Int.sign_eq_zero_iff_zero,Rat.num_eq_zero]
theorem M9 (a:Rat):(-a).num.sign= -a.num.sign:=by rw[Rat.neg_num,Int.sign_neg]
theorem Cy (s:Int) (a:Rat) (r:List Rat):vr s (a::r)=(if a.num.sign≠0∧s≠0∧a.num.sign≠s then 1 else 0)+vr (if a.num.sign≠0 then a.num.sign else s) r:=by
 rw[vr]
 by_cases h:a=0
 ·have h1:=yF.2 h
  rw[if_pos h,if_neg (fun g=>g.1 h1),if_neg (fun g=>g h1),Nat.zero_add]
 ·have h1:a.num.sign≠0:=fun g=>h (yF.1 g)
  rw[if_neg h,if_pos h1]
  by_cases h2:s≠0∧a.num.sign≠s
  ·rw[if_pos h2,if_pos ⟨h1,h2⟩]
  ·rw[if_neg h2,if_neg (fun g=>h2 g.2)]
theorem drop_cons {l:List Rat} {i:Nat} (h:i<l.length):l.drop i=l.getD i 0::l.drop (i+1):=by
 rw[List.drop_eq_getElem_cons h]
 congr 1
 rw[List.getD_eq_getElem?_getD,List.getElem?_eq_getElem h];rfl
theorem Na (p:List Rat) (odd:Bool):∀i,i≤p.length→(qi p odd i).1+vr (qi p odd i).2 (if odd then cU (decide (i % 2=1)) (p.drop i)else p.drop i)=vr 0 (if odd then cU false p else p)
 |0,_=>by rw[qi,Nat.zero_add,List.drop_zero];cases odd<;>rfl
 |i+1,h=>by
  rw[←Na p odd i aa]
  rw[drop_cons (show i<p.length by omega)]
  generalize p.drop (i+1)=R
  rw[qi]
  generalize qi p odd i=st
  obtain⟨n,s⟩:=st
  have hz:∀v:Int,(if v≠0∧s≠0∧v≠s then n+1 else n)=n+(if v≠0∧s≠0∧v≠s then 1 else 0):=fun v=>by split<;>rfl
  cases odd with
  |false=>
   simp only[Bool.false_eq_true,false_and,if_false]
   rw[Cy,hz,Nat.add_assoc]
  |true=>
   simp only[if_true,true_and]
   rw[cU]
   by_cases h2:i % 2=1
   ·have e:decide ((i+1) % 2=1)= !decide (i % 2=1):=by rw[decide_eq_true h2,decide_eq_false aa];rfl
    rw[Cy,e,decide_eq_true h2,if_pos h2,if_pos rfl,M9,hz,Nat.add_assoc]
   ·have e:decide ((i+1) % 2=1)= !decide (i % 2=1):=by rw[decide_eq_false h2,decide_eq_true aa];rfl
    rw[Cy,e,decide_eq_false h2,if_neg h2,show(if false=true then -p.getD i 0 else p.getD i 0)=p.getD i 0 from rfl,hz,Nat.add_assoc]
theorem Ij (p:List Rat) (odd:Bool):(qi p odd p.length).1=vr 0 (if odd then cU false p else p):=by
 have h:=Na p odd p.length (Nat.le_refl _)
 rw[List.drop_length]at h
 cases odd<;>simpa [cU,vr]using h
def Po:Nat→Nat→List Nat
 |0,_=>[]
 |f+1,n=>if n=0 then[]else n % 10000::Po f (n/10000)
def tdW (n:Nat):List Nat:=Po n n
theorem Nb:∀(f n w:Nat),w∈Po f n→w<10000
 |0,_,w,h=>by cases h
 |f+1,n,w,h=>by
  rw[Po]at h
  split at h
  ·cases h
  ·rcases List.mem_cons.1 h with rfl|h
   ·omega
   ·exact Nb f _ w h
theorem abI {n w:Nat} (h:w∈tdW n):w<10000:=Nb n n w h
def a6 (xs:List Int):Nat→Int
 |0=>0
 |k+1=>a6 xs k+xs.getD k 0*10000^k
def W4 (xs:List Int):Prop:=∀i,0≤xs.getD i 0∧xs.getD i 0<10000
theorem W4.set {xs:List Int} (h:W4 xs) {i:Nat} {v:Int} (h0:0≤v) (h1:v<10000):W4 (xs.set i v):=by
 intro j
 rw[aQ]
 split
 ·exact⟨h0,h1⟩
 ·exact h j
theorem Ik {xs:List Int} (h:∀x∈xs,0≤x∧x<10000):W4 xs:=by
 intro i
 rw[List.getD_eq_getElem?_getD]
 cases hx:xs[i]? with
 |none=>simp
 |some v=>simpa using h v (List.mem_of_getElem? hx)
theorem W4.mem {xs:List Int} (h:W4 xs):∀x∈xs,0≤x∧x<10000:=by
 intro x hx
 obtain⟨i,hi⟩:=List.getElem?_of_mem hx
 have:=h i
 rw[List.getD_eq_getElem?_getD,hi]at this
 exact this
theorem lg {xs ys:List Int}:∀{k:Nat},(∀i,i<k→xs.getD i 0=ys.getD i 0)→a6 xs k=a6 ys k
 |0,_=>rfl
 |k+1,h=>by rw[a6,a6,lg (fun i hi=>h i aa),h k aa]
theorem EF {xs:List Int} {i k:Nat} {v:Int} (h:k≤i):a6 (xs.set i v) k=a6 xs k:=
 lg fun j hj=>by rw[aQ,if_neg aa]
theorem ec {xs:List Int} (h:W4 xs):∀k,0≤a6 xs k
 |0=>Int.le_refl _
 |k+1=>by
  have:=ec h k
  have h1:0≤xs.getD k 0*10000^k:=Int.mul_nonneg (h k).1 (Int.pow_nonneg aH)
  rw[a6];omega
theorem lh (k:Nat):(0:Int)<10000^k:=Int.pow_pos aH
theorem nT {xs:List Int} (h:W4 xs):∀k,a6 xs k<10000^k
 |0=>by simp[a6]
 |k+1=>by
  have h1:=nT h k
  have h2:xs.getD k 0*10000^k≤9999*10000^k:=Int.mul_le_mul_of_nonneg_right (by have:=(h k).2;omega) (Int.le_of_lt (lh k))
  rw[a6,Int.pow_succ];omega
theorem lj {xs:List Int} {k:Nat}:∀{n:Nat},(∀i,k≤i→i<n→xs.getD i 0=0)→k≤n→a6 xs n=a6 xs k
 |0,_,hk=>by obtain rfl:k=0:=aa
             rfl
 |n+1,h,hk=>by
  by_cases he:k=n+1
  ·subst he;rfl
  ·rw[a6,h n aa aa,lj (n:=n) (fun i h1 h2=>h i h1 aa) aa,Int.zero_mul,Int.add_zero]
theorem Cz {xs:List Int} (h:W4 xs) {k:Nat} (ht:xs.getD k 0≠0):10000^k≤a6 xs (k+1):=by
 have h1:=ec h k
 have h2:1*10000^k≤xs.getD k 0*10000^k:=Int.mul_le_mul_of_nonneg_right (by have:=(h k).1;omega) (Int.le_of_lt (lh k))
 rw[a6];omega
theorem Nc:∀(f g n:Nat),n≤f→n≤g→Po f n=Po g n
 |0,0,_,_,_=>rfl
 |0,g+1,n,h,_=>by obtain rfl:n=0:=aa
                  simp[Po]
 |f+1,0,n,_,h=>by obtain rfl:n=0:=aa
                  simp[Po]
 |f+1,g+1,n,h,h'=>by
  unfold Po
  split
  ·rfl
  ·rw[Nc f g (n/10000) aa aa]
theorem Nd {n:Nat} (h:n≠0):tdW n=n % 10000::tdW (n/10000):=by
 unfold tdW
 obtain⟨m,rfl⟩:∃m,n=m+1:=⟨n - 1,aa⟩
 rw[Po,if_neg h,Nc m ((m+1)/10000) _ aa (Nat.le_refl _)]
def td (n:Nat):List Int:=(tdW n).map Int.ofNat
theorem sO:td 0=[]:=rfl
theorem pR {n:Nat} (h:n≠0):td n=((n % 10000:Nat):Int)::td (n/10000):=by
 rw[td,Nd h];rfl
theorem uF (x:Int) (xs:List Int):∀k,a6 (x::xs) (k+1)=x+10000*a6 xs k
 |0=>by simp[a6]
 |k+1=>by
  rw[a6,uF x xs k,a6,List.getD_cons_succ,Int.pow_succ]
  grind
theorem yG (n:Nat):a6 (td n) (td n).length=n:=by
 induction n using Nat.strongRecOn with
 |_ n ih=>
  by_cases h:n=0
  ·subst h;rfl
  ·rw[pR h,List.length_cons,uF,ih _ aa];omega
theorem iP (n:Nat):W4 (td n):=by
 refine Ik fun x hx=> ?_
 obtain⟨w,hw,rfl⟩:=List.mem_map.1 hx
 have:=abI hw
 exact⟨Int.natCast_nonneg _,by show(w:Int)<_;omega⟩
theorem CA {n:Nat} (h:n≠0):(td n).length≠0∧(td n).getD ((td n).length - 1) 0≠0:=by
 induction n using Nat.strongRecOn with
 |_ n ih=>
  rw[pR h]
  refine⟨by simp, ?_⟩
  by_cases h1:n/10000=0
  ·rw[h1,sO]
   simp only[List.length_singleton,Nat.sub_self,List.getD_cons_zero]
   omega
  ·obtain⟨h2,h3⟩:=ih _ aa h1
   obtain⟨l,hl⟩:∃l,(td (n/10000)).length=l+1:=⟨(td (n/10000)).length - 1,aa⟩
   simp only[List.length_cons,hl,Nat.add_sub_cancel,List.getD_cons_succ]
   rw[hl]at h3
   simpa using h3
theorem UU:∀(k:Nat) (xs:List Int),W4 xs→k≤xs.length→(k=0∨xs.getD (k - 1) 0≠0)→td (a6 xs k).toNat=xs.take k
 |0,xs,_,_,_=>by simp[a6,sO]
 |k+1,[],_,h,_=>by simp at h
 |k+1,x::xs,hw,h,ht=>by
  have hx:=hw 0
  simp only[List.getD_cons_zero]at hx
  have SH:W4 xs:=fun i=>by have:=hw (i+1);simpa using this
  have hv:=ec SH k
  have V5:=UU k xs SH (by simpa using h) (by
   cases k with
   |zero=>exact .inl rfl
   |succ k=>right;have:=ht.resolve_left aa;simpa using this)
  have hn:(a6 (x::xs) (k+1)).toNat≠0:=by
   have PN:=ht.resolve_left aa
   have:=Cz hw (k:=k) (by simpa using PN)
   have:=lh k
   omega
  rw[pR hn,uF,List.take_succ_cons]
  have e1:(x+10000*a6 xs k).toNat % 10000=x.toNat:=aa
  have e2:(x+10000*a6 xs k).toNat/10000=(a6 xs k).toNat:=aa
  rw[e1,e2,V5]
  congr 1
  omega
theorem jR (k:Nat):(((10000^k:Nat)):Int)=(10000:Int)^k:=by rw[Int.natCast_pow];rfl
theorem eM {n k:Nat} (h:n<10000^k):(td n).length≤k:=by
 by_cases hn:n=0
 ·subst hn;simp[sO]
 ·obtain⟨h1,h2⟩:=CA hn
  obtain⟨l,hl⟩:∃l,(td n).length=l+1:=⟨(td n).length - 1,aa⟩
  rw[hl]at h2
  have h3:=Cz (iP n) (k:=l) (by simpa using h2)
  rw[←hl,yG]at h3
  refine Nat.le_of_not_lt fun aI=> ?_
  have h4:(10000:Int)^k≤10000^l:=by
   have:(10000:Nat)^k≤10000^l:=Nat.pow_le_pow_right aH aa
   rw[←jR,←jR];exact Int.ofNat_le.2 this
  have h5:(n:Int)<10000^k:=by rw[←jR];exact Int.ofNat_lt.2 h
  omega
theorem eN (n:Nat):n<10000^(td n).length:=by
 have:=nT (iP n) (td n).length
 rw[yG,←jR]at this
 exact Int.ofNat_lt.1 this
theorem Nf {xs:List Int} (hx:W4 xs) {n:Nat}:∀{k:Nat},k≤n→a6 xs n % 10000^k=a6 xs k:=by
 intro k hk
 induction n with
 |zero=>
  obtain rfl:k=0:=aa
  simp[a6]
 |succ n ih=>
  by_cases he:k=n+1
  ·subst he
   exact Int.emod_eq_of_lt (ec hx _) (nT hx _)
  ·rw[a6,show n=k+(n - k)from aa,Int.pow_add,←show n=k+(n - k)from aa,Int.mul_left_comm,Int.add_mul_emod_self_left]
   exact ih aa
theorem Ng {xs:List Int} (hx:W4 xs) {i n:Nat} (h:i<n):a6 xs n/10000^i % 10000=xs.getD i 0:=by
 have h1:=Nf hx (n:=n) (k:=i+1) aa
 have hp:=lh i
 have e:a6 xs n=a6 xs (i+1)+10000^(i+1)*(a6 xs n/10000^(i+1)):=by
  rw[←h1];exact(Int.emod_add_mul_ediv _ _).symm
 have h0:=ec hx i
 have hl:=nT hx i
 have e2:a6 xs n=a6 xs i+10000^i*(xs.getD i 0+10000*(a6 xs n/10000^(i+1))):=by
  conv=>lhs;rw[e]
  rw[a6,Int.pow_succ]
  grind
 rw[e2,Int.add_mul_ediv_left _ _ aa,Int.ediv_eq_zero_of_lt h0 hl,Int.zero_add,Int.add_mul_emod_self_left]
 exact Int.emod_eq_of_lt (hx i).1 (hx i).2
theorem yH {xs:List Int} {i:Nat} {v:Int}:∀{n:Nat},i<n→i<xs.length→a6 (xs.set i v) n=a6 xs n+(v - xs.getD i 0)*10000^i
 |0,h,_=>aa
 |n+1,h,hl=>by
  by_cases he:i=n
  ·subst he
   rw[a6,a6,EF (Nat.le_refl _),aQ,if_pos ⟨rfl,hl⟩];grind
  ·rw[a6,a6,yH (n:=n) aa hl,aQ,if_neg aa];grind
abbrev nN (n:Nat):SV:=mc .i64 (td n)
theorem UW {x:List Int} (hw:W4 x) (h:x.length=0∨x.getD (x.length - 1) 0≠0):td (a6 x x.length).toNat=x:=by
 rw[UU x.length x hw (Nat.le_refl _) h,List.take_length]
theorem jS (n k:Nat) (h:(td n).length≤k):a6 (td n) k=n:=by
 rw[lj (k:=(td n).length) (fun i h1 _=>dy h1) h,yG]
theorem JF {x:List Int} {k j:Nat} (h:j≤k):a6 (x.take k) j=a6 x j:=lg fun i hi=>by rw[getD_take,if_pos aa]
theorem QU {x:List Int} (h:W4 x) (k:Nat):W4 (x.take k):=by
 intro i;rw[getD_take];split
 ·exact h i
 ·omega
theorem JG {x:List Int} (h0:0<x.length) (hz:x.getD (x.length - 1) 0=0):a6 (x.take (x.length - 1)) (x.take (x.length - 1)).length=a6 x x.length:=by
 have hl:(x.take (x.length - 1)).length=x.length - 1:=by simp
 rw[hl,JF (Nat.le_refl _)]
 exact(lj (k:=x.length - 1) (n:=x.length) (fun i h1 h2=>by
  have:i=x.length - 1:=aa
  rw[this];exact hz) aa).symm
theorem CB {x:List Int} (h:W4 x) {d:Int} (h0:0≤d) (h1:d<10000):W4 (x++[d]):=Ik fun y hy=>by
 rcases List.mem_append.1 hy with hy|hy
 ·exact h.mem y hy
 ·rw[List.mem_singleton.1 hy];exact⟨h0,h1⟩
theorem AU (x:List Int) (d:Int):a6 (x++[d]) (x.length+1)=a6 x x.length+d*10000^x.length:=by
 rw[a6,jm,if_neg aa,Nat.sub_self,lg (ys:=x) (k:=x.length) (fun i hi=>by rw[jm,if_pos hi])]
 rfl
theorem gF {n k:Nat} (h:(td n).length≤k):n<10000^k:=Nat.lt_of_lt_of_le (eN n) (Nat.pow_le_pow_right aH h)
theorem uG {n:Nat} (h:n≠0):10000^((td n).length - 1)≤n:=by
 obtain⟨h1,h2⟩:=CA h
 have h3:=Cz (iP n) h2
 rw[show(td n).length - 1+1=(td n).length by omega,yG,←jR]at h3
 omega
theorem fb {a b:Nat} (h:a≤b):(td a).length≤(td b).length:=eM (Nat.lt_of_le_of_lt h (eN b))
theorem AV {a b:Nat} (h:(td a).length<(td b).length):a<b:=by
 rcases Nat.lt_or_ge a b with g|g
 ·exact g
 ·have:=fb g;omega
theorem fc {n:Nat}:(td n).length=0↔n=0:=by
 constructor
 ·intro h
  rcases Nat.eq_zero_or_pos n with g|g
  ·exact g
  ·exact absurd h (CA aa).1
 ·rintro rfl;rfl
theorem yI (n i:Nat):(td n).getD i 0=((n/10000^i % 10000:Nat):Int):=by
 have h:=iP n
 rcases Nat.lt_or_ge i (td n).length with hi|hi
 ·rw[←Ng h hi,yG,Int.natCast_emod,Int.natCast_ediv,jR];rfl
 ·rw[dy hi,Nat.div_eq_of_lt (gF hi)];rfl
theorem mR {E:Env} (t k:Nat) {c:Code} {K:bK} {fr:List (Nat×SV)} {hp:List (Nat×aA)} {ty:TypeId} {n:Nat} {kd:IntKind} {xs:List Int} (hW:∀b,¬E.W0 b) (ht:lk fr t=some (.aK k 1 0 n)) (hk:find hp k=some ⟨ty,true,.ints kd xs⟩)
  (hn:n=xs.length) (hs:dG E c K ((t,mc kd xs)::fr) (eD hp k ⟨ty,true,.dead⟩)):dG E c K fr hp:=by
 refine kN t k (xs:=xs.map (iF kd)) hW ht hk rfl rfl (bT (fun _=>rfl) xs) (by simp;omega) ?_
 rw[gU (by simp;omega)]
 exact hs
theorem sQ {L:List Int} {i:Nat} {d:Int} (h:L.length=i):List.take i L++List.take 1 (List.drop 0 [d])=L++[d]:=by
 rw[List.take_of_length_le aa];rfl
abbrev uH (l:List Int):aA:=⟨3,true,.ints .i64 l⟩
theorem yJ (l:List Int) (hl:l.length<1099511627776) (h:W4 l):af Tryz.prog 326 [mc .i64 l] [] (nN (a6 l l.length).toNat) [] []:=by
 refine cj [] Tryz.func326 ?_
 intro W0 w0 ρ0 hE
 conv=>whnf
 skip
 refine az hE (fun k=>k) [0] [] (fun m fr hp=>∃x:List Int,m=x.length∧x.length≤l.length∧W4 x∧a6 x x.length=a6 l l.length∧fr=[(0,mc .i64 x)]∧hp=[]) l.length ?_ ?_ ?_
 ·kernel_rfl
 ·exact⟨l,rfl,Nat.le_refl _,h,rfl,rfl,rfl⟩
 rintro m _ _ ⟨x,rfl,hx,hw,hv,rfl,rfl⟩
 conv=>whnf
 by_cases h0:0<x.length
 ·have t1:decide ((x.length:Int)>0)=true:=decide_eq_true aa
  have e1:IntKind.i64.wrap ((x.length:Int) - 1)=((x.length - 1:Nat):Int):=by rw[wrap_i64 aa aa];omega
  by_cases hz:x.getD (x.length - 1) 0=0
  ·have t2:(x.getD (x.length - 1) 0==0)=true:=beq_iff_eq.2 hz
   (repeat((first|refine ah rfl rfl ?_|refine aC iT ?_|refine aC Q7 ?_|refine aC Q6 ?_|refine aC (pB (α:=Int) (d:=0) rfl (ak rfl) (ak rfl) (dJ rfl) rfl (dJ rfl) rfl aa) ?_|refine aC Q21 ?_|rw[t1]|rw[e1]|rw[t2]|rw[Int.toNat_natCast]);conv=>whnf))
   have ql:(x.take (x.length - 1)).length=x.length - 1:=by simp
   exact⟨x.length - 1,fun k=>k,[0],[],aa,aF,x.take (x.length - 1),ql.symm,aa,QU hw _,(JG h0 hz).trans hv,rfl,rfl⟩
  ·have t2:(x.getD (x.length - 1) 0==0)=false:=beq_false_of_ne hz
   have e:nN (a6 l l.length).toNat=mc .i64 x:=by rw[nN,←hv,UW hw (.inr hz)]
   rw[e]
   (repeat((first|refine ah rfl rfl ?_|refine ag rfl rfl ?_|refine aC iT ?_|refine aC Q7 ?_|refine aC Q6 ?_|refine aC (pB (α:=Int) (d:=0) rfl (ak rfl) (ak rfl) (dJ rfl) rfl (dJ rfl) rfl aa) ?_|rw[t1]|rw[e1]|rw[t2]|rw[Int.toNat_natCast]);conv=>whnf));exact Q4
 ·have t1:decide ((x.length:Int)>0)=false:=decide_eq_false aa
  have e:nN (a6 l l.length).toNat=mc .i64 x:=by rw[nN,←hv,UW hw (.inl aa)]
  rw[e]
  (repeat((first|refine ag rfl rfl ?_|refine aC ik ?_|refine aC Q7 ?_|rw[t1]);conv=>whnf));exact Q4
theorem QV (n:Nat) (hn:n<18446744073709551616):af Tryz.prog 327 [.val (.int .u64 (n:Nat))] [] (nN n) [] []:=by
 refine qU [] Tryz.func327 ?_
 intro w0 ρ0 hE
 conv=>whnf
 skip
 refine dU (t:=3) (k:=2001) (s:=1) (blk:=uH []) rfl rfl rfl ?_
 refine cn hE (fun k=>k) [0,3] [2001] (fun m fr hp=>∃(v:Nat) (L:List Int),m=v∧v≤n∧td n=L++td v∧L.length≤n∧L.length+v≤n∧fr=[(0,.val (.int .u64 (v:Nat))),(3,.aK 2001 1 0 L.length)]∧hp=[(2001,uH L)]) n ?_ ?_ ?_
 ·kernel_rfl
 ·exact⟨n,[],rfl,Nat.le_refl _,rfl,Nat.zero_le _,by simp,rfl,rfl⟩
 rintro m _ _ ⟨v,L,rfl,hv,hL,hl,gI,rfl,rfl⟩
 by_cases h0:0<m
 ·have hlen:L.length<1099511627776:=by
   have:=congrArg List.length hL
   rw[List.length_append]at this
   have h5:(td n).length≤5:=eM aa
   omega
  have t1:decide ((m:Int)>0)=true:=decide_eq_true aa
  have e0:(m:Int).tmod 10000=((m % 10000:Nat):Int):=by rw[Int.tmod_eq_emod_of_nonneg aa];omega
  have e1:IntKind.i64.wrap ((m:Int).tmod 10000)=((m % 10000:Nat):Int):=by rw[e0,wrap_i64 aa aa]
  have e2:(m:Int).tdiv 10000=((m/10000:Nat):Int):=by rw[Int.tdiv_eq_ediv_of_nonneg aa];omega
  have e3:IntKind.u64.wrap ((m:Int).tdiv 10000)=((m/10000:Nat):Int):=by rw[e2,wrap_u64 aa aa]
  refine dG.of hE ?_
  conv=>whnf
  (repeat((first|refine ah rfl rfl ?_|refine And.intro Q5 ?_|rw[t1]|rw[e1]|rw[e3]);conv=>whnf))
  refine⟨m/10000,dc [(11,2001)],[0,3],[11],Nat.div_lt_self h0 aH,aF,m/10000,L++[((m % 10000:Nat):Int)],rfl,aa, ?_, ?_, ?_, ?_, ?_⟩
  ·rw[hL,pR aa,List.append_assoc];rfl
  ·rw[List.length_append];simp;omega
  ·rw[List.length_append];simp;omega
  ·rw[List.length_append];rfl
  ·rw[←sQ rfl];rfl
 ·have t1:decide ((m:Int)>0)=false:=decide_eq_false aa
  have hm:m=0:=aa
  subst hm
  rw[sO,List.append_nil]at hL
  refine mR 3 2001 (fun _ h=>h) rfl rfl rfl ?_
  refine dG.of hE ?_
  conv=>whnf
  have e:nN n=mc .i64 L:=by rw[nN,hL]
  rw[e]
  (repeat(first|(refine ag rfl rfl ?_;conv=>whnf)));exact Q4
theorem QW (n i:Nat) (hn:(td n).length<1099511627776):af Tryz.prog 325 [nN n,.val (.int .i64 (i:Nat))] [] (.val (.int .i64 ((td n).getD i 0))) [] []:=by
 refine cj [] Tryz.func325 ?_
 intro W0 w0 ρ0 hE
 conv=>whnf
 by_cases h:i<(td n).length
 ·have t1:decide ((i:Int)<((td n).length:Int))=true:=decide_eq_true aa
  (repeat((first|refine ah rfl rfl ?_|refine aC Q7 ?_|refine aC Q6 ?_|refine aC FA ?_|rw[t1]);conv=>whnf));exact Q4
 ·have t1:decide ((i:Int)<((td n).length:Int))=false:=decide_eq_false aa
  rw[dy aa]
  (repeat(first|(refine ag rfl rfl ?_;conv=>whnf)|(refine aC Q7 ?_;conv=>whnf)|(rw[t1];conv=>whnf)));exact Q4
theorem AW {xs ys:List Int} {j:Nat}:∀{n:Nat},j≤n→(∀i,j≤i→i<n→xs.getD i 0=ys.getD i 0)→a6 xs n - a6 ys n=a6 xs j - a6 ys j
 |0,h,_=>by obtain rfl:j=0:=aa
            rfl
 |n+1,h,he=>by
  by_cases hj:j=n+1
  ·rw[hj]
  ·have:=AW (n:=n) aa (fun i h1 h2=>he i h1 aa)
   rw[a6,a6,he n aa aa];omega
theorem yK {xs ys:List Int} (hx:W4 xs) (hy:W4 ys) {j:Nat} (h:xs.getD j 0<ys.getD j 0):a6 xs (j+1)<a6 ys (j+1):=by
 have h1:=nT hx j
 have h2:=ec hy j
 have h3:(xs.getD j 0+1)*10000^j≤ys.getD j 0*10000^j:=Int.mul_le_mul_of_nonneg_right aa (Int.le_of_lt (lh j))
 rw[Int.add_mul,Int.one_mul]at h3
 rw[a6,a6];omega
theorem Nh (a b:Nat) (ha:(td a).length<1099511627776) (hb:(td b).length<1099511627776):af Tryz.prog 324 [nN a,nN b] [] (.val (.int .i64 ((a:Int) - b).sign)) [] []:=by
 refine cj [] Tryz.func324 ?_
 intro W0 w0 ρ0 hE
 conv=>whnf
 by_cases h1:(td a).length<(td b).length
 ·have t1:decide (((td a).length:Int)<((td b).length:Int))=true:=decide_eq_true aa
  have:=AV h1
  rw[Int.sign_eq_neg_one_of_neg (show(a:Int) - b<0 by omega)]
  (repeat(first|(refine ah rfl rfl ?_;conv=>whnf)|(refine aC Q7 ?_;conv=>whnf)|(rw[t1];conv=>whnf)));exact Q4
 have t1:decide (((td a).length:Int)<((td b).length:Int))=false:=decide_eq_false aa
 by_cases h2:(td b).length<(td a).length
 ·have t2:decide (((td a).length:Int)>((td b).length:Int))=true:=decide_eq_true aa
  have:=AV h2
  rw[Int.sign_eq_one_of_pos (show 0<(a:Int) - b by omega)]
  (repeat((first|refine ah rfl rfl ?_|refine ag rfl rfl ?_|refine aC Q7 ?_|rw[t1]|rw[t2]);conv=>whnf));exact Q4
 have t2:decide (((td a).length:Int)>((td b).length:Int))=false:=decide_eq_false aa
 have e0:IntKind.i64.wrap (((td a).length:Int) - 1)=((td a).length:Int) - 1:=wrap_i64 aa aa
 have va:=jS a (td a).length (Nat.le_refl _)
 have vb:=jS b (td a).length aa
 have wa:=iP a
 have wb:=iP b
 (repeat((first|refine ag rfl rfl ?_|refine aC Q7 ?_|rw[t1]|rw[t2]|rw[e0]);conv=>whnf))
 refine az hE (fun k=>k) [0,1,5] [] (fun m fr hp=>m≤(td a).length∧(∀i,m≤i→i<(td a).length→(td a).getD i 0=(td b).getD i 0)∧fr=[(0,nN a),(1,nN b),(5,.val (.int .i64 ((m:Int) - 1)))]∧hp=[]) (td a).length ?_ ?_ ?_
 ·kernel_rfl
 ·exact⟨Nat.le_refl _,(fun i h1 h2=>aa),rfl,rfl⟩
 rintro j _ _ ⟨hj,heq,rfl,rfl⟩
 have hd:=AW hj heq
 rw[va,vb]at hd
 conv=>whnf
 by_cases h0:j=0
 ·subst h0
  have t3:decide (((0:Nat):Int) - 1≥0)=false:=rfl
  have e:((a:Int) - b).sign=0:=by rw[hd];rfl
  rw[e]
  (repeat(first|(refine ag rfl rfl ?_;conv=>whnf)));exact Q4
 ·obtain⟨i,rfl⟩:∃i,j=i+1:=⟨j - 1,aa⟩
  have ei:(((i+1:Nat):Int) - 1)=(i:Int):=aa
  rw[ei]
  have Sy:i<(td b).length:=aa
  have t3:decide ((i:Int)≥0)=true:=decide_eq_true aa
  have e2:IntKind.i64.wrap ((i:Int) - 1)=(i:Int) - 1:=wrap_i64 aa aa
  by_cases aI:(td a).getD i 0<(td b).getD i 0
  ·have t4:decide ((td a).getD i 0<(td b).getD i 0)=true:=decide_eq_true aI
   have:=yK wa wb aI
   rw[Int.sign_eq_neg_one_of_neg (show(a:Int) - b<0 by omega)]
   (repeat((first|refine ah rfl rfl ?_|refine aB aF ?_|refine aC Q6 ?_|refine aC FA ?_|rw[t3]|rw[t4]);conv=>whnf));exact Q4
  ·have t4:decide ((td a).getD i 0<(td b).getD i 0)=false:=decide_eq_false aI
   by_cases Sw:(td b).getD i 0<(td a).getD i 0
   ·have t5:decide ((td a).getD i 0>(td b).getD i 0)=true:=decide_eq_true Sw
    have:=yK wb wa Sw
    rw[Int.sign_eq_one_of_pos (show 0<(a:Int) - b by omega)]
    (repeat((first|refine ah rfl rfl ?_|refine ag rfl rfl ?_|refine aB aF ?_|refine aC Q6 ?_|refine aC FA ?_|rw[t3]|rw[t4]|rw[t5]);conv=>whnf));exact Q4
   ·have t5:decide ((td a).getD i 0>(td b).getD i 0)=false:=decide_eq_false Sw
    (repeat((first|refine ah rfl rfl ?_|refine ag rfl rfl ?_|refine aB aF ?_|refine aC Q6 ?_|refine aC FA ?_|rw[t3]|rw[t4]|rw[t5]|rw[e2]);conv=>whnf))
    exact⟨i,fun k=>k,[0,1,5],[],aa,aF,aa,(fun q h1 h2=>by
     by_cases hq:q=i
     ·rw[hq];omega
     ·exact heq q aa h2),rfl,rfl⟩
theorem JH {P vL va vb c x y D C:Int} (h:vL+c*P=va+vb) (hD:x+y+c=D+10000*C):vL+D*P+C*(P*10000)=va+x*P+(vb+y*P):=by
 have h2:(x+y+c)*P=(D+10000*C)*P:=by rw[hD]
 grind
theorem UX (a b:Nat) (ha:(td a).length<1073741824) (hb:(td b).length<1073741824):af Tryz.prog 323 [nN a,nN b] [] (nN (a+b)) [] []:=by
 have wa:=iP a
 have wb:=iP b
 refine qU [] Tryz.func323 ?_
 intro w0 ρ0 hE
 conv=>whnf
 skip
 generalize hM:max (td a).length (td b).length=M
 refine dU (t:=5) (k:=2001) (s:=1) (blk:=uH []) rfl rfl rfl ?_
 refine cn hE (fun k=>k) [0,1,5,6,7] [2001] (fun m fr hp=>∃(i:Nat) (L:List Int) (c:Int),m=M+2 - i∧i≤M+1∧L.length=i∧W4 L∧0≤c∧c≤1∧(M<i→c=0)∧a6 L i+c*10000^i=a6 (td a) i+a6 (td b) i∧
  fr=[(0,nN a),(1,nN b),(5,.aK 2001 1 0 i),(6,.val (.int .i64 c)),(7,.val (.int .i64 (i:Nat)))]∧hp=[(2001,uH L)]) (M+2) ?_ ?_ ?_
 ·kernel_rfl
 ·exact⟨0,[],0,rfl,aa,rfl,(fun i=>by simp),aa,aa,(fun _=>rfl),rfl,rfl,rfl⟩
 rintro m _ _ ⟨i,L,c,rfl,hi,hl,hw,hc0,VE,hcM,hv,rfl,rfl⟩
 by_cases hgo:i<(td a).length∨i<(td b).length∨0<c
 ·have hiM:i≤M:=by
   rcases hgo with h|h|h
   ·omega
   ·omega
   ·rcases Nat.lt_or_ge M i with g|g
    ·have:=hcM g;omega
    ·exact g
  have k1:=QW a i aa
  have k2:=QW b i aa
  have hx:=wa i
  have hy:=wb i
  have hxz:(td a).length≤i→(td a).getD i 0=0:=fun h=>dy h
  have hyz:(td b).length≤i→(td b).getD i 0=0:=fun h=>dy h
  generalize hxe:(td a).getD i 0=x at*
  generalize hye:(td b).getD i 0=y at*
  have e1:IntKind.i64.wrap (x+y)=x+y:=wrap_i64 aa aa
  have e2:IntKind.i64.wrap (x+y+c)=x+y+c:=wrap_i64 aa aa
  have e3:(x+y+c).tmod 10000=(x+y+c) % 10000:=Int.tmod_eq_emod_of_nonneg aa
  have e4:IntKind.i64.wrap ((x+y+c).tdiv 10000)=(x+y+c)/10000:=by rw[Int.tdiv_eq_ediv_of_nonneg aa];exact wrap_i64 aa aa
  have e5:(x+y+c).tdiv 10000=(x+y+c)/10000:=Int.tdiv_eq_ediv_of_nonneg aa
  have e6:=cp (i:=i) aa
  have hc2:M<i+1→(x+y+c)/10000=0:=fun h=>by
   have:=hxz aa;have:=hyz aa;omega
  have hiA:i<1099511627776:=aa
  clear hxz hyz
  have cb:a6 (L++[(x+y+c) % 10000]) (i+1)+(x+y+c)/10000*10000^(i+1)=a6 (td a) (i+1)+a6 (td b) (i+1):=by
   have h1:=AU L ((x+y+c) % 10000)
   rw[hl]at h1
   rw[h1,a6,a6,Int.pow_succ,hxe,hye]
   exact JH hv aa
  have ni:W4 (L++[(x+y+c) % 10000]):=CB hw aa aa
  have gI:(L++[(x+y+c) % 10000]).length=i+1:=by rw[List.length_append,hl];rfl
  have hhp:=sQ (d:=(x+y+c) % 10000) hl
  refine dG.of hE ?_
  conv=>whnf
  by_cases g1:i<(td a).length
  ·have t1:decide ((i:Int)<((td a).length:Int))=true:=decide_eq_true aa
   (repeat((first|refine ah rfl rfl ?_|refine ag rfl rfl ?_|refine av Q3 ?_|refine dR Q3 ?_|refine a8 (by assumption) ?_|refine aC iT ?_|refine aC Q7 ?_|rw[t1]|rw[e1]|rw[e2]|rw[e3]|rw[e4]|rw[e6]);conv=>whnf))
   exact⟨M+2 - (i+1),dc [(38,2001)],[0,1,5,6,7],[38],aa,aF,i+1,_,_,rfl,aa,gI,ni,aa,aa,hc2,cb,rfl,by rw[←hhp];rfl⟩
  ·have t1:decide ((i:Int)<((td a).length:Int))=false:=decide_eq_false aa
   by_cases g2:i<(td b).length
   ·have t2:decide ((i:Int)<((td b).length:Int))=true:=decide_eq_true aa
    (repeat((first|refine ah rfl rfl ?_|refine ag rfl rfl ?_|refine av Q3 ?_|refine dR Q3 ?_|refine a8 (by assumption) ?_|refine aC iT ?_|refine aC ik ?_|refine aC Q7 ?_|rw[t1]|rw[t2]|rw[e1]|rw[e2]|rw[e3]|rw[e4]|rw[e6]);conv=>whnf))
    exact⟨M+2 - (i+1),dc [(38,2001)],[0,1,5,6,7],[38],aa,aF,i+1,_,_,rfl,aa,gI,ni,aa,aa,hc2,cb,rfl,by rw[←hhp];rfl⟩
   ·have t2:decide ((i:Int)<((td b).length:Int))=false:=decide_eq_false aa
    have t3:decide (c>0)=true:=decide_eq_true aa
    (repeat((first|refine ah rfl rfl ?_|refine av Q3 ?_|refine dR Q3 ?_|refine a8 (by assumption) ?_|refine aC ik ?_|refine aC Q7 ?_|rw[t1]|rw[t2]|rw[t3]|rw[e1]|rw[e2]|rw[e3]|rw[e4]|rw[e6]);conv=>whnf))
    exact⟨M+2 - (i+1),dc [(38,2001)],[0,1,5,6,7],[38],aa,aF,i+1,_,_,rfl,aa,gI,ni,aa,aa,hc2,cb,rfl,by rw[←hhp];rfl⟩
 ·have t1:decide ((i:Int)<((td a).length:Int))=false:=decide_eq_false aa
  have t2:decide ((i:Int)<((td b).length:Int))=false:=decide_eq_false aa
  have t3:decide (c>0)=false:=decide_eq_false aa
  have hc:c=0:=aa
  subst hc
  rw[jS a i aa,jS b i aa]at hv
  have k1:=yJ L aa hw
  rw[show(a6 L L.length).toNat=a+b by rw[hl];omega]at k1
  refine mR 5 2001 (fun _ h=>h) rfl rfl hl.symm ?_
  refine dG.of hE ?_
  conv=>whnf
  (repeat((first|refine ah rfl rfl ?_|refine ag rfl rfl ?_|refine a8 (by assumption) ?_|refine aC ik ?_|refine aC Q7 ?_|rw[t1]|rw[t2]);conv=>whnf));exact Q4
theorem Ni {P vL va vb c x y D C:Int} (h:vL - c*P=va - vb) (hD:x - y - c=D - 10000*C):vL+D*P - C*(P*10000)=va+x*P - (vb+y*P):=by
 have h2:(x - y - c)*P=(D - 10000*C)*P:=by rw[hD]
 grind
theorem Il (a b:Nat) (Ap:b≤a) (ha:(td a).length<1073741824):af Tryz.prog 321 [nN a,nN b] [] (nN (a - b)) [] []:=by
 have wa:=iP a
 have wb:=iP b
 have hlb:=fb Ap
 refine qU [] Tryz.func321 ?_
 intro w0 ρ0 hE
 conv=>whnf
 skip
 refine dU (t:=5) (k:=2001) (s:=1) (blk:=uH []) rfl rfl rfl ?_
 refine cn hE (fun k=>k) [0,1,5,6,7] [2001] (fun m fr hp=>∃(i:Nat) (L:List Int) (c:Int),m=(td a).length - i∧i≤(td a).length∧L.length=i∧W4 L∧0≤c∧c≤1∧a6 L i - c*10000^i=a6 (td a) i - a6 (td b) i∧
  fr=[(0,nN a),(1,nN b),(5,.aK 2001 1 0 i),(6,.val (.int .i64 c)),(7,.val (.int .i64 (i:Nat)))]∧hp=[(2001,uH L)]) (td a).length ?_ ?_ ?_
 ·kernel_rfl
 ·exact⟨0,[],0,rfl,aa,rfl,(fun i=>by simp),aa,aa,rfl,rfl,rfl⟩
 rintro m _ _ ⟨i,L,c,rfl,hi,hl,hw,hc0,VE,hv,rfl,rfl⟩
 by_cases aI:i<(td a).length
 ·have t1:decide ((i:Int)<((td a).length:Int))=true:=decide_eq_true aa
  have k2:=QW b i aa
  have hx:=wa i
  have hy:=wb i
  generalize hxe:(td a).getD i 0=x at*
  generalize hye:(td b).getD i 0=y at*
  have e1:IntKind.i64.wrap (x - y)=x - y:=wrap_i64 aa aa
  have e2:IntKind.i64.wrap (x - y - c)=x - y - c:=wrap_i64 aa aa
  have e6:=cp (i:=i) aa
  have lU:∀D C,x - y - c=D - 10000*C→a6 (L++[D]) (i+1) - C*10000^(i+1)=a6 (td a) (i+1) - a6 (td b) (i+1):=fun D C hD=>by
   have h1:=AU L D
   rw[hl]at h1
   rw[h1,a6,a6,Int.pow_succ,hxe,hye]
   exact Ni hv hD
  have gI:∀D:Int,(L++[D]).length=i+1:=fun D=>by rw[List.length_append,hl];rfl
  have hhp:=fun D=>sQ (d:=D) hl
  refine dG.of hE ?_
  conv=>whnf
  by_cases hn:x - y - c<0
  ·have t2:decide (x - y - c<0)=true:=decide_eq_true hn
   have e3:IntKind.i64.wrap (x - y - c+10000)=x - y - c+10000:=wrap_i64 aa aa
   (repeat((first|refine ah rfl rfl ?_|refine aB aF ?_|refine av Q3 ?_|refine a8 (by assumption) ?_|refine aC Q7 ?_|refine aC Q6 ?_|refine aC FA ?_|rw[t1]|rw[hxe]|rw[e1]|rw[e2]|rw[t2]|rw[e3]|rw[e6]);conv=>whnf))
   exact⟨(td a).length - (i+1),dc [(32,2001)],[0,1,5,6,7],[32],aa,aF,i+1,_,1,rfl,aa,gI _,CB hw (show 0≤x - y - c+10000 by omega) aa,aa,aa,lU _ _ aa,rfl,by rw[←hhp];rfl⟩
  ·have t2:decide (x - y - c<0)=false:=decide_eq_false hn
   (repeat((first|refine ah rfl rfl ?_|refine ag rfl rfl ?_|refine aB aF ?_|refine av Q3 ?_|refine a8 (by assumption) ?_|refine aC Q7 ?_|refine aC Q6 ?_|refine aC FA ?_|rw[t1]|rw[hxe]|rw[e1]|rw[e2]|rw[t2]|rw[e6]);conv=>whnf))
   exact⟨(td a).length - (i+1),dc [(32,2001)],[0,1,5,6,7],[32],aa,aF,i+1,_,0,rfl,aa,gI _,CB hw (show 0≤x - y - c by omega) aa,aa,aa,lU _ _ aa,rfl,by rw[←hhp];rfl⟩
 ·have t1:decide ((i:Int)<((td a).length:Int))=false:=decide_eq_false aa
  rw[jS a i aa,jS b i aa]at hv
  have h1:=nT hw i
  have hc:c=0:=by
   rcases(show c=0∨c=1 by omega)with h|h
   ·exact h
   ·subst h;omega
  subst hc
  have k1:=yJ L aa hw
  rw[show(a6 L L.length).toNat=a - b by rw[hl];omega]at k1
  refine mR 5 2001 (fun _ h=>h) rfl rfl hl.symm ?_
  refine dG.of hE ?_
  conv=>whnf
  (repeat((first|refine ag rfl rfl ?_|refine a8 (by assumption) ?_|refine aC Q7 ?_|rw[t1]);conv=>whnf));exact Q4
theorem JI {V P c x y o D C R:Int} (hV:V+c*P=R) (hD:o+x*y+c=D+10000*C):V+(D - o)*P+C*(P*10000)=R+x*y*P:=by
 have h2:(o+x*y+c)*P=(D+10000*C)*P:=by rw[hD]
 grind
theorem JJ {i k l:Nat} (h:(10000:Int)^i<10000^k):i<k:=by
 rcases Nat.lt_or_ge i k with g|g
 ·exact g
 ·have:(10000:Nat)^k≤10000^i:=Nat.pow_le_pow_right aH g
  have h2:((10000^k:Nat):Int)≤((10000^i:Nat):Int):=Int.ofNat_le.2 this
  rw[jR,jR]at h2
  omega
theorem EG (a b:Nat) (ha:(td a).length<536870912) (hb:(td b).length<536870912):af Tryz.prog 245 [nN a,nN b] [] (nN (a*b)) [] []:=by
 have wa:=iP a
 have wb:=iP b
 have ela:IntKind.i64.wrap (((td a).length:Int)+((td b).length:Int))=(((td a).length+(td b).length:Nat):Int):=by rw[wrap_i64 aa aa];omega
 refine qU [] Tryz.func245 ?_
 intro w0 ρ0 hE
 conv=>whnf
 (repeat((first|refine av Q3 ?_|refine aC Q7 ?_|rw[ela]|rw[Int.toNat_natCast]);conv=>whnf))
 generalize hla:(td a).length=la at*
 generalize hlb:(td b).length=lb at*
 refine cn hE (fun k=>k) [0,1,5,6] [15] (fun m fr hp=>∃(i:Nat) (out:List Int),m=la - i∧i≤la∧out.length=la+lb∧W4 out∧a6 out (la+lb)=a6 (td a) i*b∧
  fr=[(0,nN a),(1,nN b),(5,.aK 15 1 0 (la+lb)),(6,.val (.int .i64 (i:Nat)))]∧hp=[(15,uH out)]) la ?_ ?_ ?_
 ·kernel_rfl
 ·refine⟨0,List.replicate (la+lb) 0,rfl,Nat.zero_le _,List.length_replicate,Ik (fun x hx=>by rw[(List.mem_replicate.1 hx).2];omega), ?_,rfl,rfl⟩
  rw[lj (k:=0) (fun i _ _=>br) (Nat.zero_le _)];simp[a6]
 rintro m _ _ ⟨i,out,rfl,hi,Pe,LM,hov,rfl,rfl⟩
 by_cases aI:i<la
 ·have t1:decide ((i:Int)<(la:Int))=true:=decide_eq_true aa
  have e9:=cp (i:=i) aa
  have hx:=wa i
  have akw:a6 (td a) (i+1)*b<10000^(i+1+lb):=by
   have h1:=nT wa (i+1)
   have h2:(b:Int)<10000^lb:=by rw[←jR];exact Int.ofNat_lt.2 (gF aa)
   have h3:=ec wa (i+1)
   have h4:a6 (td a) (i+1)*b≤a6 (td a) (i+1)*10000^lb:=Int.mul_le_mul_of_nonneg_left aa h3
   have h5:a6 (td a) (i+1)*10000^lb<10000^(i+1)*10000^lb:=Int.mul_lt_mul_of_pos_right h1 (lh lb)
   rw[Int.pow_add];omega
  have ahL:a6 (td a) (i+1)=a6 (td a) i+(td a).getD i 0*10000^i:=rfl
  have akx:i<(td a).length:=aa
  generalize hxe:(td a).getD i 0=x at*
  refine dG.of hE ?_
  conv=>whnf
  (repeat((first|refine ah rfl rfl ?_|refine aC Q7 ?_|rw[hla]|rw[t1]);conv=>whnf))
  refine az hE (fun k=>k) [0,1,5,6,7,8] [15] (fun m fr hp=>∃(k:Nat) (out:List Int) (c:Int),m=lb+2 - k∧k≤lb+1∧out.length=la+lb∧W4 out∧0≤c∧c≤9999∧a6 out (la+lb)+c*10000^(i+k)=a6 (td a) i*b+x*a6 (td b) k*10000^i∧
   fr=[(0,nN a),(1,nN b),(5,.aK 15 1 0 (la+lb)),(6,.val (.int .i64 (i:Nat))),(7,.val (.int .i64 c)),(8,.val (.int .i64 (k:Nat)))]∧hp=[(15,uH out)]) (lb+2) ?_ ?_ ?_
  ·kernel_rfl
  ·exact⟨0,out,0,rfl,aa,Pe,LM,aa,aa,by rw[hov];simp[a6],rfl,rfl⟩
  clear hov LM Pe out
  rintro m _ _ ⟨k,out,c,rfl,hk,Pe,LM,hc0,VE,hov,rfl,rfl⟩
  have abK:lb≤k→a6 out (la+lb)+c*10000^(i+k)=a6 (td a) (i+1)*b:=fun h=>by
   rw[hov,jS b k aa,ahL];grind
  have hck:0<c→k≤lb:=fun h=>by
   rcases Nat.lt_or_ge lb k with g|g
   ·have h1:=abK aa
    have h2:=ec LM (la+lb)
    have h3:1*(10000:Int)^(i+k)≤c*10000^(i+k):=Int.mul_le_mul_of_nonneg_right aa (Int.le_of_lt (lh _))
    have h4:(10000:Int)^(i+k)<10000^(i+1+lb):=aa
    have:=JJ (l:=0) h4
    omega
   ·exact g
  by_cases hgo:k<lb∨0<c
  ·have C6:k≤lb:=by
    rcases hgo with h|h
    ·omega
    ·exact hck h
   have Kh:i+k<out.length:=aa
   have k2:=QW b k aa
   have hy:=wb k
   have ho:=LM (i+k)
   generalize hye:(td b).getD k 0=y at*
   generalize hoe:out.getD (i+k) 0=o at*
   have hxy:0≤x*y:=Int.mul_nonneg hx.1 hy.1
   have ahM:x*y≤9999*9999:=by
    have h1:x*y≤9999*y:=Int.mul_le_mul_of_nonneg_right aa hy.1
    omega
   have e1:IntKind.i64.wrap ((i:Int)+(k:Int))=((i+k:Nat):Int):=by rw[wrap_i64 aa aa];omega
   have e2:IntKind.i64.wrap (x*y)=x*y:=wrap_i64 aa aa
   have e3:IntKind.i64.wrap (o+x*y)=o+x*y:=wrap_i64 aa aa
   have e4:IntKind.i64.wrap (o+x*y+c)=o+x*y+c:=wrap_i64 aa aa
   have e5:(o+x*y+c).tmod 10000=(o+x*y+c) % 10000:=Int.tmod_eq_emod_of_nonneg aa
   have e6:IntKind.i64.wrap ((o+x*y+c).tdiv 10000)=(o+x*y+c)/10000:=by rw[Int.tdiv_eq_ediv_of_nonneg aa];exact wrap_i64 aa aa
   have e7:(o+x*y+c).tdiv 10000=(o+x*y+c)/10000:=Int.tdiv_eq_ediv_of_nonneg aa
   have e8:=cp (i:=k) aa
   have hD:o+x*y+c=(o+x*y+c) % 10000+10000*((o+x*y+c)/10000):=(Int.emod_add_mul_ediv _ _).symm
   have hC0:0≤(o+x*y+c)/10000:=aa
   have hC1:(o+x*y+c)/10000≤9999:=aa
   have hD0:0≤(o+x*y+c) % 10000:=aa
   have Lm:(o+x*y+c) % 10000<10000:=aa
   have eO:a6 (out.set (i+k) ((o+x*y+c) % 10000)) (la+lb)+(o+x*y+c)/10000*10000^(i+(k+1))=a6 (td a) i*b+x*a6 (td b) (k+1)*10000^i:=by
    rw[yH aa Kh,hoe,show i+(k+1)=i+k+1 from rfl,Int.pow_succ,a6,hye]
    have:=JI hov hD
    have e:x*(a6 (td b) k+y*10000^k)*10000^i=x*a6 (td b) k*10000^i+x*y*10000^(i+k):=by rw[Int.pow_add];grind
    rw[e];omega
   have gI:(out.set (i+k) ((o+x*y+c) % 10000)).length=la+lb:=by rw[List.length_set];exact Pe
   have ni:=LM.set (i:=i+k) hD0 Lm
   clear abK hck hov hxy ahM hD
   conv=>whnf
   by_cases g1:k<lb
   ·have t2:decide ((k:Int)<(lb:Int))=true:=decide_eq_true aa
    (repeat((first|refine ah rfl rfl ?_|refine ag rfl rfl ?_|refine aB aF ?_|refine bg Q3 ?_|refine av Q3 ?_|refine dR Q3 ?_|refine a8 (by assumption) ?_|refine aC iT ?_|refine aC Q7 ?_|refine aC Q6 ?_|refine aC FA ?_|rw[hlb]|rw[t2]|rw[hxe]|rw[e1]|rw[hoe]|rw[e2]|rw[e3]|rw[e4]|rw[e5]|rw[e6]|rw[e8]|rw[Int.toNat_natCast]|rw[Nat.zero_add]);conv=>whnf))
    exact⟨lb+2 - (k+1),fun k=>k,[0,1,5,6,7,8],[15],aa,aF,k+1,_,_,rfl,aa,gI,ni,hC0,hC1,eO,rfl,rfl⟩
   ·have t2:decide ((k:Int)<(lb:Int))=false:=decide_eq_false aa
    have t3:decide (c>0)=true:=decide_eq_true aa
    (repeat((first|refine ah rfl rfl ?_|refine aB aF ?_|refine bg Q3 ?_|refine av Q3 ?_|refine dR Q3 ?_|refine a8 (by assumption) ?_|refine aC ik ?_|refine aC Q7 ?_|refine aC Q6 ?_|refine aC FA ?_|rw[hlb]|rw[t2]|rw[t3]|rw[hxe]|rw[e1]|rw[hoe]|rw[e2]|rw[e3]|rw[e4]|rw[e5]|rw[e6]|rw[e8]|rw[Int.toNat_natCast]|rw[Nat.zero_add]);conv=>whnf))
    exact⟨lb+2 - (k+1),fun k=>k,[0,1,5,6,7,8],[15],aa,aF,k+1,_,_,rfl,aa,gI,ni,hC0,hC1,eO,rfl,rfl⟩
  ·have t2:decide ((k:Int)<(lb:Int))=false:=decide_eq_false aa
   have t3:decide (c>0)=false:=decide_eq_false aa
   have hc:c=0:=aa
   have hv:=abK aa
   rw[hc,Int.zero_mul,Int.add_zero]at hv
   conv=>whnf
   (repeat((first|refine ah rfl rfl ?_|refine ag rfl rfl ?_|refine aC ik ?_|refine aC Q7 ?_|rw[hlb]|rw[t2]|rw[t3]|rw[e9]);conv=>whnf))
   exact⟨la - (i+1),fun k=>k,[0,1,5,6],[15],aa,aF,i+1,out,rfl,aa,Pe,LM,hv,rfl,rfl⟩
 ·have t1:decide ((i:Int)<(la:Int))=false:=decide_eq_false aa
  have hI:i=la:=aa
  subst hI
  rw[jS a i aa]at hov
  have k1:=yJ out aa LM
  rw[show(a6 out out.length).toNat=a*b by rw[Pe,hov,←Int.natCast_mul];exact Int.toNat_natCast _]at k1
  refine mR 5 15 (fun _ h=>h) rfl rfl Pe.symm ?_
  refine dG.of hE ?_
  conv=>whnf
  (repeat((first|refine ag rfl rfl ?_|refine a8 (by assumption) ?_|refine aC Q7 ?_|rw[hla]|rw[t1]);conv=>whnf));exact Q4
theorem GK {P:Program} {ρ:bI} {w:World} {s n:Nat} {vs:List SV} {d:Sx.Data} {v:Value} (hv:Has ρ (ed s vs) v) (himm:∀b o,ρ.aT b=some o→w.heap[b]? =some o)
  (hr:∀z,au (cE ρ.aT ρ.b7) vs z→(∀x∈vs,x.width=s)→Go.Sx.Rows ρ s d z) (hn:n=vs.length):
  ∃z,Go.Sx.Rows ρ s d z∧(∀w',(∀b,b<w.heap.size→w'.heap[b]? =w.heap[b]?)→(Builtin.firstCells s n v).run P w'= .ok (((z.drop 0).take n).flatten).toArray w')∧Builtin.lenOf v=Pure.pure n:=by
 subst hn
 rcases rz hv with⟨rfl,a,rfl⟩|⟨b,cap,z,pre,ex,ty,fz,h1,h2,h3,h4,h5,h6⟩
 ·refine⟨[],hr [] (by simp only[au]) (fun x hx=>by cases hx),fun w' _=> ?_,rfl⟩
  cases a with
  |none=>simp[Builtin.firstCells]
  |some a=>simp[Builtin.firstCells,loadCells,loadCellsFrom]
 ·have hzr:=hr z h2 h3
  obtain⟨zl,zw⟩:=hzr.len
  have pq:z.length=vs.length:=cJ h2
  subst h6
  refine⟨z,hzr,fun w' zo=> ?_,rfl⟩
  have hh0:=himm _ _ h1
  have rq:b<w.heap.size:=by
   rcases Nat.lt_or_ge b w.heap.size with h'|h'
   ·exact h'
   ·simp[Array.getElem?_eq_none h']at hh0
  have hh:w'.heap[b]? =some (.cells (pre++(z.flatten++ex)).toArray ty fz):=by rw[zo b rq];exact hh0
  have e0:(z.drop 0).take vs.length=z:=by rw[List.drop_zero,List.take_of_length_le aa]
  rw[e0]
  have hlen:z.flatten.length=vs.length*s:=by rw[aL (s:=s) _ zw,pq]
  refine run_firstCells_some (P:=P) w' s vs.length _ vs.length cap _ hlen ?_
  intro j u hj
  have fB:(⟨b,pre.length,none⟩:Addr).add j=⟨b,pre.length+j,none⟩:=by unfold Addr.add;split<;>simp_all
  rw[fB,cell_of_row w' b (pre.length+j) _ ty fz hh]
  have aI:j<z.flatten.length:=(List.getElem?_eq_some_iff.1 hj).1
  simp only[List.getElem?_toArray]
  rw[List.getElem?_append_right aa,Nat.add_sub_cancel_left,List.getElem?_append_left aI]
  exact hj
theorem yL {ρ:bI} {kd:IntKind}:∀(xs:List Int) (z:List (List Value)),au ρ (xs.map (iF kd)) z→z=xs.map fun x=>[.int kd x]
 |[],z,h=>by simpa only[List.map_nil,au]using h
 |x::xs,z,h=>by
  simp only[List.map_cons,au]at h
  obtain⟨y,r,rfl,h1,h2⟩:=h
  rw[yL xs r h2]
  simp only[iF,aG]at h1
  rw[h1.1,List.map_cons]
theorem uI {kd:IntKind} (xs:List Int):∀(ρ:bI) z,au (cE ρ.aT ρ.b7) (xs.map (iF kd)) z→(∀x∈xs.map (iF kd),x.width=1)→Go.Sx.Rows ρ 1 (.ints kd xs) z:=
 fun ρ z h _=>⟨rfl,yL xs z h⟩
theorem nU {P:Program} {o:Oper} {fr:List (Nat×SV)} {fk:List (Nat×aA)} {t t2 e:TypeId} {x y:Operand} {xs:Array Operand} {ts:Array TypeId} {ti t0 te:TI} {k kn n m:Nat} {d d' d2:Sx.Data} {vs:List SV} (ho:o.op= .call ⟨.builtin .append,xs,ts⟩) (hxs:xs= #[x,y]) (nh:ts= #[t,t2])
  (hx:aZ fr x (.aK k te.size 0 n)) (hy:aZ fr y (ed te.size vs)) (ue:∀(ρ:bI) z,au (cE ρ.aT ρ.b7) vs z→(∀x∈vs,x.width=te.size)→Go.Sx.Rows ρ te.size d2 z) (ht:aE P t ti) (hk:ti.kind= .aK e) (C3:aE P t2 t0) (hk2:t0.kind= .aK e) (he:aE P e te)
  (hf:(k,⟨e,true,d⟩)∈fk) (hl:d.live=true) (hw:cW d=some te.size)
  (hn:n≤fi d) (hmv:m=vs.length) (hm:0+m≤fi d2) (hd:q9 d n d2 0 m=some d') (hbytes:(n+m)*te.bytes≤140737488355328) (h63:n+m≤9223372036854775807):
  bL P o fr fk (.aK kn te.size 0 (n+m)) [(kn,⟨e,true,d'⟩)] [(k,⟨e,true,.dead⟩)]:=
 dw fun ρ a w hp=>by
  have Dq:=hx ρ a hp.dj
  have I3:=hy ρ a hp.dj
  obtain⟨i,zv,i1,i2',i3,i4,i5,i6,i7,_⟩:=he.info
  have hu:=ht.kind;rw[hk]at hu
  have zp:=C3.kind;rw[hk2]at zp
  obtain⟨z,hz,hzc⟩:=je (hp.mj k _ hf) hl hw
  obtain⟨z2,lR,eT,hlen2⟩:=GK (P:=P) (d:=d2) I3 hp.aT (ue ρ) hmv
  obtain⟨zl,zw⟩:=hz.len
  obtain⟨zl2,zw2⟩:=lR.len
  have bZ:=(ui hd hz lR).1
  have dd:=hp.fresh kn _ (List.mem_cons_self ..)
  simp only at zl
  have gO:∀u∈(z2.drop 0).take m,u.length=te.size:=fun u hu=>zw2 u (List.mem_of_mem_drop (List.mem_of_mem_take hu))
  have fJ:((z2.drop 0).take m).length=m:=by rw[List.length_take,List.length_drop];omega
  have oK:(((z2.drop 0).take m).flatten).length=m*te.size:=by rw[aL _ gO,fJ]
  have jf:∀u∈(((z2.drop 0).take m).flatten),u.oneCell'=true:=fun u hu=>by
   obtain⟨q,hq,hu⟩:=List.mem_flatten.1 hu
   exact lR.wS q (List.mem_of_mem_drop (List.mem_of_mem_take hq)) u hu
  have eS:∀v w',(Builtin.append_ ts o.type #[a.eval x,a.eval y]).run P w= .ok v w'→(execOp a.eval o).run P w= .ok (.value v) w':=by
   intro v w' h
   simp only[execOp,ho,resolve,invoke,builtin,hxs,Sem.run_bind,Sem.run_pure,Result.andThen_ok,List.map_toArray,List.map_cons,List.map_nil]
   rw[h]
   rfl
  have Bv:∀v∈zv.cells.toList,v.oneCell'=true:=by
   have h1:=(au.len (ρ:=ρ) te.zero _ (dF i6)).2
   rw[i5,List.flatMap_def];exact h1
  have Bw:¬((n+m:Nat):Int)>IntKind.i64.max:=by
   have:IntKind.i64.max=9223372036854775807:=aH
   omega
  have grow:∀(base:Option Addr) (cap:Nat),a.eval x= .slice base n cap→cap<n+m→(∀w',(∀b,b<w.heap.size→w'.heap[b]? =w.heap[b]?)→(Builtin.firstCells te.size n (.slice base n cap)).run P w'= .ok ((z.take n).flatten).toArray w')→
    ∃v w' ρ',(execOp a.eval o).run P w= .ok (.value v) w'∧jb ρ w (.aK kn te.size 0 (n+m)) [(kn,⟨e,true,d'⟩)] [(k,⟨e,true,.dead⟩)] v ρ' w':=by
   intro base cap hbx hcap hfirst
   have w8:¬Builtin.nextslicecap (n+m) cap*i.bytes>2^48:=by
    have:=growslice_fits (bytes:=te.bytes) hcap hbytes
    rw[i3];simpa using this
   have PB:n+m≤grownCap w (n+m) cap e:=by
    simp only[grownCap,Question.cut]
    omega
   have b9:=jd (hL:=bZ.dO) (ρ:=ρ) (w:=w.drew) (k:=kn) (s:=te.size) (n:=n+m) (cap:=grownCap w (n+m) cap e) (ty:=e) (d:=d') (vs:=(z.take n++(z2.drop 0).take m).flatten) (ex:=(Builtin.zeroCells zv.cells (grownCap w (n+m) cap e - (n+m))).toList) dd bZ.data PB
    (by
     have h1:((z.take n++(z2.drop 0).take m).flatten).length=(n+m)*te.size:=by
      rw[aL (s:=te.size) _ (fun u hu=>(List.mem_append.1 hu).elim (fun h=>zw u (List.mem_of_mem_take h)) (gO u)),List.length_append,fJ,List.length_take]
      congr 1
      omega
     rw[List.length_append,h1,Array.length_toList]
     have h2:(Builtin.zeroCells zv.cells (grownCap w (n+m) cap e - (n+m))).size=(grownCap w (n+m) cap e - (n+m))*te.size:=by simp[Builtin.zeroCells,i7]
     rw[h2,←Nat.add_mul,show n+m+(grownCap w (n+m) cap e - (n+m))=grownCap w (n+m) cap e from by omega]
     exact Nat.le_refl _) (fI Bv _)
   refine⟨_,_,_,eS _ _ ?_,{b9 with
    bw:=⟨b9.bw.os,b9.bw.tape,b9.bw.output,b9.bw.size,fun b hb hn=>b9.bw.block b hb (fun hh=>by obtain⟨_,_,_,hh,_⟩:=hh;cases hh)⟩
    blk:=fun j b hj=>by
     rcases hj with hj|hj
     ·simp only[List.mem_singleton,Prod.mk.injEq]at hj
      obtain⟨rfl,rfl⟩:=hj
      exact .inl rfl
     ·exact b9.blk j b (.inr hj)
    once:=fun j b b' h1 h2 h3 h4=>by
     simp only[List.mem_singleton,Prod.mk.injEq]at h1 h2
     rw[h2.2]at h4
     cases h4
    zi:=fun j b q hj hq=>.inl ((b9.zi j b q hj hq).elim id (fun hh=>by obtain⟨_,_,_,hh,_⟩:=hh;cases hh))}⟩
   have zQ:(if false=true then(Pure.pure 0:Sem Nat)else Builtin.lenOf (a.eval y)).run P w= .ok m w:=by rw[hlen2];rfl
   have ru:¬n+m≤cap:=aa
   have hnb:(w.drew).heap=w.heap:=rfl
   have zR:=hfirst w.drew (fun b _=>rfl)
   have ue:=eT w.drew (fun b _=>rfl)
   simp only[Builtin.append_,nh,hbx,List.getElem?_toArray,List.getElem?_cons_zero,List.getElem?_cons_succ,Sem.run_bind,run_underlying hu,run_underlying zp,Result.andThen_ok,he.sizeOf,Sem.run_pure,Bool.false_eq_true,if_false,hlen2]
   have rv:∀w',(typeInfo e).run P w'= .ok i w':=fun w'=>by simp[typeInfo,i1]
   have Bs:∀w',(Go.zeroValue e).run P w'= .ok zv w':=fun w'=>by simp[Go.zeroValue,typeInfo,i1,i4]
   have ry:¬(((n+m:Nat):Int)>IntKind.i64.max∧(False∨i.bytes=0)):=fun h=>Bw h.1
   have jI:(Question.appendCap (n+m) cap e).forced=false:=rfl
   simp only[ru,if_false,Sem.run_bind,rv,Result.andThen_ok,ry,w8,run_choose,jI,Bool.false_eq_true,World.drew_eq,run_askRoom,zR,Bool.not_false,if_true,ue,Bs,newRow,run_newObj,Sem.run_pure,World.alloc_eq]
   have iB:((z.take n).flatten.toArray++((z2.drop 0).take m).flatten.toArray++Builtin.zeroCells zv.cells (grownCap w (n+m) cap e - (n+m)))=((z.take n++(z2.drop 0).take m).flatten++(Builtin.zeroCells zv.cells (grownCap w (n+m) cap e - (n+m))).toList).toArray:=by
    apply Array.ext'
    simp
   show Result.ok (Value.slice (some ⟨w.drew.heap.size,0,none⟩) (n+m) (grownCap w (n+m) cap e)) (w.drew.alloc (.cells ((z.take n).flatten.toArray++((z2.drop 0).take m).flatten.toArray++Builtin.zeroCells zv.cells (grownCap w (n+m) cap e - (n+m))) e))=_
   rw[iB]
  rcases fh Dq with⟨b,tt,cap,e1,e2,e3,e4⟩|⟨rfl,ad,e4⟩
  ·rcases hzc with⟨b',tt',ex,c1,c2,c3,c4⟩|⟨c1,_⟩
   ·rw[e1]at c1
    cases c1
    simp only at c2
    rcases Nat.lt_or_ge cap (n+m)with aI|Kf
    ·refine grow _ cap e4 aI ?_
     obtain⟨z3,hz3,hrun3,_⟩:=mq (P:=P) Dq (hp.mj k _ hf) hl hw (by simpa using hn)
     intro w' zo
     have h0:=run_firstCells_some (P:=P) w' te.size n ⟨b,0*te.size,none⟩ n cap ((z.take n).flatten) (by
      rw[aL (s:=te.size) _ (fun u hu=>zw u (List.mem_of_mem_take hu)),List.length_take];congr 1;omega) (by
      intro j u hj
      have rq:b<w.heap.size:=by
       rcases Nat.lt_or_ge b w.heap.size with h'|h'
       ·exact h'
       ·simp[Array.getElem?_eq_none h']at c2
      have hh:w'.heap[b]? =some (.cells (z.flatten++ex).toArray e (0,0)):=by rw[zo b rq];exact c2
      have fB:(⟨b,0*te.size,none⟩:Addr).add j=⟨b,j,none⟩:=jZ b te.size j
      rw[fB,cell_of_row w' b j _ e (0,0) hh]
      rw[cl (s:=te.size) _ _ zw]at hj
      have h6:z.flatten[j]? =some u:=by
       rw[List.getElem?_take]at hj
       split at hj
       ·exact hj
       ·cases hj
      have I4:j<z.flatten.length:=(List.getElem?_eq_some_iff.1 h6).1
      simp only[List.getElem?_toArray]
      rw[List.getElem?_append_left I4]
      exact h6)
     exact h0
    ·-- in place
     have rq:b<w.heap.size:=by
      rcases Nat.lt_or_ge b w.heap.size with h'|h'
      ·exact h'
      ·simp[Array.getElem?_eq_none h']at c2
     have ue:=eT w (fun b _=>rfl)
     have vc:0*te.size+n*te.size+(((z2.drop 0).take m).flatten).length≤(z.flatten++ex).length:=by
      rw[oK,c3,Nat.zero_mul,Nat.zero_add,←Nat.add_mul]
      exact Nat.le_trans (Nat.mul_le_mul_right _ Kf) (by simpa using e3)
     have Hf:=run_storeCells_at (P:=P) b (n*te.size) e (((z2.drop 0).take m).flatten) 0 (z.flatten++ex).toArray w c2 (by simp only[List.size_toArray];simpa using vc) jf
     have fB:(⟨b,0*te.size,none⟩:Addr).add (n*te.size)=⟨b,n*te.size,none⟩:=jZ b te.size _
     have gf:((z.flatten++ex).take (n*te.size+0)++(((z2.drop 0).take m).flatten)++(z.flatten++ex).drop (n*te.size+0+(((z2.drop 0).take m).flatten).length))=
       (z.take n++(z2.drop 0).take m).flatten++(z.flatten++ex).drop (n*te.size+m*te.size):=by
      rw[Nat.add_zero,oK,List.flatten_append,cl (s:=te.size) _ _ zw,List.take_append_of_le_length (by rw[aL (s:=te.size) _ zw];exact Nat.mul_le_mul_right _ aa)]
     rw[gf]at Hf
     let ρ':bI:=⟨fun j=>if j=kn then some (b,tt)else ρ.key j,ρ.aT,ρ.b7⟩
     have hle:ρ.Le ρ':=⟨fun j q hq=>by
      show(if j=kn then _ else _)=_
      by_cases hj:j=kn
      ·subst hj;rw[dd]at hq;cases hq
      ·rw[if_neg hj];exact hq,fun b o hb=>hb⟩
     refine⟨.slice (some ⟨b,0*te.size,none⟩) (n+m) cap,w.setRow b ((z.take n++(z2.drop 0).take m).flatten++(z.flatten++ex).drop (n*te.size+m*te.size)).toArray,ρ',eS _ _ ?_, ?_⟩
     ·simp only[Builtin.append_,nh,e4,List.getElem?_toArray,List.getElem?_cons_zero,List.getElem?_cons_succ,Sem.run_bind,run_underlying hu,run_underlying zp,Result.andThen_ok,he.sizeOf,Sem.run_pure,Bool.false_eq_true,if_false,hlen2,Kf,if_true,Bool.not_false,ue,fB,Hf]
     ·refine⟨hle,fW (.inl ⟨b,tt,cap, ?_,Kf,e3,rfl⟩), ?_,⟨rfl,rfl,rfl,by simp[World.setRow], ?_⟩, ?_, ?_, ?_, ?_,fun b o hb=>.inl hb⟩
      ·show(if kn=kn then _ else _)=_
       rw[if_pos rfl]
      ·intro j hj
       show(if j=kn then _ else _)=_
       rw[if_neg]
       rintro rfl
       exact hj _ (List.mem_cons_self ..)
      ·intro q hq hnq
       refine cR fun VG=>hnq ⟨k,_,tt,List.mem_cons_self .., ?_⟩
       rw[VG];exact e1
      ·intro j bj hj
       rcases hj with hj|hj
       ·simp only[List.mem_singleton,Prod.mk.injEq]at hj
        obtain⟨rfl,rfl⟩:=hj
        exact .inl rfl
       ·simp only[List.mem_singleton,Prod.mk.injEq]at hj
        obtain⟨rfl,rfl⟩:=hj
        refine .inr (.inl ⟨b,tt,_,(z.flatten++ex).drop (n*te.size+m*te.size), ?_,by rw[Data.ck bZ.dO];exact c5 c2,bZ.data.mono hle, ?_, ?_⟩)
        ·show(if j=j then _ else _)=_
         rw[if_pos rfl]
        ·have h1:((z.take n++(z2.drop 0).take m).flatten).length=(n+m)*te.size:=by
          rw[aL (s:=te.size) _ (fun u hu=>(List.mem_append.1 hu).elim (fun h=>zw u (List.mem_of_mem_take h)) (gO u)),List.length_append,fJ,List.length_take]
          congr 1
          omega
         rw[List.length_append,h1,List.length_drop,c3,Nat.add_mul]
         rw[oK,c3]at vc
         omega
        ·intro u hu
         have:=List.mem_of_mem_drop hu
         rcases List.mem_append.1 this with h|h
         ·obtain⟨q,hq,hu'⟩:=List.mem_flatten.1 h
          exact hz.wS q hq u hu'
         ·exact c4 u h
      ·intro j c c' h1 h2 h3 h4
       simp only[List.mem_singleton,Prod.mk.injEq]at h1 h2
       rw[h2.2]at h4
       cases h4
      ·intro j bj q hj hq
       simp only[List.mem_singleton,Prod.mk.injEq]at hj
       obtain⟨rfl,rfl⟩:=hj
       have qn:(if j=j then some (b,tt)else ρ.key j)=some q:=hq
       rw[if_pos rfl]at qn
       cases qn
       exact .inr ⟨k,_,tt,List.mem_cons_self ..,rfl,e1⟩
      ·intro j bj j' bj' q q' hj oc a7
       simp only[List.mem_singleton,Prod.mk.injEq]at hj oc
       exact absurd (hj.1.trans oc.1.symm) a7
   ·rw[e1]at c1;cases c1
  ·rcases Nat.eq_zero_or_pos m with rfl|O8
   ·-- nothing onto nothing
    have ue:=eT w (fun b _=>rfl)
    refine⟨.slice ad 0 0,w,ρ,eS _ _ ?_, ?_⟩
    ·have lU:∀q:Addr,(storeCells q ([]:List Value)).run P w= .ok () w:=fun q=>rfl
     have Dr:((z2.drop 0).take 0).flatten=[]:=by simp
     rw[Dr]at ue
     cases ad<;>simp only[Builtin.append_,nh,e4,List.getElem?_toArray,List.getElem?_cons_zero,List.getElem?_cons_succ,Sem.run_bind,run_underlying hu,run_underlying zp,Result.andThen_ok,he.sizeOf,Sem.run_pure,Bool.false_eq_true,if_false,hlen2,Nat.add_zero,Nat.le_refl,if_true,Bool.not_false,ue,lU]
    ·have agS:d'.empty∨True:=.inr trivial
     have wX:d'.empty:=by
      unfold q9 at hd
      split at hd
      ·split at hd
       ·simp only[Option.some.injEq]at hd;subst hd;simp[Data.empty]
       ·simp at hd
      ·simp only[Option.some.injEq]at hd;subst hd;simp[Data.empty]
      ·split at hd
       ·simp only[Option.some.injEq]at hd;subst hd;simp[Data.empty]
       ·simp at hd
      ·simp at hd
     refine⟨.refl ρ,fW (.inr ⟨rfl,ad,rfl⟩),fun _ _=>rfl,.refl _ _, ?_, ?_, ?_, ?_,fun b o hb=>.inl hb⟩
     ·intro j bj hj
      rcases hj with hj|hj
      ·simp only[List.mem_singleton,Prod.mk.injEq]at hj
       obtain⟨rfl,rfl⟩:=hj
       exact .inl rfl
      ·simp only[List.mem_singleton,Prod.mk.injEq]at hj
       obtain⟨rfl,rfl⟩:=hj
       exact .inr (.inr ⟨dd,wX⟩)
     ·intro j c c' h1 h2 h3 h4
      simp only[List.mem_singleton,Prod.mk.injEq]at h1 h2
      rw[h2.2]at h4
      cases h4
     ·intro j bj q hj hq
      simp only[List.mem_singleton,Prod.mk.injEq]at hj
      obtain⟨rfl,rfl⟩:=hj
      rw[dd]at hq;cases hq
     ·intro j bj j' bj' q q' hj oc a7
      simp only[List.mem_singleton,Prod.mk.injEq]at hj oc
      exact absurd (hj.1.trans oc.1.symm) a7
   ·refine grow ad 0 e4 aa ?_
    intro w' _
    cases ad with
    |none=>simp[Builtin.firstCells]
    |some q=>simp[Builtin.firstCells,loadCells,loadCellsFrom]
theorem EH {E:Env} (t k:Nat) {c:Code} {K:bK} {fr:List (Nat×SV)} {hp:List (Nat×aA)} {ty:TypeId} {n:Nat} {kd:IntKind} {xs ys:List Int} (hW:∀b,¬E.W0 b) (ht:lk fr t=some (.aK k 1 0 n)) (hk:find hp k=some ⟨ty,true,.ints kd xs⟩)
  (hn:n≤xs.length) (hy:xs.take n=ys) (hs:dG E c K ((t,mc kd ys)::fr) (eD hp k ⟨ty,true,.dead⟩)):dG E c K fr hp:=by
 refine kN t k (xs:=xs.map (iF kd)) hW ht hk rfl rfl (bT (fun _=>rfl) xs) (by simp;omega) ?_
 have e:fM (xs.map (iF kd)) 0 (0+n)=ys.map (iF kd):=by
  rw[fM,List.drop_zero,Nat.sub_zero,Nat.zero_add,←List.map_take,hy]
 rw[e]
 exact hs
theorem QX (xs:List Int) (n:Nat) (hn:n≤xs.length) (hl:xs.length<1099511627776) (K:Nat) (wr:Bool):
  af Tryz.prog 326 [.aK K 1 0 n] [(K,⟨3,wr,.ints .i64 xs⟩)] (.aK K 1 0 (gH xs n)) [] []:=by
 refine af.rL ?_
 refine gw (Z:=[]) aM bB Tryz.func326 rfl aF (args:=[.aK 1001 1 0 n]) (fk:=[(1001,⟨3,false,.ints .i64 xs⟩)]) (c:=.aK 1001 1 0 (gH xs n)) (new:=[]) (upd:=[]) (bV.of rfl rfl rfl rfl rfl rfl rfl rfl rfl rfl rfl) rfl (fun _=>K) (bh.ro rfl) ?_
 intro W0 w0 ρ0 hE
 conv=>whnf
 skip
 refine az hE (fun k=>k) [0] [1001] (fun m fr hp=>m≤n∧gH xs m=gH xs n∧fr=[(0,.aK 1001 1 0 m)]∧hp=[(1001,⟨3,false,.ints .i64 xs⟩)]) n ?_ ?_ ?_
 ·kernel_rfl
 ·exact⟨aa,rfl,rfl,rfl⟩
 rintro m _ _ ⟨hm,hc,rfl,rfl⟩
 conv=>whnf
 by_cases h0:m=0
 ·subst h0
  have t1:decide (((0:Nat):Int)>0)=false:=rfl
  have e:gH xs n=0:=hc.symm
  rw[e]
  (repeat(first|(refine ag rfl rfl ?_;conv=>whnf)|(refine aC ik ?_;conv=>whnf)))
  exact⟨aq.refl _,(fun _ _ h=>by cases h),(fun _ _ h=>by cases h)⟩
 ·obtain⟨m,rfl⟩:∃k,m=k+1:=⟨m - 1,aa⟩
  have t1:decide (((m+1:Nat):Int)>0)=true:=decide_eq_true aa
  have e1:IntKind.i64.wrap (((m+1:Nat):Int) - 1)=(m:Int):=by rw[wrap_i64 aa aa];omega
  by_cases hx:xs.getD m 0=0
  ·have t2:(xs.getD m 0==0)=true:=beq_iff_eq.2 hx
   rw[gH,if_pos hx]at hc
   (repeat((first|refine ah rfl rfl ?_|refine bg Q3 ?_|refine av Q3 ?_|refine aC iT ?_|rw[t1]|rw[e1]|rw[show 0+(m:Int).toNat=m from by omega]|rw[t2]|rw[show((m:Int) - 0).toNat=m from by omega]|rw[Nat.zero_add]);conv=>whnf))
   exact⟨m,fun k=>k,[0],[1001],aa,aF,aa,hc,rfl,rfl⟩
  ·have t2:(xs.getD m 0==0)=false:=beq_false_of_ne hx
   rw[gH,if_neg hx]at hc
   rw[←hc]
   (repeat((first|refine ah rfl rfl ?_|refine ag rfl rfl ?_|refine bg Q3 ?_|refine av Q3 ?_|refine aC iT ?_|rw[t1]|rw[e1]|rw[show 0+(m:Int).toNat=m from by omega]|rw[t2]);conv=>whnf))
   exact⟨aq.refl _,(fun _ _ h=>by cases h),(fun _ _ h=>by cases h)⟩
theorem nV (R i:Nat):R/10000^i=10000*(R/10000^(i+1))+R/10000^i % 10000:=by
 have:=Nat.div_add_mod (R/10000^i) 10000
 rw[Nat.div_div_eq_div_mul,←Nat.pow_succ]at this
 exact this.symm
theorem JK (R F:Nat) (hR:(td R).length<1099511627776) (hF:F<1099511627776) (hb:R/10000^F<100000000000000000):af Tryz.prog 356 [nN R,.val (.int .i64 (F:Nat))] [] (.val (.int .i64 ((R/10000^F:Nat):Int))) [] []:=by
 have e0:IntKind.i64.wrap (((td R).length:Int) - 1)=((td R).length:Int) - 1:=wrap_i64 aa aa
 refine cj [] Tryz.func356 ?_
 intro W0 w0 ρ0 hE
 conv=>whnf
 (repeat(first|(refine aC Q7 ?_;conv=>whnf)|(rw[e0];conv=>whnf)))
 refine az hE (fun k=>k) [0,1,5,6] [] (fun q fr hp=>∃j:Nat,q=j - F∧j≤(td R).length∧(F≤j∨j=(td R).length)∧fr=[(0,nN R),(1,.val (.int .i64 (F:Nat))),(5,.val (.int .i64 ((R/10000^j:Nat):Int))),(6,.val (.int .i64 ((j:Int) - 1)))]∧hp=[]) ((td R).length - F) ?_ ?_ ?_
 ·kernel_rfl
 ·exact⟨(td R).length,rfl,Nat.le_refl _,.inr rfl,by rw[Nat.div_eq_of_lt (eN R)];rfl,rfl⟩
 rintro q _ _ ⟨j,rfl,hj,hjF,rfl,rfl⟩
 conv=>whnf
 by_cases hgo:F<j
 ·obtain⟨i,rfl⟩:∃i,j=i+1:=⟨j - 1,aa⟩
  have ei:(((i+1:Nat):Int) - 1)=(i:Int):=aa
  rw[ei]
  have hs:=nV R i
  have hle:R/10000^i≤R/10000^F:=Nat.div_le_div_left (Nat.pow_le_pow_right aH aa) (Nat.pow_pos aH)
  have hg:=yI R i
  have t1:decide ((i:Int)≥(F:Int))=true:=decide_eq_true aa
  generalize hA:R/10000^(i+1)=A at*
  generalize hB:R/10000^i=B at*
  have e1:IntKind.i64.wrap (10000*(A:Int))=10000*(A:Int):=wrap_i64 aa aa
  have e2:IntKind.i64.wrap (10000*(A:Int)+((B % 10000:Nat):Int))=(B:Int):=by rw[wrap_i64 aa aa];omega
  have e3:IntKind.i64.wrap ((i:Int) - 1)=(i:Int) - 1:=wrap_i64 aa aa
  have hiT:i<(td R).length:=aa
  clear hs hle
  (repeat((first|refine ah rfl rfl ?_|refine aC Q6 ?_|refine aC FA ?_|rw[t1]|rw[hg]|rw[e1]|rw[e2]|rw[e3]);conv=>whnf))
  exact⟨i - F,fun k=>k,[0,1,5,6],[],aa,aF,i,rfl,aa,aa,by rw[hB];rfl,rfl⟩
 ·have t1:decide ((j:Int) - 1≥(F:Int))=false:=decide_eq_false aa
  have e:R/10000^F=R/10000^j:=by
   rcases hjF with h|h
   ·rw[show j=F by omega]
   ·rw[h,Nat.div_eq_of_lt (eN R),Nat.div_eq_of_lt (gF aa)]
  rw[e]
  (repeat(first|(refine ag rfl rfl ?_;conv=>whnf)|(rw[t1];conv=>whnf)));exact Q4
theorem GL (L:List Int) (R F:Nat) (hL:L.take (td R).length=td R) (O7:(td R).length≤L.length) (hR:(td R).length<1099511627776) (hF:F<1099511627776) (hb:R/10000^F<100000000000000000) (K:Nat) (wr:Bool):
  af Tryz.prog 356 [.aK K 1 0 (td R).length,.val (.int .i64 (F:Nat))] [(K,⟨3,wr,.ints .i64 L⟩)] (.val (.int .i64 ((R/10000^F:Nat):Int))) [] []:=by
 have e0:IntKind.i64.wrap (((td R).length:Int) - 1)=((td R).length:Int) - 1:=wrap_i64 aa aa
 have hLg:∀i,i<(td R).length→L.getD i 0=((R/10000^i % 10000:Nat):Int):=fun i hi=>by rw[←yI,←hL,getD_take,if_pos hi]
 refine af.rL ?_
 refine gw (Z:=[]) aM bB Tryz.func356 rfl aF (args:=[.aK 1001 1 0 (td R).length,.val (.int .i64 (F:Nat))]) (fk:=[(1001,⟨3,false,.ints .i64 L⟩)]) (c:=.val (.int .i64 ((R/10000^F:Nat):Int))) (new:=[]) (upd:=[]) (bV.of rfl rfl rfl rfl rfl rfl rfl rfl rfl rfl rfl) rfl (fun _=>K) (bh.ro rfl) ?_
 intro W0 w0 ρ0 hE
 conv=>whnf
 (repeat(first|(rw[e0];conv=>whnf)))
 refine az hE (fun k=>k) [0,1,5,6] [1001] (fun q fr hp=>∃j:Nat,q=j - F∧j≤(td R).length∧(F≤j∨j=(td R).length)∧fr=[(0,.aK 1001 1 0 (td R).length),(1,.val (.int .i64 (F:Nat))),(5,.val (.int .i64 ((R/10000^j:Nat):Int))),(6,.val (.int .i64 ((j:Int) - 1)))]∧hp=[(1001,⟨3,false,.ints .i64 L⟩)]) ((td R).length - F) ?_ ?_ ?_
 ·kernel_rfl
 ·exact⟨(td R).length,rfl,Nat.le_refl _,.inr rfl,by rw[Nat.div_eq_of_lt (eN R)];rfl,rfl⟩
 rintro q _ _ ⟨j,rfl,hj,hjF,rfl,rfl⟩
 conv=>whnf
 by_cases hgo:F<j
 ·obtain⟨i,rfl⟩:∃i,j=i+1:=⟨j - 1,aa⟩
  have ei:(((i+1:Nat):Int) - 1)=(i:Int):=aa
  rw[ei]
  have hs:=nV R i
  have hle:R/10000^i≤R/10000^F:=Nat.div_le_div_left (Nat.pow_le_pow_right aH aa) (Nat.pow_pos aH)
  have hg:=hLg i aa
  have t1:decide ((i:Int)≥(F:Int))=true:=decide_eq_true aa
  generalize hA:R/10000^(i+1)=A at*
  generalize hB:R/10000^i=B at*
  have e1:IntKind.i64.wrap (10000*(A:Int))=10000*(A:Int):=wrap_i64 aa aa
  have e2:IntKind.i64.wrap (10000*(A:Int)+((B % 10000:Nat):Int))=(B:Int):=by rw[wrap_i64 aa aa];omega
  have e3:IntKind.i64.wrap ((i:Int) - 1)=(i:Int) - 1:=wrap_i64 aa aa
  have hiT:i<(td R).length:=aa
  clear hs hle
  (repeat((first|refine ah rfl rfl ?_|refine bg Q3 ?_|refine av Q3 ?_|rw[t1]|rw[hg]|rw[e1]|rw[e2]|rw[e3]|rw[Int.toNat_natCast]|rw[Nat.zero_add]);conv=>whnf))
  exact⟨i - F,fun k=>k,[0,1,5,6],[1001],aa,aF,i,rfl,aa,aa,by rw[hB];rfl,rfl⟩
 ·have t1:decide ((j:Int) - 1≥(F:Int))=false:=decide_eq_false aa
  have e:R/10000^F=R/10000^j:=by
   rcases hjF with h|h
   ·rw[show j=F by omega]
   ·rw[h,Nat.div_eq_of_lt (eN R),Nat.div_eq_of_lt (gF aa)]
  rw[e]
  (repeat(first|(refine ag rfl rfl ?_;conv=>whnf)|(rw[t1];conv=>whnf)))
  exact⟨aq.refl _,(fun _ _ h=>by cases h),(fun _ _ h=>by cases h)⟩
section
variable {a b R d P F T lb:Nat}
theorem Nj {R b P T:Nat} (hb:0<b) (hP:0<P) (hT:b<(T+1)*P):R/P/(T+1)≤R/b:=by
 rw[Nat.le_div_iff_mul_le hb]
 have h1:R/P/(T+1)*(T+1)≤R/P:=Nat.div_mul_le_self _ _
 have h2:R/P*P≤R:=Nat.div_mul_le_self _ _
 have h3:R/P/(T+1)*b≤R/P/(T+1)*((T+1)*P):=Nat.mul_le_mul_left _ (Nat.le_of_lt hT)
 have h4:R/P/(T+1)*(T+1)*P≤R/P*P:=Nat.mul_le_mul_right P h1
 rw[Nat.mul_assoc]at h4
 omega
theorem Nk {R b P T:Nat} (hT0:0<T) (hP:0<P) (hT:T*P≤b):R/b≤R/P/T:=by
 rw[Nat.le_div_iff_mul_le hT0,Nat.le_div_iff_mul_le hP]
 have h1:R/b*b≤R:=Nat.div_mul_le_self _ _
 have h2:R/b*(T*P)≤R/b*b:=Nat.mul_le_mul_left _ hT
 rw[Nat.mul_assoc]
 omega
end
theorem Nl {A b d:Nat} (hb:0<b):(10000*A+d)/b=10000*(A/b)+(A % b*10000+d)/b:=by
 have h:10000*A+d=A % b*10000+d+b*(10000*(A/b)):=by
  have:=Nat.div_add_mod A b
  have e:b*(10000*(A/b))=10000*(b*(A/b)):=by rw[←Nat.mul_assoc,Nat.mul_comm b 10000,Nat.mul_assoc]
  omega
 rw[h,Nat.add_mul_div_left _ _ hb];omega
theorem Nn {A b d:Nat}:(10000*A+d) % b=(A % b*10000+d) % b:=by
 have h:10000*A+d=A % b*10000+d+b*(10000*(A/b)):=by
  have:=Nat.div_add_mod A b
  have e:b*(10000*(A/b))=10000*(b*(A/b)):=by rw[←Nat.mul_assoc,Nat.mul_comm b 10000,Nat.mul_assoc]
  omega
 rw[h,Nat.add_mul_mod_self_left]
theorem No {r b d:Nat} (hb:0<b) (hr:r<b) (hd:d<10000):(r*10000+d)/b<10000:=by
 rw[Nat.div_lt_iff_lt_mul hb]
 have:(r+1)*10000≤b*10000:=Nat.mul_le_mul_right _ hr
 rw[Nat.add_mul]at this
 rw[Nat.mul_comm 10000 b];omega
theorem QY {b:Nat} (hb:0<b):0<b/10000^((td b).length - 3):=by
 refine Nat.div_pos (Nat.le_trans (Nat.pow_le_pow_right aH aa) (uG aa)) (Nat.pow_pos aH)
theorem abL {b:Nat}:b/10000^((td b).length - 3)<1000000000000:=by
 rw[Nat.div_lt_iff_lt_mul (Nat.pow_pos aH),show 1000000000000=10000^3 from rfl,←Nat.pow_add]
 exact gF aa
theorem QZ {d R:Nat} (hd:d<10000) (h:R*10000+d≠0):td (R*10000+d)=(d:Int)::td R:=by
 rw[pR h,show(R*10000+d) % 10000=d by omega,show(R*10000+d)/10000=R by omega]
theorem CC:∀(k n:Nat),(td n).drop k=td (n/10000^k)
 |0,n=>by simp
 |k+1,n=>by
  by_cases h:n=0
  ·subst h;rw[sO,Nat.zero_div];rfl
  ·rw[pR h,List.drop_succ_cons,CC k,Nat.div_div_eq_div_mul,Nat.pow_succ,Nat.mul_comm]
theorem Np {d R:Nat} (hd:d<10000):gH ((d:Int)::td R) ((td R).length+1)=(td (R*10000+d)).length∧((d:Int)::td R).take (td (R*10000+d)).length=td (R*10000+d):=by
 by_cases h:R*10000+d=0
 ·obtain rfl:R=0:=aa
  obtain rfl:d=0:=aa
  exact⟨rfl,rfl⟩
 ·have e:=QZ hd h
  have hl:(td (R*10000+d)).length=(td R).length+1:=by rw[e];rfl
  have ht:=(CA h).2
  rw[hl,e,Nat.add_sub_cancel]at ht
  refine⟨?_, ?_⟩
  ·rw[hl,gH,if_neg ht]
  ·rw[←e,List.take_length]
theorem EI {n:Nat} (h:n<9223372036854775808):IntKind.i64.wrap (n:Int)=n:=wrap_i64 aa aa
theorem Nq (a b:Nat) (hb:0<b) (ha:(td a).length<268435456) (hbl:(td b).length<268435456):af Tryz.prog 320 [nN a,nN b] [] (.cC [nN (a/b),nN (a % b)]) [] []:=by
 have k1:=Nh a b aa aa
 by_cases aI:a<b
 ·have t1:decide (((a:Int) - b).sign<0)=true:=decide_eq_true (by rw[Int.sign_eq_neg_one_of_neg aa];omega)
  have e0:nN (a/b)=ed 1 []:=by rw[Nat.div_eq_of_lt aI];rfl
  have e1:nN (a % b)=nN a:=by rw[Nat.mod_eq_of_lt aI]
  rw[e0,e1]
  refine qU [] Tryz.func320 ?_
  intro w0 ρ0 hE
  conv=>whnf
  (repeat(first|(refine ah rfl rfl ?_;conv=>whnf)|(refine a8 (by assumption) ?_;conv=>whnf)|(rw[t1];conv=>whnf)));(first|exact aq.refl _|exact ov.nx (aq.refl _) rfl|(refine ov.one rfl rfl ?_;skip)|(refine ov.cC ?_;(repeat(first|exact dM.bA rfl|exact nv.nil|refine nv.cons ?_ ?_|exact dM.V1))))
 have t1:decide (((a:Int) - b).sign<0)=false:=decide_eq_false Q26
 have hle:=fb (show b≤a by omega)
 have akA:0<(td b).length:=by have:=(fc (n:=b));omega
 have hT0:=QY hb
 have hT1:=abL (b:=b)
 have GH:0<10000^((td b).length - 3):=Nat.pow_pos aH
 have hTb:b/10000^((td b).length - 3)*10000^((td b).length - 3)≤b:=Nat.div_mul_le_self _ _
 have hbT:b<(b/10000^((td b).length - 3)+1)*10000^((td b).length - 3):=by rw[Nat.mul_comm];exact Nat.lt_mul_div_succ b GH
 have k2:=JK b ((td b).length - 3) aa aa aa
 generalize hF:(td b).length - 3=F at*
 generalize hT:b/10000^F=T at*
 have e1:IntKind.i64.wrap (((td b).length:Int) - 3)=((td b).length:Int) - 3:=wrap_i64 aa aa
 have e2:(if ((td b).length:Int) - 3>0 then((td b).length:Int) - 3 else 0)=(F:Int):=by split<;>omega
 generalize hD:(td a).length - (td b).length=D
 have e3:IntKind.i64.wrap (((td a).length:Int) - ((td b).length:Int))=(D:Int):=by rw[wrap_i64 aa aa];omega
 have e4:IntKind.i64.wrap ((D:Int)+1)=((D+1:Nat):Int):=by rw[wrap_i64 aa aa];omega
 have hA0:a/10000^(D+1)<b:=by
  have h1:=eN a
  have h2:=uG (n:=b) aa
  rw[Nat.div_lt_iff_lt_mul (Nat.pow_pos aH)]
  refine Nat.lt_of_lt_of_le h1 (Nat.le_trans (m:=10000^((td b).length - 1)*10000^(D+1)) ?_ (Nat.mul_le_mul_right _ h2))
  rw[←Nat.pow_add]
  exact Nat.pow_le_pow_right aH aa
 have afG:((td a).drop (D+1)).take ((td a).length - (D+1))=td (a/10000^(D+1)):=by
  rw[CC,List.take_of_length_le]
  rw[←CC,List.length_drop];omega
 have wb:=iP b
 refine qU [] Tryz.func320 ?_
 intro w0 ρ0 hE
 conv=>whnf
 have akB:(td (a/10000^(D+1))).length<1099511627776:=by have:=fb (Nat.div_le_self a (10000^(D+1)));omega
 generalize Pm:a/10000^(D+1)=R0 at*
 (repeat(first|(refine ag rfl rfl ?_;conv=>whnf)|(refine av Q3 ?_;conv=>whnf)|(refine a8 (by assumption) ?_;conv=>whnf)|(refine aC Q7 ?_;conv=>whnf)|(refine aC Q21 ?_;conv=>whnf)|(refine⟨.aK 40 1 0 (0+(td R0).length),[(35,⟨3,true,.ints .i64 []⟩)],[(40,⟨3,true,.ints .i64 (td R0)⟩)],[(35,⟨3,true,.dead⟩)],nU rfl rfl rfl (ak rfl) (ak rfl) (uI (td R0)) (aM.get (t:=77) rfl) rfl (aM.get (t:=77) rfl) rfl (aM.get (t:=3) rfl) (List.mem_cons_self ..) rfl rfl (by simp[fi]) (by simp) (by simp[fi]) (by simp[q9]) (by show(0+_)*V6.bytes≤_;simp only[V7];omega) aa,dD rfl,dx rfl,dQ (List.mem_cons_self ..) rfl rfl rfl, ?_⟩;conv=>whnf)|(rw[t1];conv=>whnf)|(rw[e1];conv=>whnf)|(rw[e2];conv=>whnf)|(rw[e3];conv=>whnf)|(rw[e4];conv=>whnf)|(rw[afG];conv=>whnf)|(rw[Int.toNat_natCast];conv=>whnf)|(rw[Nat.zero_add];conv=>whnf)))
 refine EH 10 40 (fun _ h=>h) rfl rfl (Nat.le_refl _) (List.take_length) ?_
 have e5:((D+1:Nat):Int) - 1=(D:Int):=aa
 refine cn hE (fun k=>k) [0,1,6,7,8,9,10] [34] (fun m fr hp=>∃Q:List Int,m≤D+1∧Q.length=D+1∧W4 Q∧(∀k,k<m→Q.getD k 0=0)∧a6 Q (D+1)=((a/10000^m/b:Nat):Int)*10000^m∧
  fr=[(0,nN a),(1,nN b),(6,.val (.int .i64 (F:Nat))),(7,.val (.int .i64 (T:Nat))),(8,.val (.int .i64 ((m:Int) - 1))),(9,.aK 34 1 0 (D+1)),(10,nN (a/10000^m % b))]∧hp=[(34,uH Q)]) (D+1) ?_ ?_ ?_
 ·kernel_rfl
 ·refine⟨List.replicate (D+1) 0,Nat.le_refl _,List.length_replicate,Ik (fun x hx=>by rw[(List.mem_replicate.1 hx).2];omega),(fun k _=>br), ?_, ?_,rfl⟩
  ·rw[lj (k:=0) (fun i _ _=>br) (Nat.zero_le _),Pm,Nat.div_eq_of_lt hA0];simp[a6]
  ·rw[e5,Pm,Nat.mod_eq_of_lt hA0];rfl
 rintro m _ _ ⟨Q,hm,hQl,hQw,hQ0,hQv,rfl,rfl⟩
 by_cases h0:m=0
 ·subst h0
  rw[Nat.pow_zero,Nat.div_one,Int.pow_zero,Int.mul_one]at hQv
  have hz:nN (a/10000^0 % b)=nN (a % b):=by rw[Nat.pow_zero,Nat.div_one]
  rw[hz]
  have t2:decide (((0:Nat):Int) - 1≥0)=false:=rfl
  have kt:=yJ Q aa hQw
  rw[show(a6 Q Q.length).toNat=a/b by rw[hQl,hQv];exact Int.toNat_natCast _]at kt
  refine mR 9 34 (fun _ h=>h) rfl rfl hQl.symm ?_
  refine dG.of hE ?_
  conv=>whnf
  (repeat(first|(refine ag rfl rfl ?_;conv=>whnf)|(refine a8 (by assumption) ?_;conv=>whnf)));exact Q4
 ·obtain⟨i,rfl⟩:∃i,m=i+1:=⟨m - 1,aa⟩
  have ei:(((i+1:Nat):Int) - 1)=(i:Int):=aa
  rw[ei]
  have lU:=nV a i
  have Q0:(td a).getD i 0=((a/10000^i % 10000:Nat):Int):=yI a i
  have afH:a/10000^i % 10000<10000:=Nat.mod_lt _ aH
  have hia:i<(td a).length:=aa
  have akC:=fb (Nat.le_trans (Nat.mod_le (a/10000^(i+1)) b) (Nat.div_le_self a _))
  have hq1:=hQv
  have ig:((a/10000^i/b:Nat):Int)=10000*((a/10000^(i+1)/b:Nat):Int)+(((a/10000^(i+1) % b*10000+a/10000^i % 10000)/b:Nat):Int):=by
   rw[lU,Nl hb]
   have:(10000*(a/10000^(i+1))+a/10000^i % 10000) % 10000=a/10000^i % 10000:=by rw[←lU]
   rw[this];omega
  have afI:a/10000^i % b=(a/10000^(i+1) % b*10000+a/10000^i % 10000) % b:=by
   have h:=Nn (A:=a/10000^(i+1)) (b:=b) (d:=a/10000^i % 10000)
   rw[←lU]at h;exact h
  have hRb:a/10000^(i+1) % b<b:=Nat.mod_lt _ hb
  clear lU
  generalize hd:a/10000^i % 10000=d at*
  generalize hR:a/10000^(i+1) % b=R at*
  obtain⟨VE,hc2⟩:=Np (R:=R) afH
  have akE:(td (R*10000+d)).length≤(td R).length+1:=eM (by have:=eN R;rw[Nat.pow_succ];omega)
  have akF:=No (d:=d) hb hRb afH
  have akG:(td (R*10000+d)).length≤(td b).length+1:=eM (by have:=eN b;rw[Nat.pow_succ];omega)
  have kt:=QX ((d:Int)::td R) (1+(td R).length) (by rw[List.length_cons];omega) (by rw[List.length_cons];omega) 51 true
  rw[Nat.add_comm 1,VE,Nat.add_comm]at kt
  have ahO:(R*10000+d)/10000^F<10000^4:=by
   rw[Nat.div_lt_iff_lt_mul (Nat.pow_pos aH),←Nat.pow_add]
   exact gF aa
  have kl:=GL ((d:Int)::td R) (R*10000+d) F hc2 (by rw[List.length_cons];omega) aa aa aa 51 true
  have glo:=Nj (R:=R*10000+d) hb GH hbT
  have ghi:=Nk (R:=R*10000+d) hT0 GH hTb
  have Nr:R*10000+d - b*((R*10000+d)/b)=a/10000^i % b:=by
   rw[afI];have:=Nat.div_add_mod (R*10000+d) b;omega
  have abM:b*((R*10000+d)/b)≤R*10000+d:=Nat.mul_div_le _ _
  have afJ:∀x,b*x≤R*10000+d↔x≤(R*10000+d)/b:=fun x=>by rw[Nat.le_div_iff_mul_le hb,Nat.mul_comm]
  generalize kC:R*10000+d=R' at*
  generalize Ra:R'/10000^F=fst at*
  generalize hqd:R'/b=qd at*
  have e6:IntKind.i64.wrap ((T:Int)+1)=((T+1:Nat):Int):=by rw[wrap_i64 aa aa];omega
  have e7:IntKind.i64.wrap ((fst:Int).tdiv ((T+1:Nat):Int))=((fst/(T+1):Nat):Int):=by
   rw[Int.tdiv_eq_ediv_of_nonneg aa,←Int.natCast_ediv]
   exact EI (Nat.lt_of_le_of_lt (Nat.div_le_self fst (T+1)) aa)
  have e8:IntKind.i64.wrap ((fst:Int).tdiv (T:Int))=((fst/T:Nat):Int):=by
   rw[Int.tdiv_eq_ediv_of_nonneg aa,←Int.natCast_ediv]
   exact EI (Nat.lt_of_le_of_lt (Nat.div_le_self fst T) aa)
  have e9:(if (9999:Int)<((fst/T:Nat):Int)then(9999:Int)else((fst/T:Nat):Int))=((min (fst/T) 9999:Nat):Int):=by split<;>omega
  have t2:decide ((i:Int)≥0)=true:=decide_eq_true aa
  have hRl:(td R).length<1099511627776:=aa
  refine dG.of hE ?_
  conv=>whnf
  (repeat(first|(refine ah rfl rfl ?_;conv=>whnf)|(refine aB aF ?_;conv=>whnf)|(refine dR Q3 ?_;conv=>whnf)|(refine ny (by assumption) rfl ?_;conv=>whnf)|(refine aC Q6 ?_;conv=>whnf)|(refine aC FA ?_;conv=>whnf)|(refine⟨.aK 51 1 0 (1+(td R).length),[(49,⟨3,true,.ints .i64 [(d:Int)]⟩)],[(51,⟨3,true,.ints .i64 ((d:Int)::td R)⟩)],[(49,⟨3,true,.dead⟩)],nU rfl rfl rfl (ak rfl) (ak rfl) (uI (td R)) (aM.get (t:=77) rfl) rfl (aM.get (t:=77) rfl) rfl (aM.get (t:=3) rfl) (List.mem_cons_self ..) rfl rfl (by simp[fi]) (by simp) (by simp[fi]) (by simp[q9]) (by show(1+_)*V6.bytes≤_;simp only[V7];omega) aa,dD rfl,dx rfl,dQ (List.mem_cons_self ..) rfl rfl rfl, ?_⟩;conv=>whnf)|(rw[t2];conv=>whnf)|(rw[Q0];conv=>whnf)|(rw[e6];conv=>whnf)|(rw[e7];conv=>whnf)|(rw[e8];conv=>whnf)|(rw[e9];conv=>whnf)))
  refine EH 10 51 (fun _ h=>h) rfl rfl (by rw[List.length_cons];omega) hc2 ?_
  have afK:fst/(T+1)≤qd:=glo
  have afL:qd≤min (fst/T) 9999:=aa
  have afM:min (fst/T) 9999≤9999:=Nat.min_le_right _ _
  clear kl kt VE hc2 glo ghi hbT hTb e9 e8 e7 e6 ahO
  generalize fst/(T+1)=lo0 at*
  generalize min (fst/T) 9999=hi0 at*
  refine az hE (fun k=>k) [0,1,6,7,8,9,10,12,13] [34] (fun q fr hp=>∃lo hi:Nat,q=hi - lo∧lo≤qd∧qd≤hi∧hi≤9999∧
   fr=[(0,nN a),(1,nN b),(6,.val (.int .i64 (F:Nat))),(7,.val (.int .i64 (T:Nat))),(8,.val (.int .i64 (i:Nat))),(9,.aK 34 1 0 (D+1)),(10,nN R'),(12,.val (.int .i64 (lo:Nat))),(13,.val (.int .i64 (hi:Nat)))]∧hp=[(34,uH Q)]) (hi0 - lo0) ?_ ?_ ?_
  ·kernel_rfl
  ·exact⟨lo0,hi0,rfl,afK,afL,afM,rfl,rfl⟩
  rintro q _ _ ⟨lo,hi,rfl,C0,C1,hhi2,rfl,rfl⟩
  conv=>whnf
  by_cases hl:lo<hi
  ·have t3:decide ((lo:Int)<(hi:Int))=true:=decide_eq_true aa
   have Pf:IntKind.i64.wrap ((lo:Int)+(hi:Int))=((lo+hi:Nat):Int):=by rw[wrap_i64 aa aa];omega
   have UB:IntKind.i64.wrap (((lo+hi:Nat):Int)+1)=((lo+hi+1:Nat):Int):=by rw[wrap_i64 aa aa];omega
   have e12:IntKind.i64.wrap (((lo+hi+1:Nat):Int).tdiv 2)=(((lo+hi+1)/2:Nat):Int):=by
    rw[Int.tdiv_eq_ediv_of_nonneg aa]
    exact wrap_i64 aa aa
   have akI:(((lo+hi+1:Nat):Int).tdiv 2)=(((lo+hi+1)/2:Nat):Int):=by rw[Int.tdiv_eq_ediv_of_nonneg aa];rfl
   have akJ:lo<(lo+hi+1)/2∧(lo+hi+1)/2≤hi:=aa
   generalize (lo+hi+1)/2=qj at*
   have e13:IntKind.u64.wrap (qj:Int)=(qj:Int):=wrap_u64 aa aa
   have hbm:(td (b*qj)).length≤(td b).length+1:=eM (by
    have h1:=eN b
    have h2:b*qj≤b*10000:=Nat.mul_le_mul_left _ aa
    rw[Nat.pow_succ];omega)
   have Pb:(td qj).length≤1:=eM aa
   have o1:=QV qj aa
   have o2:=EG b qj aa aa
   have o3:=Nh (b*qj) R' aa aa
   by_cases hc:b*qj≤R'
   ·have t4:decide ((((b*qj:Nat):Int) - R').sign≤0)=true:=decide_eq_true (by
     have:=Int.sign_nonpos_iff.2 (show((b*qj:Nat):Int) - R'≤0 by omega);omega)
    have:=(afJ qj).1 hc
    (repeat((first|refine ah rfl rfl ?_|refine dR Q3 ?_|refine a8 (by assumption) ?_|rw[t3]|rw[Pf]|rw[UB]|rw[e12]|rw[e13]|rw[t4]);conv=>whnf))
    exact⟨hi - qj,fun k=>k,[0,1,6,7,8,9,10,12,13],[34],aa,aF,qj,hi,rfl,this,C1,hhi2,rfl,rfl⟩
   ·have t4:decide ((((b*qj:Nat):Int) - R').sign≤0)=false:=decide_eq_false (by
     rw[Int.sign_eq_one_of_pos (show 0<((b*qj:Nat):Int) - R' by omega)];omega)
    have:¬qj≤qd:=fun h=>hc ((afJ qj).2 h)
    have e14:IntKind.i64.wrap ((qj:Int) - 1)=((qj - 1:Nat):Int):=by rw[wrap_i64 aa aa];omega
    (repeat((first|refine ah rfl rfl ?_|refine ag rfl rfl ?_|refine dR Q3 ?_|refine a8 (by assumption) ?_|rw[t3]|rw[Pf]|rw[UB]|rw[e12]|rw[e13]|rw[t4]|rw[e14]);conv=>whnf))
    exact⟨qj - 1 - lo,fun k=>k,[0,1,6,7,8,9,10,12,13],[34],aa,aF,lo,qj - 1,rfl,C0,aa,aa,rfl,rfl⟩
  ·have t3:decide ((lo:Int)<(hi:Int))=false:=decide_eq_false aa
   obtain rfl:lo=qd:=aa
   have e13:IntKind.u64.wrap (lo:Int)=(lo:Int):=wrap_u64 aa aa
   have e14:IntKind.i64.wrap ((i:Int) - 1)=(i:Int) - 1:=wrap_i64 aa aa
   have hbm:(td (b*lo)).length≤(td b).length+1:=eM (by
    have h1:=eN b
    have h2:b*lo≤b*10000:=Nat.mul_le_mul_left _ aa
    rw[Nat.pow_succ];omega)
   have Pb:(td lo).length≤1:=eM aa
   have o1:=QV lo aa
   have o2:=EG b lo aa aa
   have o3:=Il R' (b*lo) abM aa
   rw[Nr]at o3
   have hiQ:i<Q.length:=aa
   have hQs:(Q.set i (lo:Int)).length=D+1:=by rw[List.length_set];exact hQl
   have ahQ:=hQw.set (i:=i) (show(0:Int)≤lo by omega) aa
   have ahR:∀k,k<i→(Q.set i (lo:Int)).getD k 0=0:=fun k hk=>by rw[aQ,if_neg aa];exact hQ0 k aa
   have ahS:a6 (Q.set i (lo:Int)) (D+1)=((a/10000^i/b:Nat):Int)*10000^i:=by
    rw[yH aa hiQ,hQ0 i aa,hQv,ig,Int.pow_succ];grind
   (repeat((first|refine ag rfl rfl ?_|refine bg Q3 ?_|refine av Q3 ?_|refine a8 (by assumption) ?_|rw[t3]|rw[show 0+(i:Int).toNat=i from by omega]|rw[e13]|rw[e14]);conv=>whnf))
   exact⟨i,fun k=>k,[0,1,6,7,8,9,10],[34],aa,aF,Q.set i (lo:Int),aa,hQs,ahQ,ahR,ahS,rfl,rfl⟩
theorem kk {a b:Nat} (h:a≤b) {M:Nat} (hb:(td b).length<M):(td a).length<M:=Nat.lt_of_le_of_lt (fb h) hb
theorem afN (a b:Nat) (ha:(td a).length<268435456) (hb:(td b).length<268435456):af Tryz.prog 319 [nN a,nN b] [] (nN (Nat.gcd a b)) [] []:=by
 refine cj [] Tryz.func319 ?_
 intro W0 w0 ρ0 hE
 conv=>whnf
 skip
 refine az hE (fun k=>k) [0,1] [] (fun q fr hp=>∃x y:Nat,q=y∧Nat.gcd x y=Nat.gcd a b∧(td x).length<268435456∧(td y).length<268435456∧fr=[(0,nN x),(1,nN y)]∧hp=[]) b ?_ ?_ ?_
 ·kernel_rfl
 ·exact⟨a,b,rfl,rfl,ha,hb,rfl,rfl⟩
 rintro q _ _ ⟨x,y,rfl,hg,hx,hy,rfl,rfl⟩
 conv=>whnf
 by_cases h0:0<q
 ·have t1:decide (((td q).length:Int)>0)=true:=decide_eq_true (by have:=fc (n:=q);omega)
  have k1:=Nq x q h0 hx hy
  have aI:=Nat.mod_lt x h0
  (repeat((first|refine ah rfl rfl ?_|refine a8 (by assumption) ?_|refine aC Q7 ?_|rw[t1]);conv=>whnf))
  exact⟨x % q,fun k=>k,[0,1],[],aI,aF,q,x % q,rfl,by rw[←hg,Nat.gcd_comm x q,Nat.gcd_rec q x];exact Nat.gcd_comm _ _,hy,kk (Nat.le_of_lt aI) hy,rfl,rfl⟩
 ·obtain rfl:q=0:=aa
  rw[Nat.gcd_zero_right]at hg
  subst hg
  have t1:decide (((td 0).length:Int)>0)=false:=rfl
  (repeat(first|(refine ag rfl rfl ?_;conv=>whnf)|(refine aC Q7 ?_;conv=>whnf)));exact Q4
abbrev zZ (z:Int):SV:=.agg [.val (.bool (decide (z<0))),nN z.natAbs]
abbrev fF (q:Rat):SV:=.agg [zZ q.num,nN (q.den - 1)]
theorem yM {n M:Nat} (h:sz n≤M):(td n).length≤M:=eM (Nat.lt_of_lt_of_le (dV.1 h) (Nat.pow_le_pow_left aH M))
theorem Im (neg:Bool) (n:Nat) (hn:(td n).length<1099511627776):af Tryz.prog 248 [.val (.bool neg),nN n] [] (zZ (signed neg n)) [] []:=by
 refine cj [] Tryz.func248 ?_
 intro W0 w0 ρ0 hE
 conv=>whnf
 cases neg with
 |false=>
  have e:zZ (signed false n)= .agg [.val (.bool false),nN n]:=by
   have h:¬(signed false n<0):=by show ¬((n:Int)<0);omega
   rw[zZ,decide_eq_false h,gj]
  rw[e]
  (repeat(first|(refine ag rfl rfl ?_;conv=>whnf)|(refine aC ik ?_;conv=>whnf)))
  exact aq.refl _
 |true=>
  by_cases h0:0<n
  ·have t1:decide (((td n).length:Int)>0)=true:=decide_eq_true (by have:=fc (n:=n);omega)
   have e:zZ (signed true n)= .agg [.val (.bool true),nN n]:=by
    have h:signed true n<0:=by show -(n:Int)<0;omega
    rw[zZ,decide_eq_true h,gj]
   rw[e]
   (repeat((first|refine ah rfl rfl ?_|refine aC iT ?_|refine aC Q7 ?_|rw[t1]);conv=>whnf))
   exact aq.refl _
  ·obtain rfl:n=0:=aa
   have t1:decide (((td 0).length:Int)>0)=false:=rfl
   have e:zZ (signed true 0)= .agg [.val (.bool false),nN 0]:=rfl
   rw[e]
   (repeat((first|refine ah rfl rfl ?_|refine aC iT ?_|refine aC Q7 ?_|rw[t1]);conv=>whnf))
   exact aq.refl _
theorem ff {neg:Bool} {n:Nat} {z:Int} (hz:signed neg n=z) (hn:(td n).length<1099511627776):af Tryz.prog 248 [.val (.bool neg),nN n] [] (zZ z) [] []:=by
 rw[←hz];exact Im neg n hn
theorem Rb (z:Int) (hz:(td z.natAbs).length<1099511627776):af Tryz.prog 251 [zZ z] [] (.val (.int .i64 z.sign)) [] []:=by
 refine cj [1] Tryz.func251 ?_
 intro W0 w0 ρ0 hE
 conv=>whnf
 by_cases h0:z=0
 ·subst h0
  have t1:(((td (Int.natAbs 0)).length:Int)==0)=true:=rfl
  (repeat((first|refine ah rfl rfl ?_|refine aC Q7 ?_|refine aC Q6 ?_|refine aC Q9 ?_);conv=>whnf));exact Q4
 ·have t1:(((td z.natAbs).length:Int)==0)=false:=beq_false_of_ne (by have:=fc (n:=z.natAbs);omega)
  by_cases hn:z<0
  ·have t2:decide (z<0)=true:=decide_eq_true hn
   rw[Int.sign_eq_neg_one_of_neg hn]
   (repeat((first|refine ah rfl rfl ?_|refine ag rfl rfl ?_|refine aC Q7 ?_|refine aC Q6 ?_|refine aC Q9 ?_|rw[t1]|rw[t2]);conv=>whnf));exact Q4
  ·have t2:decide (z<0)=false:=decide_eq_false hn
   rw[Int.sign_eq_one_of_pos aa]
   (repeat((first|refine ag rfl rfl ?_|refine aC Q7 ?_|refine aC Q6 ?_|refine aC Q9 ?_|rw[t1]|rw[t2]);conv=>whnf));exact Q4
theorem abN (z:Int) (hz:(td z.natAbs).length<1099511627776):af Tryz.prog 333 [zZ z] [] (zZ (-z)) [] []:=by
 have k1:=ff (neg:= !decide (z<0)) (n:=z.natAbs) (z:= -z) (by by_cases h:z<0<;>simp[signed,h]<;>omega) hz
 refine cj [1] Tryz.func333 ?_
 intro W0 w0 ρ0 hE
 conv=>whnf
 (repeat(first|(refine a8 (by assumption) ?_;conv=>whnf)|(refine aC Q6 ?_;conv=>whnf)|(refine aC Q9 ?_;conv=>whnf)))
 exact aq.refl _
theorem abO (a b:Int) (ha:(td a.natAbs).length<536870912) (hb:(td b.natAbs).length<536870912):af Tryz.prog 242 [zZ a,zZ b] [] (zZ (a+b)) [] []:=by
 refine cj [2,3] Tryz.func242 ?_
 intro W0 w0 ρ0 hE
 conv=>whnf
 by_cases hs:a<0↔b<0
 ·have t1:(decide (a<0)==decide (b<0))=true:=by rw[decide_eq_decide.2 hs];exact beq_self_eq_true _
  have k1:=UX a.natAbs b.natAbs aa aa
  have hl:(td (a.natAbs+b.natAbs)).length<1099511627776:=by
   have h1:(td (a.natAbs+b.natAbs)).length≤max ((td a.natAbs).length) ((td b.natAbs).length)+1:=eM (by
    have h2:=gF (n:=a.natAbs) (k:=max ((td a.natAbs).length) ((td b.natAbs).length)) (Nat.le_max_left _ _)
    have h3:=gF (n:=b.natAbs) (k:=max ((td a.natAbs).length) ((td b.natAbs).length)) (Nat.le_max_right _ _)
    rw[Nat.pow_succ];omega)
   omega
  have k2:=ff (neg:=decide (a<0)) (n:=a.natAbs+b.natAbs) (z:=a+b) (by unfold signed;by_cases h:a<0<;>simp[h]<;>omega) hl
  (repeat((first|refine ah rfl rfl ?_|refine aB aF ?_|refine a8 (by assumption) ?_|refine aC Q6 ?_|refine aC Q9 ?_|rw[t1]);conv=>whnf))
  exact aq.refl _
 ·have t1:(decide (a<0)==decide (b<0))=false:=beq_false_of_ne (fun h=>hs (decide_eq_decide.1 h))
  have k1:=Nh a.natAbs b.natAbs aa aa
  by_cases Ap:b.natAbs≤a.natAbs
  ·have t2:decide (((a.natAbs:Int) - b.natAbs).sign≥0)=true:=decide_eq_true (by have:=Int.sign_nonneg_iff.2 (show 0≤(a.natAbs:Int) - b.natAbs by omega);omega)
   have k2:=Il a.natAbs b.natAbs Ap aa
   have k3:=ff (neg:=decide (a<0)) (n:=a.natAbs - b.natAbs) (z:=a+b) (by unfold signed;by_cases h:a<0<;>simp[h]<;>omega) (kk (Nat.sub_le _ b.natAbs) aa)
   (repeat((first|refine ah rfl rfl ?_|refine ag rfl rfl ?_|refine aB aF ?_|refine a8 (by assumption) ?_|refine aC Q6 ?_|refine aC Q9 ?_|rw[t1]|rw[t2]);conv=>whnf))
   exact aq.refl _
  ·have t2:decide (((a.natAbs:Int) - b.natAbs).sign≥0)=false:=decide_eq_false (by rw[Int.sign_eq_neg_one_of_neg (show(a.natAbs:Int) - b.natAbs<0 by omega)];omega)
   have k2:=Il b.natAbs a.natAbs aa aa
   have k3:=ff (neg:=decide (b<0)) (n:=b.natAbs - a.natAbs) (z:=a+b) (by unfold signed;by_cases h:b<0<;>simp[h]<;>omega) (kk (Nat.sub_le _ a.natAbs) aa)
   (repeat((first|refine ag rfl rfl ?_|refine aB aF ?_|refine a8 (by assumption) ?_|refine aC Q6 ?_|refine aC Q9 ?_|rw[t1]|rw[t2]);conv=>whnf))
   exact aq.refl _
theorem uJ {a b:Nat}:(td (a*b)).length≤(td a).length+(td b).length:=eM (by
 rcases Nat.eq_zero_or_pos b with h|h
 ·subst h;rw[Nat.mul_zero];exact Nat.pow_pos aH
 ·rw[Nat.pow_add]
  exact Nat.lt_of_lt_of_le (Nat.mul_lt_mul_of_pos_right (eN a) h) (Nat.mul_le_mul_left _ (Nat.le_of_lt (eN b))))
theorem GM (a b:Int) (ha:(td a.natAbs).length<134217728) (hb:(td b.natAbs).length<134217728):af Tryz.prog 243 [zZ a,zZ b] [] (zZ (a*b)) [] []:=by
 have k1:=EG a.natAbs b.natAbs aa aa
 have k2:=ff (xI a b) (Nat.lt_of_le_of_lt uJ aa)
 refine cj [2,3] Tryz.func243 ?_
 intro W0 w0 ρ0 hE
 conv=>whnf
 (repeat((first|refine aB aF ?_|refine a8 (by assumption) ?_|refine aC Q6 ?_|refine aC Q9 ?_);conv=>whnf))
 exact aq.refl _
theorem afO (n:Int) (h0: -9223372036854775808≤n) (h1:n<9223372036854775808):af Tryz.prog 247 [.val (.int .i64 n)] [] (zZ n) [] []:=by
 have k1:=QV n.natAbs aa
 have hl:(td n.natAbs).length<1099511627776:=Nat.lt_of_le_of_lt (eM (k:=5) aa) aH
 refine cj [] Tryz.func247 ?_
 intro W0 w0 ρ0 hE
 conv=>whnf
 by_cases hn:n<0
 ·have t1:decide (n<0)=true:=decide_eq_true hn
  have e1:IntKind.i64.wrap (n+1)=n+1:=wrap_i64 aa aa
  have e2:IntKind.i64.wrap (0 - (n+1))= -(n+1):=by rw[Int.zero_sub];exact wrap_i64 aa aa
  have e3:IntKind.u64.wrap (-(n+1))= -(n+1):=wrap_u64 aa aa
  have e4:IntKind.u64.wrap (-(n+1)+1)=(n.natAbs:Int):=by rw[wrap_u64 aa aa];omega
  have k2:=ff (neg:=true) (n:=n.natAbs) (z:=n) (by show -(n.natAbs:Int)=n;omega) hl
  have e:zZ n= .agg [.val (.bool true),nN n.natAbs]:=by rw[zZ,t1]
  rw[e]at*
  (repeat((first|refine ah rfl rfl ?_|refine a8 (by assumption) ?_|rw[t1]|rw[e1]|rw[e2]|rw[e3]|rw[e4]);conv=>whnf))
  exact aq.refl _
 ·have t1:decide (n<0)=false:=decide_eq_false hn
  have e1:IntKind.u64.wrap n=(n.natAbs:Int):=by rw[wrap_u64 aa aa];omega
  have k2:=ff (neg:=false) (n:=n.natAbs) (z:=n) (by show(n.natAbs:Int)=n;omega) hl
  have e:zZ n= .agg [.val (.bool false),nN n.natAbs]:=by rw[zZ,t1]
  rw[e]at*
  (repeat((first|refine ag rfl rfl ?_|refine a8 (by assumption) ?_|rw[t1]|rw[e1]);conv=>whnf))
  exact aq.refl _
theorem Ns:af Tryz.prog 322 [] [] (nN 1) [] []:=by
 have k1:=QV 1 aH
 refine cj [] Tryz.func322 ?_
 intro W0 w0 ρ0 hE
 conv=>whnf
 (repeat(first|(refine a8 (by assumption) ?_;conv=>whnf)));exact Q4
theorem qN (q:Rat) (h:(td q.den).length<134217728):af Tryz.prog 246 [fF q] [] (nN q.den) [] []:=by
 have k0:=Ns
 have k1:=UX (q.den - 1) 1 (Nat.lt_of_le_of_lt (fb (Nat.sub_le q.den 1)) aa) aH
 rw[xL]at k1
 refine cj [1] Tryz.func246 ?_
 intro W0 w0 ρ0 hE
 conv=>whnf
 (repeat((first|refine aB aF ?_|refine a8 (by assumption) ?_|refine aC Q6 ?_|refine aC Q9 ?_);conv=>whnf));exact Q4
theorem Nt (q:Rat) (h:(td q.den).length<134217728):af Tryz.prog 244 [fF q] [] (zZ q.den) [] []:=by
 have k0:=qN q h
 have k1:=ff (neg:=false) (n:=q.den) (z:=(q.den:Int)) rfl aa
 refine cj [1] Tryz.func244 ?_
 intro W0 w0 ρ0 hE
 conv=>whnf
 (repeat(first|(refine a8 (by assumption) ?_;conv=>whnf)|(refine aC Q6 ?_;conv=>whnf)))
 exact aq.refl _
theorem GN {n:Int} {d:Nat} (hd:d≠0):signed (decide (n<0)) (n.natAbs/Nat.gcd n.natAbs d)=(mkRat n d).num:=by
 rw[num_mkRat hd]
 have Ut:Nat.gcd n.natAbs d ∣ n.natAbs:=Nat.gcd_dvd_left _ _
 unfold signed
 by_cases hn:n<0
 ·rw[decide_eq_true hn,if_pos rfl]
  have:n= -(n.natAbs:Int):=aa
  rw[Int.natCast_ediv,←Int.neg_ediv_of_dvd (Int.natCast_dvd_natCast.2 Ut),←this]
 ·rw[decide_eq_false hn]
  simp only[Bool.false_eq_true,if_false]
  have:n=(n.natAbs:Int):=aa
  rw[Int.natCast_ediv,←this]
theorem wC (n:Int) (d:Nat) (hd:d≠0) (h1:(td n.natAbs).length<268435456) (h2:(td d).length<268435456):af Tryz.prog 241 [zZ n,nN d] [] (fF (mkRat n d)) [] []:=by
 have hg:Nat.gcd n.natAbs d≠0:=fun h=>hd (Nat.gcd_eq_zero_iff.1 h).2
 have hgl:(td (Nat.gcd n.natAbs d)).length<268435456:=kk (Nat.le_of_dvd aa (Nat.gcd_dvd_right _ _)) h2
 have hq:d/Nat.gcd n.natAbs d≠0:=Nat.div_ne_zero_iff.2 ⟨hg,Nat.le_of_dvd aa (Nat.gcd_dvd_right _ _)⟩
 have k1:=afN n.natAbs d h1 h2
 have k2:=Nq n.natAbs (Nat.gcd n.natAbs d) aa h1 hgl
 have k3:=Nq d (Nat.gcd n.natAbs d) aa h2 hgl
 have k4:=ff (GN (n:=n) hd) (kk (Nat.div_le_self _ _) aa)
 have k5:=Ns
 have k6:af Tryz.prog 321 [nN (d/Nat.gcd n.natAbs d),nN 1] [] (nN ((mkRat n d).den - 1)) [] []:=by
  rw[den_mkRat hd];exact Il (d/Nat.gcd n.natAbs d) 1 (Nat.pos_of_ne_zero hq) (kk (Nat.div_le_self _ _) aa)
 refine cj [2] Tryz.func241 ?_
 intro W0 w0 ρ0 hE
 conv=>whnf
 (repeat(first|(refine a8 (by assumption) ?_;conv=>whnf)|(refine aC Q6 ?_;conv=>whnf)|(refine aC Q9 ?_;conv=>whnf)))
 exact aq.refl _
theorem EJ {q:Rat} {M:Nat} (h:fs q≤M):(td q.num.natAbs).length≤M∧(td q.den).length≤M:=by
 have h1:=dz q;have h2:=dq q
 unfold fs at h
 exact⟨yM aa,yM aa⟩
theorem CD {n M:Nat} (h:sz n≤M):(td n).length≤M/13+1:=eM (Nat.lt_of_lt_of_le (dV.1 h) (Nat.le_trans (Nat.pow_le_pow_right aH (show M≤13*(M/13+1) by omega)) (by
 rw[Nat.pow_mul]
 exact Nat.pow_le_pow_left aH _)))
theorem CE {q:Rat} {M:Nat} (h:fs q≤M):(td q.num.natAbs).length≤M/13+1∧(td q.den).length≤M/13+1:=by
 have h1:=dz q;have h2:=dq q
 unfold fs at h
 exact⟨CD aa,CD aa⟩
theorem nW (n:Int) (h0: -9223372036854775808≤n) (h1:n<9223372036854775808):af Tryz.prog 145 [.val (.int .i64 n)] [] (fF (n:Rat)) [] []:=by
 have k1:=afO n h0 h1
 have e:fF (n:Rat)= .agg [zZ n,ed 1 []]:=by rw[fF];rfl
 rw[e]
 refine qU [] Tryz.func145 ?_
 intro w0 ρ0 hE
 conv=>whnf
 (repeat(first|(refine a8 (by assumption) ?_;conv=>whnf)));(first|exact aq.refl _|exact ov.nx (aq.refl _) rfl|(refine ov.one rfl rfl ?_;(repeat(first|exact dM.bA rfl|exact nv.nil|refine nv.cons ?_ ?_|exact dM.V1|refine dM.agg ?_)))|(refine ov.cC ?_;skip))
theorem wD (q:Rat) (h:(td q.num.natAbs).length<1099511627776):af Tryz.prog 152 [fF q] [] (.val (.int .i64 q.num.sign)) [] []:=by
 have k1:=Rb q.num h
 refine cj [1] Tryz.func152 ?_
 intro W0 w0 ρ0 hE
 conv=>whnf
 (repeat(first|(refine a8 (by assumption) ?_;conv=>whnf)|(refine aC Q6 ?_;conv=>whnf)|(refine aC Q9 ?_;conv=>whnf)));exact Q4
theorem abP (q:Rat) (h:(td q.num.natAbs).length<1099511627776):af Tryz.prog 267 [fF q] [] (fF (-q)) [] []:=by
 have k1:=abN q.num h
 have e:fF (-q)= .agg [zZ (-q.num),nN (q.den - 1)]:=by rw[fF,Rat.neg_num,Rat.neg_den]
 rw[e]
 refine cj [1] Tryz.func267 ?_
 intro W0 w0 ρ0 hE
 conv=>whnf
 (repeat((first|refine aB aF ?_|refine a8 (by assumption) ?_|refine aC Q6 ?_|refine aC Q9 ?_);conv=>whnf))
 exact aq.refl _
theorem pT (a b:Rat) (h:fs a+fs b≤1700000000):af Tryz.prog 143 [fF a,fF b] [] (fF (a+b)) [] []:=by
 obtain⟨a1,a2⟩:=CE (q:=a) (Nat.le_refl _)
 obtain⟨b1,b2⟩:=CE (q:=b) (Nat.le_refl _)
 have n1:=dz a;have n2:=dq a;have n3:=dz b;have n4:=dq b
 have m1:=uJ (a:=a.num.natAbs) (b:=b.den)
 have m2:=uJ (a:=b.num.natAbs) (b:=a.den)
 have m3:=uJ (a:=a.den) (b:=b.den)
 have k1:=Nt b aa
 have k2:=Nt a aa
 have k3:=GM a.num b.den aa Q24
 have k4:=GM b.num a.den aa Q24
 have k5:=abO (a.num*b.den) (b.num*a.den) (by rw[Int.natAbs_mul,Int.natAbs_natCast];omega) (by rw[Int.natAbs_mul,Int.natAbs_natCast];omega)
 have k6:=qN a aa
 have k7:=qN b aa
 have k8:=EG a.den b.den aa aa
 have m4:(td (a.num*b.den+b.num*a.den).natAbs).length≤(fs a+fs b+1)/13+1:=CD (by
  have h1:=fD a.num.natAbs b.den
  have h2:=fD b.num.natAbs a.den
  unfold fs
  refine Nat.le_trans (eJ (Int.natAbs_add_le _ _)) (Nat.le_trans (xy (k:=qW a+qW b) ?_ ?_) aa)
  ·rw[Int.natAbs_mul,Int.natAbs_natCast];omega
  ·rw[Int.natAbs_mul,Int.natAbs_natCast];omega)
 have k9:=wC (a.num*b.den+b.num*a.den) (a.den*b.den) (Nat.mul_ne_zero a.den_nz b.den_nz) aa aa
 rw[←Rat.add_def']at k9
 clear m1 m2 m3 m4 n1 n2 n3 n4
 refine cj [2,3] Tryz.func143 ?_
 intro W0 w0 ρ0 hE
 conv=>whnf
 (repeat((first|refine aB aF ?_|refine a8 (by assumption) ?_|refine aC Q6 ?_|refine aC Q9 ?_);conv=>whnf))
 exact aq.refl _
theorem Nu (a b:Rat) (h:fs a+fs b≤100000000):af Tryz.prog 143 [fF a,fF b] [] (fF (a+b)) [] []:=pT a b aa
theorem wE (a b:Rat) (h:fs a+fs b≤1700000000):af Tryz.prog 144 [fF a,fF b] [] (fF (a*b)) [] []:=by
 obtain⟨a1,a2⟩:=CE (q:=a) (Nat.le_refl _)
 obtain⟨b1,b2⟩:=CE (q:=b) (Nat.le_refl _)
 have m1:=uJ (a:=a.num.natAbs) (b:=b.num.natAbs)
 have m3:=uJ (a:=a.den) (b:=b.den)
 have k3:=GM a.num b.num aa aa
 have k6:=qN a aa
 have k7:=qN b aa
 have k8:=EG a.den b.den aa aa
 have k9:=wC (a.num*b.num) (a.den*b.den) (Nat.mul_ne_zero a.den_nz b.den_nz) (by rw[Int.natAbs_mul];omega) aa
 rw[←Rat.mul_def']at k9
 clear m1 m3
 refine cj [2,3] Tryz.func144 ?_
 intro W0 w0 ρ0 hE
 conv=>whnf
 (repeat((first|refine aB aF ?_|refine a8 (by assumption) ?_|refine aC Q6 ?_|refine aC Q9 ?_);conv=>whnf))
 exact aq.refl _
theorem Nv (a b:Rat) (h:fs a+fs b≤100000000):af Tryz.prog 144 [fF a,fF b] [] (fF (a*b)) [] []:=wE a b aa
theorem GO (a b:Rat) (hb:b≠0) (h:fs a+fs b≤100000000):af Tryz.prog 147 [fF a,fF b] [] (fF (a/b)) [] []:=by
 have hn:b.num≠0:=fun h=>hb (Rat.num_eq_zero.1 h)
 obtain⟨b1,b2⟩:=EJ (q:=b) (Nat.le_refl _)
 have k1:=wD b aa
 have t1:(b.num.sign==0)=false:=beq_false_of_ne (fun h=>hn (Int.sign_eq_zero_iff_zero.1 h))
 have k2:=qN b aa
 have k3:=Im (decide (b.num<0)) b.den aa
 have e1:decide (b.num<0)=decide (b.num.sign<0):=decide_eq_decide.2 Int.sign_neg_iff.symm
 have k4:=wC (signed (decide (b.num<0)) b.den) b.num.natAbs aa (by rw[gj];omega) aa
 rw[e1,Ar hn,←e1]at k4
 have k5:=Nv a b⁻¹ (by have:=LY b;omega)
 rw[←Rat.div_def]at k5
 refine cj [2,3] Tryz.func147 ?_
 intro W0 w0 ρ0 hE
 conv=>whnf
 (repeat((first|refine ag rfl rfl ?_|refine aB aF ?_|refine a8 (by assumption) ?_|refine aC Q6 ?_|refine aC Q9 ?_|rw[t1]);conv=>whnf))
 exact aq.refl _
theorem afP (n d:Int) (Pn: -9223372036854775808≤n) (Lf:n<9223372036854775808) (wX: -9223372036854775808≤d) (Pg:d<9223372036854775808) (hd:d≠0):af Tryz.prog 154 [.val (.int .i64 n),.val (.int .i64 d)] [] (fF ((n:Rat)/(d:Rat))) [] []:=by
 have k1:=nW n Pn Lf
 have k2:=nW d wX Pg
 have f1:=nI Pn Lf
 have f2:=nI wX Pg
 have k3:=GO (n:Rat) (d:Rat) (fun h=>hd (by have:=congrArg Rat.num h;simpa using this)) aa
 refine cj [] Tryz.func154 ?_
 intro W0 w0 ρ0 hE
 conv=>whnf
 (repeat(first|(refine a8 (by assumption) ?_;conv=>whnf)))
 exact aq.refl _
section
open Go.Shelf Go.RowKit Go.Sort Go.Lib
set_option maxHeartbeats 6400000 in
set_option maxRecDepth 100000 in
theorem Rc (u:Nat) (hu:100≤u) (hu64:u<18446744073709551616) (w:World) (htab:Lib.TabIs Tryz.prog w "internal/strconv.uint64pow10" .u64 Lib.pow10Tab):
  Calls Tryz.prog 350 #[.int .u64 u,.int .i64 10] w fun e w'=>e= .returned (.string ⟨(Lib.decDigits u).toArray⟩)∧∃k os,w'=grow (w.drewN k) os:=by
 have mixed:Tryz.prog.follows .mixedOrders=true:=aF
 have t3:=Tryz.underlying3;have a3:=Tryz.isAgg3;have z3:=Tryz.sizeOf3;have v3:=Tryz.zeroValue3
 have t9:=Tryz.underlying9;have a9:=Tryz.isAgg9;have z9:=Tryz.sizeOf9;have v9:=Tryz.zeroValue9
 have t4:=Tryz.underlying4;have a4:=Tryz.isAgg4;have z4:=Tryz.sizeOf4;have v4:=Tryz.zeroValue4
 have t53:=Tryz.underlying44;have a53:=Tryz.isAgg44;have z53:=Tryz.sizeOf44;have v53:=Tryz.zeroValue44
 have t5:=Tryz.underlying5;have a5:=Tryz.isAgg5;have z5:=Tryz.sizeOf5;have v5:=Tryz.zeroValue5
 have t37:=Tryz.underlying61;have a37:=Tryz.isAgg61;have z37:=Tryz.sizeOf61;have v37:=Tryz.zeroValue61
 have t171:=Tryz.underlying403;have a171:=Tryz.isAgg403;have z171:=Tryz.sizeOf403;have v171:=Tryz.zeroValue403
 have t0:=Tryz.underlying0;have a0:=Tryz.isAgg0;have z0:=Tryz.sizeOf0;have v0:=Tryz.zeroValue0
 have akN:∀args w,(callFunc 366 args).run Tryz.prog w= .ok (.enter 366 args) w:=enters_of Tryz.func366 aF rfl
 have akO:∀args w,(callFunc 367 args).run Tryz.prog w= .ok (.enter 367 args) w:=enters_of Tryz.func367 aF rfl
 have hu1:1≤u:=aa
 have ajk:Lib.nDigits u≤20:=by have:=Lib.numDigits_eq u hu1 hu64;split at this<;>omega
 have Kg:Tryz.prog.arrayLen 403=24:=by simp[Program.arrayLen,t171]
 have hsl:∀W,(Instr.sliceAt 403 (.pointer (some ⟨w.heap.size,0,none⟩)) none (some (.int .i64 (Lib.nDigits u:Int))) none).run Tryz.prog W= .ok (.slice (some ⟨w.heap.size,0,none⟩) (Lib.nDigits u) 24) W:=fun W=>by
  rw[run_sliceAt_array_h W 403 ⟨w.heap.size,0,none⟩ (by simp[Program.arrayLen,Program.elem,t171]) .i64 (Lib.nDigits u:Int) aa (by rw[Kg];omega)]
  go_simp
 have hH0:=Lib.holds_zero0 w 403 (Lib.nDigits u) aa
 have afQ:=Tryz.internal_strconv_formatBase10 w.heap.size 0 24 u (Array.replicate (Lib.nDigits u) 0) (w.alloc (.cells Lib.zeros24 403)) hH0 (by rw[Array.size_replicate];exact Lib.lt_pow_nDigits u) hu64 (by rw[Array.size_replicate];omega)
 rw[Array.size_replicate]at afQ
 have HH0:=Lib.hid hH0
 have iu:¬(u:Int)<100:=aa
 clear hH0 Kg
 go_enter Tryz.func350,Tryz.ntmps350
 go_wp2_with (first
  |(go_at_fn 366;refine(Tryz.internal_strconv_numDigits u hu1 hu64 _ (Lib.tabIs_alloc htab _)).mono ?_;rintro e w' ⟨rfl,rfl⟩))
 go_at_fn 367
 refine afQ.mono ?_
 rintro e w' ⟨rfl,k,v',dk,rfl,hF⟩
 have hcv:(convert 61 9 (.slice (some ⟨w.heap.size,0,none⟩) (Lib.nDigits u) 24)).run Tryz.prog ((putRow (fun(b:UInt8)=>Value.int .u8 (b.toNat:Int)) (w.alloc (.cells Lib.zeros24 403)) w.heap.size 0 dk).drewN k)= .ok (.string ⟨(Lib.decDigits u).toArray⟩) ((putRow (fun(b:UInt8)=>Value.int .u8 (b.toNat:Int)) (w.alloc (.cells Lib.zeros24 403)) w.heap.size 0 dk).drewN k):=by
  have h:=run_convert_bytes_back (P:=Tryz.prog) ((putRow (fun(b:UInt8)=>Value.int .u8 (b.toNat:Int)) (w.alloc (.cells Lib.zeros24 403)) w.heap.size 0 dk).drewN k) 61 9 5 ⟨w.heap.size,0,none⟩ 24 (Lib.decDigits u) t37 t5 t9 (fun j hj=>by
   rw[Lib.row_is_numeral hF j hj,Lib.add_plain,World.cell?_drewN]
   exact cell?_putRow (fun(b:UInt8)=>Value.int .u8 (b.toNat:Int)) _ w.heap.size 0 _ dk HH0.out (by rw[hF.size,Array.size_replicate]) j (by rw[hF.size];rw[Lib.decDigits_length]at hj;exact hj))
  rw[Lib.decDigits_length]at h
  exact h
 go_wp2
 go_ret
 obtain⟨os,eo⟩:=Lib.fin_at w (.cells Lib.zeros24 403) dk k 0
 exact⟨rfl,k,os,eo⟩
end
def fQ:Nat→Nat→List UInt8
 |0,_=>[]
 |k+1,r=>fQ k (r/10)++[UInt8.ofNat (48+r % 10)]
theorem wF {n:Nat} (h:10≤n):Lib.decDigits n=Lib.decDigits (n/10)++[UInt8.ofNat (48+n % 10)]:=by rw[Lib.decDigits,dif_neg aa]
theorem dec_lt {n:Nat} (h:n<10):Lib.decDigits n=[UInt8.ofNat (48+n)]:=by rw[Lib.decDigits,dif_pos h]
theorem AX:∀k q r,0<q→r<10^k→Lib.decDigits (q*10^k+r)=Lib.decDigits q++fQ k r
 |0,q,r,hq,hr=>by
  obtain rfl:r=0:=by simp at hr;exact hr
  simp[fQ]
 |k+1,q,r,hq,hr=>by
  have hp:0<10^k:=Nat.pow_pos aH
  have e:q*10^(k+1)=10*(q*10^k):=by rw[Nat.pow_succ,←Nat.mul_assoc,Nat.mul_comm]
  have hqp:0<q*10^k:=Nat.mul_pos hq hp
  rw[Nat.pow_succ]at hr
  rw[wF aa,show(q*10^(k+1)+r)/10=q*10^k+r/10 by omega,show(q*10^(k+1)+r) % 10=r % 10 by omega,AX k q (r/10) hq aa,fQ,List.append_assoc]
theorem EK:∀k,fQ k 0=List.replicate k 48
 |0=>rfl
 |k+1=>by rw[fQ,Nat.zero_div,EK k,List.replicate_succ'];rfl
theorem CF:∀k r,r<10^k→0<k→fQ k r=List.replicate (k - (Lib.decDigits r).length) 48++Lib.decDigits r∧(Lib.decDigits r).length≤k
 |0,r,h,h0=>aa
 |k+1,r,h,_=>by
  by_cases h1:r<10
  ·rw[fQ,show r/10=0 by omega,EK,dec_lt h1,show r % 10=r by omega]
   exact⟨rfl,by simp⟩
  ·have hk:0<k:=by rcases Nat.eq_zero_or_pos k with g|g
                   ·subst g;simp at h;omega
                   ·exact g
   rw[Nat.pow_succ]at h
   obtain⟨h2,h3⟩:=CF k (r/10) aa hk
   have e:=wF (n:=r) aa
   rw[fQ,h2,e,List.length_append,List.append_assoc,List.length_singleton]
   exact⟨by rw[show k+1 - ((Lib.decDigits (r/10)).length+1)=k - (Lib.decDigits (r/10)).length by omega],aa⟩
theorem Rd {ρ:bI} {w:World} (h:∀b o,ρ.aT b=some o→w.heap[b]? =some o):Lib.TabIs Tryz.prog w "internal/strconv.uint64pow10" .u64 Lib.pow10Tab:=by
 obtain⟨o,h1,_,ty,fz,rfl⟩:=ρ.b7 2 .u64 Lib.pow10Tab Jl
 exact V3 (g:=2) aF (h _ _ h1)
theorem yN {f:FuncId} {vs:List Value} {v:Value} (hf:De Tryz.prog f) (hv:v.oneCell'=true) (h:∀w:World,Lib.TabIs Tryz.prog w "internal/strconv.uint64pow10" .u64 Lib.pow10Tab→Calls Tryz.prog f vs.toArray w fun e w'=>e= .returned v∧RowKit.Below w.heap.size w w'):af Tryz.prog f (vs.map .val) [] (.val v) [] []:=by
 refine .inl ⟨hf,fun ρ w z hz hp=> ?_⟩
 rw[xF hz]
 refine(h w (Rd hp.aT)).mono ?_
 rintro e w' ⟨rfl,hb⟩
 exact⟨v,ρ,rfl,.fH hb (bS hv)⟩
theorem Re (n:Nat) (h1:100≤n) (h2:n<18446744073709551616):af Tryz.prog 350 [.val (.int .u64 (n:Nat)),.val (.int .i64 10)] [] (.val (.string (tN n))) [] []:=
 yN (vs:=[.int .u64 (n:Nat),.int .i64 10]) ⟨Tryz.f350,Tryz.func350,rfl,aF⟩ rfl fun w ht=>by
  rw[og]
  refine(Rc n h1 h2 w ht).mono ?_
  rintro e w' ⟨rfl,k,os,rfl⟩
  exact⟨rfl,Lib.below_grow w.heap.size w (Nat.le_refl _) k os⟩
theorem JL (n:Nat) (h:n<18446744073709551616):af Tryz.prog 313 [.val (.int .u64 (n:Nat)),.val (.int .i64 10)] [] (.val (.string (tN n))) [] []:=by
 by_cases hs:n<100
 ·exact L5 n hs
 ·have k1:=Re n aa h
  refine cj [] Tryz.func313 ?_
  intro W0 w0 ρ0 hE
  conv=>whnf
  (repeat(first|(refine a8 (by assumption) ?_;conv=>whnf)));exact Q4
theorem abQ (n:Nat) (h:n<9223372036854775808):af Tryz.prog 316 [.val (.int .i64 (n:Nat))] [] (.val (.string (tN n))) [] []:=
 yN (vs:=[.int .i64 (n:Nat)]) ⟨Tryz.f316,Tryz.func316,rfl,aF⟩ rfl fun w ht=>by
  rw[og]
  refine(Tryz.strconv_Itoa n aa aa w ht).mono ?_
  rintro e w' ⟨rfl,k,os,rfl⟩
  refine⟨?_,Lib.below_grow w.heap.size w (Nat.le_refl _) k os⟩
  rw[Lib.itoa_nonneg]
theorem Nw (c:Nat) (hc:c≤100):af Tryz.prog 317 [.val (.string ⟨#[48]⟩),.val (.int .i64 (c:Nat))] [] (.val (.string ⟨(List.replicate c 48).toArray⟩)) [] []:=
 Am (vs:=[.string ⟨#[48]⟩,.int .i64 (c:Nat)]) ⟨Tryz.f317,Tryz.func317,rfl,aF⟩ rfl fun w=>by
  have e:∀c,Lib.repeatL [48] c=List.replicate c 48:=fun c=>by
   induction c with
   |zero=>rfl
   |succ c ih=>show[48]++Lib.repeatL [48] c=_;rw[ih,List.replicate_succ,List.singleton_append]
  refine(Tryz.strings_Repeat ⟨#[48]⟩ c w aa (by show 1*c≤_;omega)).mono ?_
  rintro e' w' ⟨rfl,hb⟩
  exact⟨by rw[show(⟨#[48]⟩:ByteArray).data.toList=[48]from rfl,e],hb⟩
abbrev uK (ss:List ByteArray):aA:=⟨9,true,.seq 1 (ss.map xG)⟩
theorem Rf {a b:List ByteArray} {n:Nat} (ha:a.length=n) (hb:b.length=n) (h:∀i,i<n→a.getD i .empty=b.getD i .empty):a=b:=by
 refine List.ext_getElem (ha.trans hb.symm) fun i h1 h2=> ?_
 have:=h i aa
 rwa [List.getD_eq_getElem?_getD,List.getD_eq_getElem?_getD,List.getElem?_eq_getElem h1,List.getElem?_eq_getElem h2]at this
theorem Io {l:List ByteArray} {i j:Nat} {v:ByteArray} (hi:i<l.length):(l.set i v).getD j .empty=if i=j then v else l.getD j .empty:=by
 simp only[List.getD_eq_getElem?_getD,List.getElem?_set]
 by_cases h:i=j
 ·subst h;simp[hi]
 ·simp[h]
theorem Rg {l:List ByteArray} {n k:Nat} (hl:l.length=n) (hk:k<n):l.reverse.getD k .empty=l.getD (n - 1 - k) .empty:=by
 simp only[List.getD_eq_getElem?_getD]
 rw[List.getElem?_reverse aa,hl]
theorem JM (ss:List ByteArray) (n:Nat) (hn:ss.length=n) (hl:n<1099511627776) (K:Nat):af Tryz.prog 318 [.aK K 1 0 n] [(K,uK ss)] (.cC []) [] [(K,uK ss.reverse)]:=by
 have e0:IntKind.i64.wrap ((n:Int) - 1)=(n:Int) - 1:=wrap_i64 aa aa
 refine gw (Z:=[]) aM bB Tryz.func318 rfl aF (args:=[.aK 1001 1 0 n]) (fk:=[(1001,uK ss)]) (c:=.cC []) (new:=[]) (upd:=[(1001,uK ss.reverse)]) (bV.of rfl rfl rfl rfl rfl rfl rfl rfl rfl rfl rfl) rfl (fun _=>K) bh.upd ?_
 intro W0 w0 ρ0 hE
 conv=>whnf
 (repeat(first|(rw[e0];conv=>whnf)))
 refine az hE (fun k=>k) [0,2,3] [1001] (fun q fr hp=>∃(i:Nat) (ys:List ByteArray),q=n - i∧(2*i≤n)∧ys.length=n∧(∀k,k<n→ys.getD k .empty=if k<i∨n - i≤k then ss.getD (n - 1 - k) .empty else ss.getD k .empty)∧
  fr=[(0,.aK 1001 1 0 n),(2,.val (.int .i64 (i:Nat))),(3,.val (.int .i64 ((n:Int) - 1 - i)))]∧hp=[(1001,uK ys)]) n ?_ ?_ ?_
 ·kernel_rfl
 ·exact⟨0,ss,rfl,aa,hn,(fun k hk=>by rw[if_neg aa]),by rw[show(n:Int) - 1 - ((0:Nat):Int)=(n:Int) - 1 by omega];rfl,rfl⟩
 rintro q _ _ ⟨i,ys,rfl,hi,hy,hv,rfl,rfl⟩
 conv=>whnf
 by_cases hgo:i+i+1<n
 ·obtain⟨j,hj⟩:∃j,j=n - 1 - i:=⟨_,rfl⟩
  have ej:(n:Int) - 1 - i=(j:Int):=aa
  rw[ej]
  have t1:decide ((i:Int)<(j:Int))=true:=decide_eq_true aa
  have e1:=cp (i:=i) aa
  have e2:IntKind.i64.wrap ((j:Int) - 1)=(n:Int) - 1 - ((i+1:Nat):Int):=by rw[wrap_i64 aa aa];omega
  have g1:(ys.map xG).getD i .any= .val (.string (ys.getD i .empty)):=by rw[pG (d:=ByteArray.empty) aa];rfl
  have g2:(ys.map xG).getD j .any= .val (.string (ys.getD j .empty)):=by rw[pG (d:=ByteArray.empty) aa];rfl
  have g3:((ys.map xG).set i (.val (.string (ys.getD j .empty)))).getD j .any= .val (.string (ys.getD j .empty)):=by rw[←g2,List.getD_eq_getElem?_getD,List.getElem?_set_ne aa,←List.getD_eq_getElem?_getD]
  have hlm:(ys.map xG).length=n:=by rw[List.length_map];exact hy
  have rh:(((ys.set i (ys.getD j .empty)).set j (ys.getD i .empty)).map xG)=((ys.map xG).set i (.val (.string (ys.getD j .empty)))).set j (.val (.string (ys.getD i .empty))):=by rw[List.map_set,List.map_set];rfl
  have eO:∀k,k<n→((ys.set i (ys.getD j .empty)).set j (ys.getD i .empty)).getD k .empty=if k<i+1∨n - (i+1)≤k then ss.getD (n - 1 - k) .empty else ss.getD k .empty:=by
   intro k hk
   rw[Io (by rw[List.length_set];omega),Io aa]
   by_cases h1:j=k
   ·rw[if_pos h1,if_pos aa,hv i aa,if_neg aa,show n - 1 - k=i by omega]
   ·rw[if_neg h1]
    by_cases h2:i=k
    ·rw[if_pos h2,if_pos aa,hv j aa,if_neg aa,show n - 1 - k=j by omega]
    ·rw[if_neg h2,hv k hk]
     by_cases h3:k<i∨n - i≤k
     ·rw[if_pos h3,if_pos aa]
     ·rw[if_neg h3,if_neg aa]
  (repeat((first|refine ah rfl rfl ?_|refine aB aF ?_|refine And.intro Q5 ?_|rw[t1]|rw[show 0+(i:Int).toNat=i from by omega]|rw[show 0+(j:Int).toNat=j from by omega]|rw[g1]|rw[g2]|rw[g3]|rw[e1]|rw[e2]);conv=>whnf))
  refine⟨n - (i+1),fun k=>k,[0,2,3],[1001],aa,aF,i+1,_,rfl,aa, ?_,eO,rfl, ?_⟩
  ·rw[List.length_set,List.length_set];exact hy
  ·rw[uK,rh];rfl
 ·have t1:decide ((i:Int)<(n:Int) - 1 - i)=false:=decide_eq_false aa
  have e:ys=ss.reverse:=Rf hy (by rw[List.length_reverse];exact hn) fun k hk=>by
   rw[hv k hk,Rg hn hk]
   split
   ·rfl
   ·rw[show n - 1 - k=k by omega]
  rw[e]
  (repeat(first|(refine ag rfl rfl ?_;conv=>whnf)|(rw[t1];conv=>whnf)))
  exact⟨aq.refl _,(fun _ _ h=>by cases h),fun k b hm=>by simp only[List.mem_singleton,Prod.mk.injEq]at hm;obtain⟨rfl,rfl⟩:=hm;rfl⟩
theorem GP {P:Program} {f:FuncId} {ss:List ByteArray} {n:Nat} {sep:ByteArray} {v:Value} {ty:TypeId} (hn:ss.length=n) (hf:De P f) (hv:v.oneCell'=true)
  (h0:ss=[]→∀(a:Option Addr) (w:World),Calls P f #[.slice a 0 0,.string sep] w fun e w'=>e= .returned v∧w'=w)
  (h:∀(bk o c:Nat) (w:World),(∀(j:Nat) x,ss[j]? =some x→w.cell? ⟨bk,o+j,none⟩=some (.string x))→bk<w.heap.size→ss.length≤c→Calls P f #[.slice (some ⟨bk,o,none⟩) ss.length c,.string sep] w fun e w'=>e= .returned v∧RowKit.Below w.heap.size w w') (K:Nat):
  af P f [.aK K 1 0 n,.val (.string sep)] [(K,⟨ty,true,.seq 1 (ss.map xG)⟩)] (.val v) [] []:=by
 subst hn
 refine .inl ⟨hf,fun ρ w z hz hp=> ?_⟩
 simp only[au]at hz
 obtain⟨x,_,rfl,hx,y,_,rfl,hy,rfl⟩:=hz
 simp only[aG]at hy
 obtain⟨rfl,_⟩:=hy
 have fin:∀(a:Value),(Calls P f #[a,.string sep] w fun e w'=>e= .returned v∧RowKit.Below w.heap.size w w')→Calls P f (List.zipWith ct [.aK K 1 0 ss.length,SV.val (.string sep)] [[a],[.string sep]]).toArray w fun e w'=>∃v' ρ',e= .returned v'∧jb ρ w (.val v) [] [] v' ρ' w':=fun a hc=>by
  have e:(List.zipWith ct [.aK K 1 0 ss.length,SV.val (.string sep)] [[a],[.string sep]]).toArray= #[a,.string sep]:=by simp[ct,SV.aU]
  rw[e]
  refine hc.mono ?_
  rintro e w' ⟨rfl,hb⟩
  exact⟨v,ρ,rfl,.fH hb (bS hv)⟩
 obtain⟨z,hz,hcase⟩:=je (hp.mj K _ (List.mem_cons_self ..)) rfl rfl
 simp only[aG]at hx
 rcases hx with⟨b,t,cap,e1,e2,e3,rfl⟩|⟨hn,a,rfl⟩
 ·rcases hcase with⟨b',t',ex,h1,h2,h3,h4⟩|⟨h1,_⟩
  ·rw[e1]at h1
   cases h1
   have hzf:∀(l:List ByteArray) (z:List (List Value)),au (cE ρ.aT ρ.b7) (l.map xG) z→z.flatten=l.map .string:=by
    intro l
    induction l with
    |nil=>intro z hz;simp only[List.map_nil,au]at hz;subst hz;rfl
    |cons s l ih=>
     intro z hz
     simp only[List.map_cons,au,xG,aG]at hz
     obtain⟨x,r,rfl,⟨rfl,_⟩,h⟩:=hz
     simp[ih r h]
   refine fin _ ((h b 0 cap w (fun j x hj=> ?_) ?_ e2))
   ·rw[cell_of_row w b _ _ _ _ h2,List.getElem?_toArray,hzf ss z hz.2.1,Nat.zero_add]
    rw[List.getElem?_append_left (by rw[List.length_map];exact(List.getElem?_eq_some_iff.1 hj).1),List.getElem?_map,hj];rfl
   ·rcases Nat.lt_or_ge b w.heap.size with h'|h'
    ·exact h'
    ·simp[Array.getElem?_eq_none h']at h2
  ·rw[e1]at h1;cases h1
 ·refine fin _ ?_
  have hn:ss=[]:=List.length_eq_zero_iff.1 hn
  subst hn
  exact(h0 rfl a w).mono fun _ _ ⟨he,hw⟩=>⟨he,hw▸RowKit.Below.refl _ _⟩
theorem Rh (ss:List ByteArray) (n:Nat) (hn:ss.length=n) (sep:ByteArray) (hN:ss.length≤1099511627776) (hlen:(Lib.join (ss.map (·.data.toList)) sep.data.toList).length≤140737488355328) (K:Nat):
  af Tryz.prog 220 [.aK K 1 0 n,.val (.string sep)] [(K,uK ss)] (.val (.string ⟨(Lib.join (ss.map (·.data.toList)) sep.data.toList).toArray⟩)) [] []:=by
 refine GP hn ⟨Tryz.f220,Tryz.func220,rfl,aF⟩ rfl ?_ ?_ K
 ·rintro rfl a w
  exact Tryz.strings_Join_none a 0 sep w
 ·intro bk o c w hc hb hcap
  exact Tryz.strings_Join bk o c ss sep w hc hb aa hcap hlen
theorem CG:∀k n,n<2^k→(Lib.decDigits n).length≤k+1
 |0,n,h=>by
  obtain rfl:n=0:=by simp at h;exact h
  rw[dec_lt aH];simp
 |k+1,n,h=>by
  by_cases h1:n<10
  ·rw[dec_lt h1];simp
  ·rw[wF aa,List.length_append,List.length_singleton]
   have:=CG k (n/10) (by rw[Nat.pow_succ]at h;omega)
   omega
def cat (ss:List ByteArray):List UInt8:=(ss.map (·.data.toList)).flatten
theorem yO (l:List (List UInt8)):Lib.join l []=l.flatten:=by
 cases l with
 |nil=>rfl
 |cons x r=>rw[Lib.join_cons,Lib.joinTail];simp
theorem Nx {v m:Nat} (h:v<4294967296^m):gH (bE v m) m=(ae v).length∧(ae v).length≤m:=by
 have hlen:=cS v m
 have hv:=gB v m
 rw[Nat.mod_eq_of_lt h]at hv
 have hc:=rN (bE v m) m
 have hle:=BQ (bE v m) m
 have qy:=xC (bE v m) m
 have:=xD (gH (bE v m) m) (bE v m) (fO v m) aa qy
 rw[hc,hv,Int.toNat_natCast]at this
 have e:(ae v).length=gH (bE v m) m:=by rw[this,List.length_take];omega
 exact⟨e.symm,aa⟩
theorem Ri {v:Nat} (h:1000000000≤v):sz (v/1000000000)+29≤sz v:=by
 have h1:v<2^sz v:=dV.1 (Nat.le_refl _)
 have h2:29≤sz v:=by
  rcases Nat.lt_or_ge (sz v) 29 with g|g
  ·have:2^sz v≤2^29:=Nat.pow_le_pow_right aH aa
   omega
  ·exact g
 have h3:sz (v/1000000000)≤sz v - 29:=dV.2 (by
  rw[Nat.div_lt_iff_lt_mul aH]
  have e:2^sz v=2^(sz v - 29)*2^29:=by rw[←Nat.pow_add];congr 1;omega
  have:2^(sz v - 29)*2^29≤2^(sz v - 29)*1000000000:=Nat.mul_le_mul_left _ aH
  omega)
 omega
theorem Ny {r:Nat} (h:r<1000000000):(tN r).size≤9:=by
 rw[og]
 show(Lib.decDigits r).toArray.size≤9
 have:=(CF 9 r h aH).2
 simpa using this
theorem abR {r:Nat} (h:r<1000000000):((⟨(List.replicate (9 - (tN r).size) 48).toArray⟩:ByteArray)++tN r).data.toList=fQ 9 r:=by
 have hs:(tN r).size=(Lib.decDigits r).length:=by rw[og];show(Lib.decDigits r).toArray.size=_;simp
 rw[(CF 9 r h aH).1,hs,og,ByteArray.data_append]
 simp
theorem EL (ps:List ByteArray) (s:ByteArray):cat (ps++[s]).reverse=s.data.toList++cat ps.reverse:=by simp[cat]
theorem afR {n M:Nat} (h:sz n≤M):(ae n).length≤M:=gA (Nat.lt_of_lt_of_le (dV.1 h) (Nat.pow_le_pow_left aH M))
theorem abS (n:Nat) (h:¬n<18446744073709551616) (hs:sz n≤1073741824):af Tryz.prog 240 [.nat n] [] (.val (.string (tN n))) [] []:=by
 have hwl:(ae n).length<1099511627776:=Nat.lt_of_le_of_lt (afR hs) aH
 have k1:=gY n 3001 hwl
 have e2:((pX n).toList==(ByteArray.mk #[]).toList)=false:=by rw[de];exact decide_eq_false h
 have hwa:=cq n
 refine qU [] Tryz.func240 ?_
 intro w0 ρ0 hE
 conv=>whnf
 (repeat((first|refine ag rfl rfl ?_|refine oR (by assumption) rfl ?_|rw[e2]|rw[Nat.zero_add]);conv=>whnf))
 refine dU (t:=3) (k:=2002) (s:=1) (blk:=uK []) rfl rfl rfl ?_
 have hwn:=ey n
 refine az hE (fun k=>k) [3,4] [2002,3001] (fun q fr hp=>∃(v:Nat) (L:List Int) (ps:List ByteArray),q=v∧(ae v).length≤L.length∧L.length<1099511627776∧fv L∧ay L (ae v).length=(v:Int)∧((v≠0∧Lib.decDigits n=Lib.decDigits v++cat ps.reverse∧ps.length*29+sz v≤sz n)∨(v=0∧Lib.decDigits n=cat ps.reverse∧ps.length*29≤sz n+29))∧
  fr=[(3,.aK 2002 1 0 ps.length),(4,.aK 3001 1 0 (ae v).length)]∧hp=[(2002,uK ps),(3001,⟨23,true,.ints .u32 L⟩)]) n ?_ ?_ ?_
 ·kernel_rfl
 ·have hwA:(b8 n)=ae n:=by rw[b8,if_neg h]
  refine⟨n,b8 n,[],rfl,hwa,by rw[hwA];exact hwl,by rw[hwA];exact aX n,by rw[hwA];exact hwn,.inl ⟨aa, ?_,by simp⟩,rfl,rfl⟩
  simp[cat]
 rintro q _ _ ⟨v,L,ps,rfl,hL,O7,hLw,hLv,hrel,rfl,rfl⟩
 conv=>whnf
 have zg:ps.length<1099511627776:=by rcases hrel with⟨_,_,g⟩|⟨_,_,g⟩<;>omega
 by_cases h0:0<q
 ·obtain⟨_,zB,hlen⟩:=hrel.resolve_right aa
  clear hrel
  have hm:=mz (n:=q) aa
  have t1:decide (((ae q).length:Int)>0)=true:=decide_eq_true aa
  have hqm:q<4294967296^(ae q).length:=bY q
  have k2:=HA L (ae q).length hL aa hLw 1000000000 aH aH 3001 3002 aH true q hLv
  obtain⟨hcut,hcle⟩:=Nx (v:=q/1000000000) (m:=(ae q).length) (Nat.lt_of_le_of_lt (Nat.div_le_self _ _) hqm)
  have hdl:=cS (q/1000000000) (ae q).length
  have k3:=LF (bE (q/1000000000) (ae q).length) (ae q).length aa aa 3002 true
  rw[hcut]at k3
  have hr:q % 1000000000<1000000000:=Nat.mod_lt _ aH
  have k4:=abQ (q % 1000000000) aa
  have e1:IntKind.i64.wrap ((q % 1000000000:Nat):Int)=((q % 1000000000:Nat):Int):=wrap_i64 aa aa
  have fG:=Ny hr
  have hdw:fv (bE (q/1000000000) (ae q).length):=fO _ _
  have Ut:ay (bE (q/1000000000) (ae q).length) (ae (q/1000000000)).length=((q/1000000000:Nat):Int):=by
   have h1:=rN (bE (q/1000000000) (ae q).length) (ae q).length
   rw[hcut,gB,Nat.mod_eq_of_lt (Nat.lt_of_le_of_lt (Nat.div_le_self _ _) hqm)]at h1
   exact h1
  have hqv:q/1000000000*1000000000+q % 1000000000=q:=by have:=Nat.div_add_mod q 1000000000;omega
  by_cases hq:1000000000≤q
  ·have Lo:0<q/1000000000:=Nat.div_pos hq aH
   have hs9:=Ri hq
   have iw:=AX 9 (q/1000000000) (q % 1000000000) Lo hr
   rw[show 10^9=1000000000 from rfl,hqv,←abR hr]at iw
   have hm2:=mz (n:=q/1000000000) aa
   have t2:decide (((ae (q/1000000000)).length:Int)>0)=true:=decide_eq_true aa
   have e2:IntKind.i64.wrap (9 - ((tN (q % 1000000000)).size:Int))=((9 - (tN (q % 1000000000)).size:Nat):Int):=by rw[wrap_i64 aa aa];omega
   have k5:=Nw (9 - (tN (q % 1000000000)).size) aa
   have hrs:(⟨(List.replicate (9 - (tN (q % 1000000000)).size) 48).toArray⟩:ByteArray).size=9 - (tN (q % 1000000000)).size:=by show(List.replicate _ _).toArray.size=_;simp
   have jG:(⟨(List.replicate (9 - (tN (q % 1000000000)).size) 48).toArray⟩:ByteArray).size+(tN (q % 1000000000)).size≤9223372036854775807:=aa
   have Ge:Lib.decDigits n=Lib.decDigits (q/1000000000)++cat (ps++[(⟨(List.replicate (9 - (tN (q % 1000000000)).size) 48).toArray⟩:ByteArray)++tN (q % 1000000000)]).reverse:=by
    rw[zB,iw,EL,List.append_assoc]
   clear zB iw
   generalize (⟨(List.replicate (9 - (tN (q % 1000000000)).size) 48).toArray⟩:ByteArray)=z9 at*
   have hpm:(ps.map xG).length=ps.length:=List.length_map ..
   (repeat((first|refine ah rfl rfl ?_|refine And.intro Q5 ?_|refine a8 (by assumption) ?_|refine ny (by assumption) rfl ?_|refine Hn (by assumption) rfl rfl ?_|rw[t1]|rw[e1]|rw[t2]|rw[e2]);conv=>whnf))
   refine⟨q/1000000000,dc [(41,2002),(3002,3001)],[3,4],[41,3002],aa,aF,q/1000000000,_,ps++[z9++tN (q % 1000000000)],rfl,by rw[hdl];exact hcle,aa,hdw,Ut,.inl ⟨aa,Ge,by rw[List.length_append,List.length_singleton];omega⟩,by rw[List.length_append];rfl, ?_⟩
   have e9:uK (ps++[z9++tN (q % 1000000000)])=⟨9,true,.seq 1 (List.take ps.length (ps.map xG)++List.take 1 (List.drop 0 [SV.val (.string (z9++tN (q % 1000000000)))]))⟩:=by
    rw[uK,List.take_of_length_le aa,List.map_append];rfl
   rw[e9];rfl
  ·have Lo:q/1000000000=0:=Nat.div_eq_of_lt aa
   have t2:decide (((ae (q/1000000000)).length:Int)>0)=false:=by rw[Lo];rfl
   have aa3:q % 1000000000=q:=Nat.mod_eq_of_lt aa
   have Ge:Lib.decDigits n=cat (ps++[tN (q % 1000000000)]).reverse:=by
    rw[zB,EL,aa3,og]
   clear zB
   have hpm:(ps.map xG).length=ps.length:=List.length_map ..
   (repeat((first|refine ah rfl rfl ?_|refine ag rfl rfl ?_|refine And.intro Q5 ?_|refine a8 (by assumption) ?_|refine ny (by assumption) rfl ?_|refine Hn (by assumption) rfl rfl ?_|rw[t1]|rw[e1]|rw[t2]);conv=>whnf))
   refine⟨q/1000000000,dc [(41,2002),(3002,3001)],[3,4],[41,3002],aa,aF,q/1000000000,_,ps++[tN (q % 1000000000)],rfl,by rw[hdl];exact hcle,aa,hdw,Ut,.inr ⟨Lo,Ge,by rw[List.length_append,List.length_singleton];omega⟩,by rw[List.length_append];rfl, ?_⟩
   have e9:uK (ps++[tN (q % 1000000000)])=⟨9,true,.seq 1 (List.take ps.length (ps.map xG)++List.take 1 (List.drop 0 [SV.val (.string (tN (q % 1000000000)))]))⟩:=by
    rw[uK,List.take_of_length_le aa,List.map_append];rfl
   rw[e9];rfl
 ·obtain rfl:q=0:=aa
  obtain⟨_,zB,_⟩:=hrel.resolve_left (fun h=>h.1 rfl)
  have t1:decide (((ae 0).length:Int)>0)=false:=rfl
  have k2:=JM ps ps.length rfl aa 2002
  have hdl:(Lib.decDigits n).length≤140737488355328:=by
   exact Nat.le_trans (CG (sz n) n (dV.1 (Nat.le_refl _))) aa
  have k3:=Rh ps.reverse ps.length (by rw[List.length_reverse]) ⟨#[]⟩ (by rw[List.length_reverse];omega) (by
   rw[show(⟨#[]⟩:ByteArray).data.toList=[]from rfl,yO]
   show(cat ps.reverse).length≤_
   rw[←zB];exact hdl) 2002
  have e:(⟨(Lib.join (ps.reverse.map (·.data.toList)) (⟨#[]⟩:ByteArray).data.toList).toArray⟩:ByteArray)=tN n:=by
   rw[show(⟨#[]⟩:ByteArray).data.toList=[]from rfl,yO,og,zB];rfl
  rw[e]at k3
  (repeat(first|(refine ag rfl rfl ?_;conv=>whnf)|(refine ny (by assumption) rfl ?_;conv=>whnf)|(refine vh (by assumption) rfl rfl ?_;conv=>whnf)));exact Q4
theorem jw (n:Nat):(tN n).size≤sz n+1:=by
 rw[og]
 show(Lib.decDigits n).toArray.size≤_
 simpa using CG (sz n) n (dV.1 (Nat.le_refl _))
theorem Nz (n:Nat) (hs:sz n≤1073741824):af Tryz.prog 240 [.nat n] [] (.val (.string (tN n))) [] []:=by
 by_cases h:n<18446744073709551616
 ·have k1:=JL n h
  have e1:low n=(n:Int):=ca h
  have e2:((pX n).toList==(ByteArray.mk #[]).toList)=true:=by rw[de];exact decide_eq_true h
  refine cj [] Tryz.func240 ?_
  intro W0 w0 ρ0 hE
  conv=>whnf
  (repeat((first|refine ah rfl rfl ?_|refine a8 (by assumption) ?_|rw[e2]|rw[e1]);conv=>whnf));exact Q4
 ·exact abS n h hs
theorem abU (z:Int) (h:sz z.natAbs≤1073741824):af Tryz.prog 239 [.int z] [] (.val (.string (tZ z))) [] []:=by
 have k1:=Nz z.natAbs h
 have hs:=jw z.natAbs
 have h1:(ByteArray.mk #[45]).size=1:=rfl
 have h2:(ByteArray.mk #[45]).size+(tN z.natAbs).size≤9223372036854775807:=aa
 unfold tZ
 refine cj [] Tryz.func239 ?_
 intro W0 w0 ρ0 hE
 conv=>whnf
 by_cases hz:z<0
 ·have t1:decide (z<0)=true:=decide_eq_true hz
  rw[if_pos hz]
  (repeat((first|refine ah rfl rfl ?_|refine And.intro Q5 ?_|refine a8 (by assumption) ?_|rw[t1]);conv=>whnf));exact Q4
 ·have t1:decide (z<0)=false:=decide_eq_false hz
  rw[if_neg hz]
  (repeat(first|(refine ag rfl rfl ?_;conv=>whnf)|(refine a8 (by assumption) ?_;conv=>whnf)|(rw[t1];conv=>whnf)));exact Q4
theorem sR (z:Int):(tZ z).size≤sz z.natAbs+2:=by
 have hs:=jw z.natAbs
 unfold tZ
 split
 ·rw[ByteArray.size_append];have:("-".toUTF8).size=1:=rfl;omega
 ·omega
theorem CH (q:Rat) (h:fs q≤1073741824):af Tryz.prog 138 [.frac q] [] (.val (.string (tQ q))) [] []:=by
 have n1:=dz q
 have n2:=dq q
 unfold fs at h
 have kw:=rU q
 have k1:=abU q.num aa
 have k2:=Nz q.den aa
 have k3:=vj oW q aa
 have hs:=sR q.num
 have Km:=jw q.den
 have h1:(ByteArray.mk #[47]).size=1:=rfl
 have h2:(tZ q.num).size+(ByteArray.mk #[47]).size≤9223372036854775807:=aa
 have h3:(tZ q.num++(ByteArray.mk #[47])).size+(tN q.den).size≤9223372036854775807:=by rw[ByteArray.size_append];omega
 unfold tQ
 refine cj [] Tryz.func138 ?_
 intro W0 w0 ρ0 hE
 conv=>whnf
 by_cases hd:q.den=1
 ·rw[decide_eq_true hd]at kw
  rw[if_pos hd]
  (repeat(first|(refine ah rfl rfl ?_;conv=>whnf)|(refine a8 (by assumption) ?_;conv=>whnf)));exact Q4
 ·rw[decide_eq_false hd]at kw
  rw[if_neg hd]
  (repeat((first|refine ag rfl rfl ?_|refine aB aF ?_|refine And.intro Q5 ?_|refine a8 (by assumption) ?_);conv=>whnf));exact Q4
theorem Rj (q:Rat):(tQ q).size≤fs q+fs q+4:=by
 have n1:=dz q
 have n2:=dq q
 have hs:=sR q.num
 have Km:=jw q.den
 unfold fs
 unfold tQ
 split
 ·omega
 ·rw[ByteArray.size_append,ByteArray.size_append];have:("/".toUTF8).size=1:=rfl;omega
theorem AY:∀(l:List (List UInt8)) (B:Nat),(∀x∈l,x.length≤B)→(Lib.join l [32]).length≤l.length*(B+1)
 |[],B,_=>by simp[Lib.join_nil]
 |[x],B,h=>by rw[Lib.join_one];have:=h x (List.mem_cons_self ..);simp;omega
 |x::y::l,B,h=>by
  have ih:=AY (y::l) B (fun z hz=>h z (List.mem_cons_of_mem _ hz))
  have hx:=h x (List.mem_cons_self ..)
  have e:Lib.join (x::y::l) [32]=x++[32]++Lib.join (y::l) [32]:=by rw[Lib.join_cons,Lib.join_cons];simp[Lib.joinTail]
  rw[e]
  simp only[List.length_append,List.length_cons,List.length_nil]at*
  rw[Nat.succ_mul (l.length+1)]
  omega
theorem Rk {a:List Rat} {B:Nat} (hl:a.length≤2048) (h:∀i,i<a.length→fs (a.getD i 0)≤B) (hB:B≤1000000000):(Lib.join ((a.map tQ).map (·.data.toList)) [32]).length≤140737488355328:=by
 refine Nat.le_trans (AY _ (2*B+4) ?_) ?_
 ·intro x hx
  obtain⟨s,hs,rfl⟩:=List.mem_map.1 hx
  obtain⟨q,hq,rfl⟩:=List.mem_map.1 hs
  obtain⟨i,hi,rfl⟩:=xE hq 0
  have h1:=Rj (a.getD i 0)
  have h2:=h i hi
  show(tQ (a.getD i 0)).data.toList.length≤_
  have:(tQ (a.getD i 0)).data.toList.length=(tQ (a.getD i 0)).size:=Array.length_toList
  omega
 ·rw[List.length_map,List.length_map]
  have:a.length*(2*B+4+1)≤2048*(2*B+4+1):=Nat.mul_le_mul_right _ hl
  omega
theorem NA (a:List Rat) (B:Nat) (hl:a.length≤2048) (h:∀i,i<a.length→fs (a.getD i 0)≤B) (hB:B≤1000000000):af Tryz.prog 111 [cD a] [] (.val (.string (tV a))) [] []:=by
 have hJ:=Rk hl h hB
 have hz:((a.map tQ).map xG).length=a.length:=by simp
 have oi:∀i,i<a.length→((a.map tQ).map xG).getD i .any= .val (.string (tQ (a.getD i 0))):=fun i hi=>by rw[pG (d:=ByteArray.empty) (by simpa using hi),pG (d:=0) hi];rfl
 have kj:=abm (a.map tQ) (by simp;omega) hJ
 refine qU [] Tryz.func111 ?_
 intro w0 ρ0 hE
 conv=>whnf
 (repeat(first|(refine And.intro Q5 ?_;conv=>whnf)|(refine aC Q7 ?_;conv=>whnf)|(rw[Int.toNat_natCast];conv=>whnf)))
 refine cn hE (fun k=>k) [0,2,3,9,10,11] [8] (fun m fr hp=>∃i,m=a.length - i∧i≤a.length∧fr=[(0,cD a),(2,.val (.string ⟨#[]⟩)),(3,.aK 8 1 0 a.length),(9,cD a),(10,.val (.int .i64 (a.length:Nat))),(11,.val (.int .i64 (i:Nat)))]∧
  hp=[(8,⟨9,true,.seq 1 (((a.map tQ).map xG).take i++List.replicate (a.length - i) (.val (.string .empty)))⟩)]) a.length ?_ ?_ ?_
 ·kernel_rfl
 ·exact⟨0,rfl,Nat.zero_le _,rfl,rfl⟩
 rintro m _ _ ⟨i,rfl,hi,rfl,rfl⟩
 have hlen:=gW (d:=SV.val (.string .empty)) hi hz
 by_cases aI:i<a.length
 ·have t1:=jD aI
  have t2:=cp (i:=i) aa
  have k1:=CH (a.getD i 0) (Nat.le_trans (h i aI) aa)
  refine dG.of hE ?_
  conv=>whnf
  have e3:=Lv (d:=SV.val (.string .empty)) (e:=SV.any) aI hz
  (repeat((first|refine ah rfl rfl ?_|refine And.intro Q5 ?_|refine a8 (by assumption) ?_|refine aC An ?_|refine aC Q6 ?_|rw[t1]|rw[e3]|rw[t2]|rw[Int.toNat_natCast]|rw[Nat.zero_add]);conv=>whnf))
  refine⟨a.length - (i+1),fun k=>k,[0,2,3,9,10,11],[8],aa,aF,i+1,rfl,aI,rfl, ?_⟩
  rw[←jo (e:=.any) aI hz,oi i aI]
  rfl
 ·have t1:=jP aI
  have hI:i=a.length:=aa
  subst hI
  rw[kQ hz]
  refine gC 3 8 (fun _ h=>h) (fun _=>rfl) rfl rfl (by simp) ?_
  refine dG.of hE ?_
  conv=>whnf
  have h91:(ByteArray.mk #[91]).size=1:=rfl
  have h93:(ByteArray.mk #[93]).size=1:=rfl
  have hjs:(ByteArray.mk (Lib.join ((a.map tQ).map (·.data.toList)) [32]).toArray).size=(Lib.join ((a.map tQ).map (·.data.toList)) [32]).length:=by show(Lib.join ((a.map tQ).map (·.data.toList)) [32]).toArray.size=_;simp
  have o1:(ByteArray.mk #[91]).size+(ByteArray.mk (Lib.join ((a.map tQ).map (·.data.toList)) [32]).toArray).size≤9223372036854775807:=aa
  have o2:(ByteArray.mk #[91]++ByteArray.mk (Lib.join ((a.map tQ).map (·.data.toList)) [32]).toArray).size+(ByteArray.mk #[93]).size≤9223372036854775807:=by rw[ByteArray.size_append];omega
  (repeat((first|refine ag rfl rfl ?_|refine And.intro Q5 ?_|refine a8 (by assumption) ?_|rw[t1]);conv=>whnf));exact Q4
theorem EM {P:Program} {o:Oper} {fr:List (Nat×SV)} {fk:List (Nat×aA)} {src dst:TypeId} {x:Operand} {ti td:TI} {kd kd':IntKind} {d:Nat} (ho:o.op= .convert src dst x) (hx:aZ fr x (.val (.int kd (d:Nat)))) (hd:d<128)
  (ht:aE P src ti) (hk:ti.kind= .int kd') (htd:aE P dst td) (zO:td.kind= .str):bL P o fr fk (.val (.string ⟨#[UInt8.ofNat d]⟩)) [] []:=
 bo fun ρ a w hp=>by
  have hv:=aJ (hx ρ a hp.dj)
  have hu:=ht.kind;rw[hk]at hu
  have VH:=htd.kind;rw[zO]at VH
  refine⟨_, ?_,bS rfl⟩
  have e:Utf8.encode (d:Int)=⟨#[UInt8.ofNat d]⟩:=by
   exact(show ∀d,d<128→Utf8.encode ((d:Nat):Int)=⟨#[UInt8.ofNat d]⟩ by decide+kernel) d hd
  simp only[execOp,ho,hv,convert,Sem.run_bind,run_underlying hu,run_underlying VH,Result.andThen_ok,Conv.intToString,Sem.run_pure,e]
theorem AZ:∀e n,fQ (e+1) (n % 10^(e+1))=UInt8.ofNat (48+n/10^e % 10)::fQ e (n % 10^e)
 |0,n=>by simp[fQ]
 |e+1,n=>by
  have h1:n % 10^(e+2)/10=n/10 % 10^(e+1):=by rw[Nat.pow_succ 10 (e+1),Nat.mul_comm,Nat.mod_mul_right_div_self]
  have h2:n % 10^(e+1)/10=n/10 % 10^e:=by rw[Nat.pow_succ,Nat.mul_comm,Nat.mod_mul_right_div_self]
  have h3:n % 10^(e+2) % 10=n % 10:=Nat.mod_mod_of_dvd _ (Nat.dvd_trans (by exact⟨1,rfl⟩) (Nat.dvd_trans (show 10 ∣ 10^1 from⟨1,rfl⟩) (Nat.pow_dvd_pow 10 aa)))
  have h4:n % 10^(e+1) % 10=n % 10:=Nat.mod_mod_of_dvd _ (Nat.dvd_trans (show 10 ∣ 10^1 from⟨1,rfl⟩) (Nat.pow_dvd_pow 10 aa))
  rw[fQ,h1,h3,AZ e (n/10),fQ,h2,h4,Nat.div_div_eq_div_mul,←Nat.pow_succ']
  rfl
theorem pc:∀e n,n<10^(e+1)→(e=0∨10^e≤n)→fQ (e+1) n=Lib.decDigits n
 |0,n,h,_=>by
  have h:n<10:=by simpa using h
  rw[fQ,dec_lt h,show n % 10=n by omega];rfl
 |e+1,n,h,h'=>by
  have h2:10^(e+1)≤n:=h'.resolve_left aa
  have h10:10≤n:=Nat.le_trans (Nat.le_trans aH (Nat.pow_le_pow_right (n:=10) aH (show 1≤e+1 by omega))) h2
  rw[Nat.pow_succ]at h
  rw[fQ,wF h10,pc e (n/10) aa (by
   rw[Nat.pow_succ]at h2
   exact .inr aa)]
theorem GQ (c:UInt8) (l:List UInt8):(⟨#[c]⟩:ByteArray)++⟨l.toArray⟩=⟨(c::l).toArray⟩:=by
 apply ByteArray.ext
 rw[ByteArray.data_append]
 apply Array.ext'
 simp
abbrev dS (l:List UInt8):SV:=.val (.string ⟨l.toArray⟩)
theorem mS:∀k r,(fQ k r).length=k
 |0,_=>rfl
 |k+1,r=>by rw[fQ,List.length_append,mS k];rfl
theorem NB (n:Nat) (hn:(td n).length<268435456):af Tryz.prog 250 [nN n] [] (.val (.string (tN n))) [] []:=by
 rw[og]
 by_cases h0:n=0
 ·subst h0
  have t1:(((td 0).length:Int)==0)=true:=rfl
  have e:(⟨(Lib.decDigits 0).toArray⟩:ByteArray)=⟨#[48]⟩:=by rw[dec_lt aH];rfl
  rw[e]
  refine cj [] Tryz.func250 ?_
  intro W0 w0 ρ0 hE
  conv=>whnf
  (repeat(first|(refine ah rfl rfl ?_;conv=>whnf)|(refine aC Q7 ?_;conv=>whnf)));exact Q4
 have hl0:=fc (n:=n)
 have t1:(((td n).length:Int)==0)=false:=beq_false_of_ne aa
 have qy:=uG h0
 have ahV:=eN n
 have p10:∀i,(10000:Nat)^i=10^(4*i):=fun i=>by rw[Nat.pow_mul]
 refine cj [] Tryz.func250 ?_
 intro W0 w0 ρ0 hE
 conv=>whnf
 (repeat(first|(refine ag rfl rfl ?_;conv=>whnf)|(refine aC Q7 ?_;conv=>whnf)|(rw[t1];conv=>whnf)))
 refine az hE (fun k=>k) [0,3,4] [] (fun q fr hp=>∃(i:Nat) (l:List UInt8),q=(td n).length - i∧i≤(td n).length∧l.length≤4*i∧(i<(td n).length→l=fQ (4*i) (n % 10^(4*i)))∧(i=(td n).length→l=Lib.decDigits n)∧
  fr=[(0,nN n),(3,dS l),(4,.val (.int .i64 (i:Nat)))]∧hp=[]) (td n).length ?_ ?_ ?_
 ·kernel_rfl
 ·exact⟨0,[],rfl,Nat.zero_le _,by simp,(fun _=>rfl),(fun h=>aa),rfl,rfl⟩
 rintro q _ _ ⟨i,l,rfl,hi,hll,gJ,gI,rfl,rfl⟩
 conv=>whnf
 by_cases aI:i<(td n).length
 ·have t2:decide ((i:Int)<((td n).length:Int))=true:=decide_eq_true aa
  have e1:=cp (i:=i) aa
  obtain rfl:=gJ aI
  clear gJ gI hll
  have hg:=yI n i
  have hd:n/10000^i % 10000=n/10^(4*i) % 10^4:=by rw[p10]
  have Ip:i+1=(td n).length→n/10^(4*i)<10^4∧0<n/10^(4*i):=fun h=>by
   rw[←p10]
   constructor
   ·rw[Nat.div_lt_iff_lt_mul (Nat.pow_pos aH),show(10:Nat)^4=10000^1 from rfl,←Nat.pow_add,Nat.add_comm,h];exact ahV
   ·exact Nat.div_pos (by rw[←h,Nat.add_sub_cancel]at qy;exact qy) (Nat.pow_pos aH)
  (repeat((first|refine ah rfl rfl ?_|refine aC Q7 ?_|refine aC Q6 ?_|refine aC FA ?_|rw[t2]|rw[hg]);conv=>whnf))
  refine az hE (fun k=>k) [0,3,4,5,6] [] (fun q fr hp=>∃k:Nat,q=4 - k∧k≤4∧(i+1=(td n).length→k=0∨0<n/10^(4*i+(k - 1)))∧
   fr=[(0,nN n),(3,dS (fQ (4*i+k) (n % 10^(4*i+k)))),(4,.val (.int .i64 (i:Nat))),(5,.val (.int .i64 ((n/10^(4*i) % 10^4/10^k:Nat):Int))),(6,.val (.int .i64 (k:Nat)))]∧hp=[]) 4 ?_ ?_ ?_
  ·kernel_rfl
  ·exact⟨0,rfl,Nat.zero_le _,(fun _=>.inl rfl),by rw[Nat.add_zero,Nat.pow_zero,Nat.div_one,←hd];rfl,rfl⟩
  rintro q _ _ ⟨k,rfl,hk,od,rfl,rfl⟩
  have hlen:=mS (4*i+k) (n % 10^(4*i+k))
  have Ut:n/10^(4*i) % 10^4/10^k<10000:=Nat.lt_of_le_of_lt (Nat.div_le_self _ _) (Nat.mod_lt _ aH)
  have UY:n/10^(4*i) % 10^4/10^k/10=n/10^(4*i) % 10^4/10^(k+1):=by rw[Nat.div_div_eq_div_mul,←Nat.pow_succ]
  have Q0:k<4→n/10^(4*i) % 10^4/10^k % 10=n/10^(4*i+k) % 10:=fun h=>by
   have e4:(10:Nat)^4=10^k*10^(4 - k):=by rw[←Nat.pow_add];congr 1;omega
   rw[e4,Nat.mod_mul_right_div_self,Nat.div_div_eq_div_mul,←Nat.pow_add]
   refine Nat.mod_mod_of_dvd _ ?_
   exact Nat.dvd_trans (show 10 ∣ 10^1 from⟨1,rfl⟩) (Nat.pow_dvd_pow 10 aa)
  have hlz:i+1=(td n).length→n/10^(4*i) % 10^4/10^k=n/10^(4*i+k):=fun h=>by
   rw[Nat.mod_eq_of_lt (Ip h).1,Nat.div_div_eq_div_mul,←Nat.pow_add]
  have abV:=AZ (4*i+k) n
  conv=>whnf
  generalize hD:n/10^(4*i) % 10^4/10^k=D at*
  by_cases hk4:k<4
  ·have t3:decide ((k:Int)<4)=true:=decide_eq_true aa
   have e2:=cp (i:=k) aa
   have ajp:(i+1<(td n).length∨0<D)→True:=fun _=>trivial
   have e3:(D:Int).tmod 10=((D % 10:Nat):Int):=by rw[Int.tmod_eq_emod_of_nonneg aa];rfl
   have e4:IntKind.i64.wrap (48+((D % 10:Nat):Int))=((48+D % 10:Nat):Int):=by rw[wrap_i64 aa aa];omega
   have e5:IntKind.u8.wrap ((48+D % 10:Nat):Int)=((48+D % 10:Nat):Int):=by rw[IntKind.wrap_u8];omega
   have e6:IntKind.i64.wrap ((D:Int).tdiv 10)=((D/10:Nat):Int):=by rw[Int.tdiv_eq_ediv_of_nonneg aa];exact wrap_i64 aa aa
   have e7:(D:Int).tdiv 10=((D/10:Nat):Int):=by rw[Int.tdiv_eq_ediv_of_nonneg aa];rfl
   have jG:(⟨#[UInt8.ofNat (48+D % 10)]⟩:ByteArray).size+(⟨(fQ (4*i+k) (n % 10^(4*i+k))).toArray⟩:ByteArray).size≤9223372036854775807:=by
    have h1:(⟨(fQ (4*i+k) (n % 10^(4*i+k))).toArray⟩:ByteArray).size=4*i+k:=by show(fQ _ _).toArray.size=_;rw[List.size_toArray,hlen]
    have h2:(⟨#[UInt8.ofNat (48+D % 10)]⟩:ByteArray).size=1:=rfl
    omega
   have UZ:=GQ (UInt8.ofNat (48+D % 10)) (fQ (4*i+k) (n % 10^(4*i+k)))
   rw[Q0 hk4]at UZ
   rw[←abV]at UZ
   rw[←Q0 hk4]at UZ
   by_cases hm:i+1<(td n).length
   ·have t4:decide (((i+1:Nat):Int)<((td n).length:Int))=true:=decide_eq_true aa
    (repeat((first|refine ah rfl rfl ?_|refine ag rfl rfl ?_|refine iV Q3 ?_|refine dR Q3 ?_|refine aC iT ?_|refine aC Q7 ?_|refine⟨_,[],[],EM rfl (ak rfl) aa (aM.get (t:=5) rfl) rfl (aM.get (t:=9) rfl) rfl,aD,an, ?_⟩|rw[t3]|rw[e1]|rw[t4]|rw[e3]|rw[e4]|rw[e5]|rw[e6]|rw[UZ]|rw[e2]);conv=>whnf))
    exact⟨4 - (k+1),fun k=>k,[0,3,4,5,6],[],aa,aF,k+1,rfl,aa,(fun h=>aa),by rw[←UY];rfl,rfl⟩
   ·have t4:decide (((i+1:Nat):Int)<((td n).length:Int))=false:=decide_eq_false aa
    by_cases wX:0<D
    ·have t5:decide ((D:Int)>0)=true:=decide_eq_true aa
     have gN:0<n/10^(4*i+(k+1 - 1)):=by rw[Nat.add_sub_cancel,←hlz aa];exact wX
     (repeat((first|refine ah rfl rfl ?_|refine iV Q3 ?_|refine dR Q3 ?_|refine aC iT ?_|refine aC ik ?_|refine aC Q7 ?_|refine⟨_,[],[],EM rfl (ak rfl) aa (aM.get (t:=5) rfl) rfl (aM.get (t:=9) rfl) rfl,aD,an, ?_⟩|rw[t3]|rw[e1]|rw[t4]|rw[t5]|rw[e3]|rw[e4]|rw[e5]|rw[e6]|rw[UZ]|rw[e2]);conv=>whnf))
     exact⟨4 - (k+1),fun k=>k,[0,3,4,5,6],[],aa,aF,k+1,rfl,aa,(fun _=>.inr gN),by rw[←UY];rfl,rfl⟩
    ·have t5:decide ((D:Int)>0)=false:=decide_eq_false aa
     have hz:=hlz aa
     have DQ:fQ (4*i+k) (n % 10^(4*i+k))=Lib.decDigits n:=by
      have U0:n<10^(4*i+k):=by
       rcases Nat.lt_or_ge n (10^(4*i+k))with g|g
       ·exact g
       ·have:=Nat.div_pos g (Nat.pow_pos (n:=4*i+k) aH);omega
      rcases od aa with g|g
      ·subst g
       have:=(Ip aa).2
       rw[Nat.add_zero]at hz;omega
      ·obtain⟨k,rfl⟩:∃j,k=j+1:=by
        rcases Nat.eq_zero_or_pos k with g2|g2
        ·subst g2;have:=(Ip aa).2;rw[Nat.add_zero]at hz;omega
        ·exact⟨k - 1,aa⟩
       rw[Nat.mod_eq_of_lt U0]
       refine pc (4*i+k) n U0 (.inr ?_)
       rcases Nat.lt_or_ge n (10^(4*i+k))with g3|g3
       ·rw[Nat.add_sub_cancel,Nat.div_eq_of_lt g3]at g;omega
       ·exact g3
     (repeat((first|refine ah rfl rfl ?_|refine ag rfl rfl ?_|refine aC iT ?_|refine aC ik ?_|refine aC Q7 ?_|rw[t3]|rw[e1]|rw[t4]|rw[t5]);conv=>whnf))
     exact⟨(td n).length - (i+1),fun k=>k,[0,3,4],[],aa,aF,i+1,_,rfl,aa,by rw[mS];omega,(fun h=>aa),(fun _=>DQ),rfl,rfl⟩
  ·obtain rfl:k=4:=aa
   have t3:decide (((4:Nat):Int)<4)=false:=rfl
   have DQ:i+1=(td n).length→fQ (4*i+4) (n % 10^(4*i+4))=Lib.decDigits n:=fun h=>by
    have h1:=(Ip h).1
    rw[Nat.div_lt_iff_lt_mul (Nat.pow_pos aH),←Nat.pow_add,Nat.add_comm]at h1
    have g:=(od h).resolve_left aH
    rw[Nat.mod_eq_of_lt h1]
    refine pc (4*i+3) n h1 (.inr ?_)
    rcases Nat.lt_or_ge n (10^(4*i+3))with g3|g3
    ·rw[show 4 - 1=3 from rfl,Nat.div_eq_of_lt g3]at g;omega
    ·exact g3
   (repeat((first|refine ag rfl rfl ?_|refine aC ik ?_|rw[t3]|rw[e1]);conv=>whnf))
   exact⟨(td n).length - (i+1),fun k=>k,[0,3,4],[],aa,aF,i+1,_,rfl,aa,by rw[mS];omega,(fun h=>rfl),DQ,rfl,rfl⟩
 ·obtain rfl:i=(td n).length:=aa
  have t2:decide (((td n).length:Int)<((td n).length:Int))=false:=decide_eq_false aa
  obtain rfl:=gI rfl
  (repeat(first|(refine ag rfl rfl ?_;conv=>whnf)|(refine aC Q7 ?_;conv=>whnf)|(rw[t2];conv=>whnf)));exact Q4
theorem Rl (z:Int) (hz:sz z.natAbs≤100000000):af Tryz.prog 249 [zZ z] [] (.val (.string (tZ z))) [] []:=by
 have k1:=NB z.natAbs (Nat.lt_of_le_of_lt (yM hz) aH)
 have hs:=jw z.natAbs
 have h1:(ByteArray.mk #[45]).size=1:=rfl
 have h2:(ByteArray.mk #[45]).size+(tN z.natAbs).size≤9223372036854775807:=aa
 unfold tZ
 refine cj [1] Tryz.func249 ?_
 intro W0 w0 ρ0 hE
 conv=>whnf
 by_cases hn:z<0
 ·have t1:decide (z<0)=true:=decide_eq_true hn
  rw[if_pos hn]
  (repeat((first|refine ah rfl rfl ?_|refine iV Q3 ?_|refine a8 (by assumption) ?_|refine aC Q6 ?_|refine aC Q9 ?_|rw[t1]);conv=>whnf));exact Q4
 ·have t1:decide (z<0)=false:=decide_eq_false hn
  rw[if_neg hn]
  (repeat((first|refine ag rfl rfl ?_|refine a8 (by assumption) ?_|refine aC Q6 ?_|refine aC Q9 ?_|rw[t1]);conv=>whnf));exact Q4
theorem Rm (q:Rat) (h:fs q≤100000000):af Tryz.prog 148 [fF q] [] (.val (.string (tQ q))) [] []:=by
 have n1:=dz q
 have n2:=dq q
 unfold fs at h
 have k1:=Rl q.num aa
 have hdl:(td q.den).length≤100000000:=yM aa
 have k2:=qN q aa
 have k3:=NB q.den aa
 have hs:=sR q.num
 have Km:=jw q.den
 have h1:(ByteArray.mk #[47]).size=1:=rfl
 have h2:(tZ q.num).size+(ByteArray.mk #[47]).size≤9223372036854775807:=aa
 have h3:(tZ q.num++(ByteArray.mk #[47])).size+(tN q.den).size≤9223372036854775807:=by rw[ByteArray.size_append];omega
 have hz:=fc (n:=q.den - 1)
 have hp:=q.den_pos
 unfold tQ
 refine cj [1] Tryz.func148 ?_
 intro W0 w0 ρ0 hE
 conv=>whnf
 by_cases hd:q.den=1
 ·have t1:(((td (q.den - 1)).length:Int)==0)=true:=beq_iff_eq.2 aa
  rw[if_pos hd]
  (repeat((first|refine ah rfl rfl ?_|refine a8 (by assumption) ?_|refine aC Q7 ?_|refine aC Q6 ?_|refine aC Q9 ?_|rw[t1]);conv=>whnf));exact Q4
 ·have t1:(((td (q.den - 1)).length:Int)==0)=false:=beq_false_of_ne aa
  rw[if_neg hd]
  (repeat((first|refine ag rfl rfl ?_|refine aB aF ?_|refine iV Q3 ?_|refine a8 (by assumption) ?_|refine aC Q7 ?_|refine aC Q6 ?_|refine aC Q9 ?_|rw[t1]);conv=>whnf));exact Q4
abbrev lG (a:List Rat):SV:=bX 3 fF a
abbrev fS (a:List Rat):aA:=⟨81,true,.seq 3 (a.map fF)⟩
theorem qk {z:List Rat} {i:Nat} (hi:i<z.length):fS (z.take (i+1))=⟨81,true,.seq 3 (List.take i ((z.take i).map fF)++List.take 1 (List.drop 0 [fF (z.getD i 0)]))⟩:=by
 have hl:((z.take i).map fF).length=i:=by rw[List.length_map,List.length_take];omega
 rw[fS,mJ z i hi,List.map_append,List.take_of_length_le (l:=(z.take i).map fF) aa];rfl
abbrev EN:aA:=⟨81,true,.one [.val (.bool false),.val (.slice none 0 0),.val (.slice none 0 0)]⟩
abbrev Iq (q:Rat):aA:=⟨81,true,.one [zZ q.num,nN (q.den - 1)]⟩
theorem abW (q:Int×Int) (h:Av q):af Tryz.prog 41 [qA q] [] (fF (qV q)) [] []:=by
 have hd:(if q.2<1 then 1 else q.2)≠0:=by have:=h.2;split<;>omega
 have e2:IntKind.i64.wrap (if (1:Int)>q.2 then 1 else q.2)=(if q.2<1 then 1 else q.2):=wrap_i64 Kl Kl
 have k1:=afP q.1 (if q.2<1 then 1 else q.2) h.1.1 h.1.2 Kl Kl hd
 refine cj [1] Tryz.func41 ?_
 intro W0 w0 ρ0 hE
 conv=>whnf
 (repeat((first|refine a8 (by assumption) ?_|refine aC Q6 ?_|refine aC Q9 ?_|rw[e2]);conv=>whnf))
 exact aq.refl _
end Go.Proofs.YtfpagioknjjacaaGreatDoor
namespace Go.Sx
set_option linter.unusedSimpArgs false
set_option linter.unusedVariables false
theorem JN {E:Env} {j s:Nat} {ty:TypeId} {wr:Bool} {cs cs':List SV} {fr:List (Nat×SV)} {hp:List (Nat×aA)} (hj:find hp j=some ⟨ty,wr,.seq s cs⟩) (hd:∀ρ z,au ρ cs z→au ρ cs' z) (hw:∀x∈cs',x.width=s) (he:cs=[]→cs'=[]) {a:Act} {w:World} (hR:RR E (fn fr hp) a w):
  RR E (fn fr ((j,⟨ty,wr,.seq s cs'⟩)::hp)) a w:=by
 obtain⟨ρ,hext,hfx,hR⟩:=hR
 have eC:∀i b,(fn fr ((j,⟨ty,wr,.seq s cs'⟩)::hp) (.k i)).blk=some b→∃b0,(fn fr hp (.k i)).blk=some b0∧b0.wr=b.wr∧b0.data.live=b.data.live∧(b0=b∨(i=j∧b0=⟨ty,wr,.seq s cs⟩∧b=⟨ty,wr,.seq s cs'⟩)):=by
  intro i b hb
  simp only[fn,LV.blk,find]at hb ⊢
  cases hi:Nat.beq j i with
  |true=>
   rw[hi]at hb
   simp only[Option.some.injEq]at hb
   obtain rfl:=Nat.eq_of_beq_eq_true hi
   subst hb
   exact⟨_,hj,rfl,rfl,.inr ⟨rfl,rfl,rfl⟩⟩
  |false=>rw[hi]at hb;exact⟨b,hb,rfl,rfl,.inl rfl⟩
 refine⟨ρ,hext,fun i hi=> ?_,{defers:=hR.defers,size:=hR.size,fr:=fun u sv hu=>hR.fr u sv hu,bw:=hR.bw,hp:= ?_}⟩
 ·have:=hfx i hi
  simp only[fn,LV.blk,find]at this ⊢
  cases hb:Nat.beq j i with
  |true=>simp
  |false=>exact this
 ·constructor
  ·intro i b hb
   obtain⟨b0,h1,h2,h3,rfl|⟨rfl,rfl,rfl⟩⟩:=eC i b hb
   ·exact hR.hp.blk i b0 h1
   ·rcases hR.hp.blk i _ h1 with h4|⟨b',t,vs,ex,g1,g2,g3,g4,g5⟩|⟨_,h4⟩
    ·cases h4
    ·refine .inr (.inl ⟨b',t,vs,ex,g1,g2, ?_,g4,g5⟩)
     simp only[cQ]at g3 ⊢
     obtain⟨z,g6,g7⟩:=g3
     exact⟨z,hd _ z g6,g7.1,hw⟩
    ·exact .inr (.inr ⟨‹_›,he h4⟩)
  ·intro i i' x x' b b' hx pZ hn hxe hb fV hl ql
   obtain⟨b0,h1,h2,h3,_⟩:=eC i b hb
   obtain⟨b0',h1',h2',h3',_⟩:=eC i' b' fV
   rw[←h2]
   exact hR.hp.sep i i' x x' b0 b0' hx pZ hn hxe h1 h1' (h3.trans hl) (h3'.trans ql)
  ·intro i b x hb hw hl hx
   obtain⟨b0,h1,h2,h3,_⟩:=eC i b hb
   exact hR.hp.own i b0 x h1 (h2.trans hw) (h3.trans hl) hx
  ·intro i x hx
   obtain⟨b,hb⟩:=hR.hp.ud i x hx
   simp only[fn,LV.blk,find]at hb ⊢
   cases hi:Nat.beq j i with
   |true=>exact⟨_,rfl⟩
   |false=>exact⟨b,hb⟩
  ·exact hR.hp.aT
  ·intro i b x hb hw hl hx
   obtain⟨b0,h1,h2,h3,_⟩:=eC i b hb
   exact hR.hp.ep i b0 x h1 (h2.trans hw) (h3.trans hl) hx
theorem qO {E:Env} (j:Nat) {s:Nat} {ty:TypeId} {wr:Bool} {cs:List SV} (cs':List SV) {c:Code} {K:bK} {fr:List (Nat×SV)} {hp:List (Nat×aA)} (hj:find hp j=some ⟨ty,wr,.seq s cs⟩) (hd:∀ρ z,au ρ cs z→au ρ cs' z) (hw:∀x∈cs',x.width=s) (he:cs=[]→cs'=[])
  (hs:dG E c K fr ((j,⟨ty,wr,.seq s cs'⟩)::hp)):dG E c K fr hp:=⟨fun a w hR=>hs.run a w (JN hj hd hw he hR)⟩
theorem EO {ρ:bI} {c d:SV} (h:∀x,aG ρ c x→aG ρ d x):∀(n:Nat) (z:List (List Value)),au ρ (List.replicate n c) z→au ρ (List.replicate n d) z
 |0,z,hz=>hz
 |n+1,z,hz=>by
  rw[List.replicate_succ]at hz ⊢
  simp only[au]at hz ⊢
  obtain⟨x,r,rfl,h1,h2⟩:=hz
  exact⟨x,r,rfl,h x h1,EO h n r h2⟩
theorem JO {P:Program} {o:Oper} {ft:List (Nat×SV)} {fk:List (Nat×aA)} {t:TypeId} {x y:Operand} {ti:TI} {k s i r f:Nat} {ty:TypeId} {d d':Data} {ob:Option Prop} {cs cs' nw:List SV} {sv:SV} (ho:o.op= .store t x y) (hx:aZ ft x (.ptr k s i r)) (hy:aZ ft y sv)
  (ht:aE P t ti) (hk:(k,⟨ty,true,d⟩)∈fk) (he:elem d s i=some (ob,cs)) (jG:Bm ob) (hc:∀(ρ:bI) (v:Value),Has ρ sv v→∃z,au ρ nw z∧v.cells.toList=z.flatten) (hw:SV.cu nw=ti.size) (hle:r+ti.size≤SV.cu cs)
  (hp:put f cs r ti.size nw=some cs') (hd:gL d i cs'=some d'):bL P o ft fk .any [] [(k,⟨ty,true,d'⟩)]:=
 Hc fun ρ a w Bk=>by
  have hx:=hx ρ a Bk.dj
  simp only[Has,aG]at hx
  obtain⟨_,⟨b,n,bJ,rfl⟩,hv⟩:=hx
  simp only[ct,SV.aU,if_true,List.headD_cons]at hv
  rcases Bk.mj k _ hk with h0|⟨b',n',vs,ex,h1,h2,h3,h4,h5⟩|⟨h1,h2⟩
  case inl=>simp only at h0;cases d<;>simp[Data.live,elem]at h0 he
  case inr.inr=>rw[bJ]at h1;cases h1
  rw[bJ]at h1
  cases h1
  simp only at h2 h3
  rw[Data.ck (qm he)]at h2
  obtain⟨z,g1,g2,g3⟩:=wV he jG h3
  obtain⟨yz,y1,y2⟩:=hc ρ _ (hy ρ a Bk.dj)
  have I0:=(au.len nw yz y1).1
  have Vs:=(au.len nw yz y1).2
  have pq:=(au.len cs z g1).1
  obtain⟨z',p1,p2⟩:=Bl hp g1 y1
  have KA:z'.flatten.length=SV.cu cs:=by
   rw[p2]
   simp only[List.length_append,List.length_take,List.length_drop]
   omega
  have Vt:=u7 he jG h3 hd p1 KA
  have iw:vs=vs.take (i*s)++(z.flatten++vs.drop (i*s+SV.cu cs)):=by
   rw[g2,pq,←List.drop_drop,List.take_append_drop,List.take_append_drop]
  have hAl:(vs.take (i*s)).length=i*s:=by rw[List.length_take];omega
  generalize hA:vs.take (i*s)=A at iw hAl Vt
  generalize hC:vs.drop (i*s+SV.cu cs)=C at iw Vt
  have fG:(yz.flatten).length=ti.size:=aa
  have hL:(vs++ex).take (i*s+r)++yz.flatten++(vs++ex).drop (i*s+r+yz.flatten.length)=(A++z'.flatten++C)++ex:=by
   rw[iw,p2,fG,←hAl]
   simp only[List.append_assoc]
   rw[List.take_length_add_append,Nat.add_assoc,List.drop_length_add_append,List.take_append_of_le_length aa,List.drop_append_of_le_length aa]
   try simp
  have ng:(storeVar t ⟨b,i*s+r,none⟩ (a.eval y)).run P w= .ok () (w.setRow b ((A++z'.flatten++C)++ex).toArray):=by
   have Hf:=run_storeCells_at (P:=P) b (i*s+r) ty yz.flatten 0 (vs++ex).toArray w h2 (by simp only[List.size_toArray,List.length_append];omega) Vs
   simp only[Nat.add_zero,hL]at Hf
   have gf:(a.eval y).cells.size=ti.size:=by rw[←Array.length_toList,y2];exact fG
   unfold storeVar
   simp only[Sem.run_bind,ht.sizeOf,Result.andThen_ok,gf,ne_eq,not_true_eq_false,if_false,y2,Hf]
  refine⟨w.setRow b ((A++z'.flatten++C)++ex).toArray,ρ, ?_, ?_⟩
  ·simp only[execOp,ho,Instr.storeAt,Instr.sureAddr,hv,Sem.run_bind,Sem.run_pure,Result.andThen_ok,ng]
  ·refine⟨.refl ρ,trivial,fun _ _=>rfl,⟨rfl,rfl,rfl,by simp[World.setRow],fun i hi hn=> ?_⟩,fun j bj hj=> ?_,(fun j c c' h1 h2 h3 h4=> ?_),(fun _ _ _ h=>by cases h),(fun _ _ _ _ _ _ h=>by cases h),fun b o h=>.inl h⟩
   ·refine cR fun Sy=>hn ⟨k,_,n,List.mem_cons_self .., ?_⟩
    rw[Sy];exact bJ
   ·rcases hj with hj|hj
    ·simp only[List.mem_singleton,Prod.mk.injEq]at hj
     obtain⟨rfl,rfl⟩:=hj
     refine .inr (.inl ⟨b,n,_,ex,bJ,by rw[Data.ck (qa hd)];exact c5 h2,Vt, ?_,h5⟩)
     rw[←h4,iw]
     simp only[List.length_append,KA,pq]
     omega
    ·cases hj
   ·simp only[List.mem_singleton,Prod.mk.injEq]at h1 h2
    obtain⟨_,rfl⟩:=h1
    obtain⟨_,rfl⟩:=h2
    rw[h3]at h4;cases h4
theorem Rn {ρ:bI} {c:List SV} {v:Value} (h:Has ρ (.agg c) v):∃z,au ρ [.agg c] z∧v.cells.toList=z.flatten:=by
 obtain⟨y,h1,h2⟩:=jW (l:=c) rfl h
 refine⟨[y.flatten], ?_,by rw[h2];simp⟩
 simp only[au,aG]
 exact⟨y.flatten,[],rfl,⟨y,h1,rfl⟩,rfl⟩
theorem sU {P:Program} {o:Oper} {fr:List (Nat×SV)} {hp:List (Nat×aA)} {K:SV→List (Nat×aA)→List (Nat×aA)→List (Nat×aA)→Prop} {t ty:TypeId} {x y:Operand} {ti:TI} {k w i:Nat} {xs:List SV} {c:List SV} {e:SV} (ho:o.op= .store t x y) (hx:aZ fr x (.ptr k w i 0))
  (hy:aZ fr y (.agg c)) (hf:find hp k=some ⟨ty,true,.seq w xs⟩) (ht:aE P t ti) (he:elem (.seq w xs) w i=some (some (i<xs.length),[e])) (hi:i<xs.length) (hw:SV.cu [.agg c]=ti.size) (hle:0+ti.size≤SV.cu [e]) (bW:put 64 [e] 0 ti.size [.agg c]=some [.agg c]) (hd:gL (.seq w xs) i [.agg c]=some (.seq w (xs.set i (.agg c))))
  (hK:K .any [(k,⟨ty,true,.seq w xs⟩)] [] [(k,⟨ty,true,.seq w (xs.set i (.agg c))⟩)]):
  ∃c fk new upd,bL P o fr fk c new upd∧vJ hp fk∧rM hp new∧kO fk upd∧K c fk new upd:=
 ⟨.any,_,[],_,JO (ob:=some (i<xs.length)) ho hx hy ht (List.mem_singleton.2 rfl) he hi (fun _ _ h=>Rn h) hw hle bW hd,dD hf,an,dQ (List.mem_singleton.2 rfl) rfl rfl rfl,hK⟩
end Go.Sx
namespace Go.Proofs.YtfpagioknjjacaaGreatDoor
open Go.Sx
set_option linter.unusedSimpArgs false
set_option linter.unusedVariables false
set_option maxRecDepth 100000
set_option maxHeartbeats 40000000
abbrev zFv:SV:=.agg [.val (.bool false),.val (.slice none 0 0),.val (.slice none 0 0)]
theorem Ro {ρ:bI} {x:List Value} (h:aG ρ zFv x):aG ρ (fF 0) x:=by
 simp only[aG,au]at h
 obtain⟨z,⟨x1,r1,rfl,h1,x2,r2,rfl,h2,x3,r3,rfl,h3,rfl⟩,rfl⟩:=h
 have g2:aG ρ (nN 0) x2:=nF (a:=none) (by simp only[aG];exact h2)
 have g3:aG ρ (nN 0) x3:=nF (a:=none) (by simp only[aG];exact h3)
 have g1:aG ρ (zZ 0) (x1++x2):=by
  show aG ρ (.agg [.val (.bool false),nN 0]) _
  simp only[aG,au]
  exact⟨[x1,x2],⟨x1,[x2],rfl,h1,x2,[],rfl,g2,rfl⟩,by simp⟩
 show aG ρ (.agg [zZ 0,nN 0]) _
 rw[aG]
 exact⟨[x1++x2,x3],by simp only[au];exact⟨_,_,rfl,g1,_,_,rfl,g3,rfl⟩,by simp⟩
theorem CI (n:Nat):∀ρ z,au ρ (List.replicate n zFv) z→au ρ ((List.replicate n (0:Rat)).map fF) z:=fun ρ z h=>by
 rw[List.map_replicate]
 exact EO (fun x hx=>Ro hx) n z h
theorem GR {p:List Rat} {a b:Rat} {S A:Nat} (hp:Sm S p) (ha:fs a≤A) (hb:fs b≤A):∀i,i≤p.length→(∀j,j<i→fs ((lF p a b i).getD j 0)≤2*S+2*A+2)∧fs ((lF p a b i).getD i 0)≤S+A+2∧∀j,i<j→(lF p a b i).getD j 0=0
 |0,_=>⟨fun j hj=>absurd hj (Nat.not_lt_zero _),by rw[lF,iO,eh];omega,fun j _=>iO _ _⟩
 |i+1,h=>by
  obtain⟨h1,h2,h3⟩:=GR hp ha hb i aa
  have hl:=iY p a b i
  have hpi:=hp i aa
  have e1:(lF p a b (i+1)).getD (i+1) 0=p.getD i 0*b:=by
   rw[lF,eu,if_pos ⟨rfl,by rw[List.length_set];omega⟩,eu,if_neg aa,h3 _ (Nat.lt_succ_self _)];grind
  have e2:(lF p a b (i+1)).getD i 0=(lF p a b i).getD i 0+p.getD i 0*a:=by
   rw[lF,eu,if_neg aa,eu,if_pos ⟨rfl,aa⟩]
  have e3:∀j,j≠i→j≠i+1→(lF p a b (i+1)).getD j 0=(lF p a b i).getD j 0:=fun j g1 g2=>by
   rw[lF,eu,if_neg aa,eu,if_neg aa]
  refine⟨fun j hj=> ?_, ?_,fun j hj=> ?_⟩
  ·by_cases e:j=i
   ·rw[e,e2]
    have g1:=iH ((lF p a b i).getD i 0) (p.getD i 0*a)
    have g2:=cT (p.getD i 0) a
    omega
   ·rw[e3 j e aa];exact h1 j aa
  ·rw[e1]
   have g2:=cT (p.getD i 0) b
   omega
  ·rw[e3 j aa aa];exact h3 j aa
theorem GS {p:List Rat} {a b:Rat} {S A:Nat} (hp:Sm S p) (ha:fs a≤A) (hb:fs b≤A):Sm (2*S+2*A+2) (GI p a b):=fun j hj=>by
 obtain⟨h1,h2,_⟩:=GR hp ha hb p.length (Nat.le_refl _)
 rw[iY]at hj
 by_cases e:j<p.length
 ·exact h1 j e
 ·obtain rfl:j=p.length:=aa
  exact Nat.le_trans h2 aa
theorem Rp {l:List Rat} {i:Nat} (h:i<l.length):(l.map fF).getD i .any=fF (l.getD i 0):=pG (d:=(0:Rat)) h
theorem A3 {p:List Rat} {a b:Rat} {S A:Nat} (hl:p.length≤100) (hp:Sm S p) (ha:fs a≤A) (hb:fs b≤A) (h:2*S+2*A+2≤1700000000):af Tryz.prog 146 [lG p,fF a,fF b] [] (lG (GI p a b)) [] []:=by
 have t0:IntKind.i64.wrap ((p.length:Int)+1)=((p.length+1:Nat):Int):=by rw[wrap_i64 aa aa];omega
 have lT:=iY p a b
 have sT:=GR hp ha hb
 refine qU [4,5] Tryz.func146 ?_
 intro w0 ρ0 hE
 conv=>whnf
 (repeat((first|refine av Q3 ?_|refine aC Q7 ?_|rw[t0]|rw[Int.toNat_natCast]);conv=>whnf))
 refine qO 12 ((List.replicate (p.length+1) (0:Rat)).map fF) rfl (CI _) (fun x hx=>by rw[List.map_replicate]at hx;rw[(List.mem_replicate.1 hx).2];rfl) (fun h=>by cases h) ?_
 refine cn hE (dc [(12,2001)]) [0,4,5,7,8] [12] (fun m fr hp=>∃i:Nat,m=p.length - i∧i≤p.length∧fr=[(0,lG p),(4,cx [zZ a.num,nN (a.den - 1)]),(5,cx [zZ b.num,nN (b.den - 1)]),(7,.aK 2001 3 0 (p.length+1)),(8,.val (.int .i64 (i:Nat)))]∧
  hp=[(2001,fS (lF p a b i))]) p.length ?_ ?_ ?_
 ·kernel_rfl
 ·exact⟨0,rfl,Nat.zero_le _,rfl,rfl⟩
 rintro m _ _ ⟨i,rfl,hi,rfl,rfl⟩
 have li:=lT i
 by_cases aI:i<p.length
 ·have t1:=jD aI
  have t2:=cp (i:=i) aa
  obtain⟨g1,g2,g3⟩:=sT i hi
  have hpi:=hp i aI
  have k1:=wE (p.getD i 0) a aa
  have fm1:=cT (p.getD i 0) a
  have fm2:=cT (p.getD i 0) b
  have k2:=pT ((lF p a b i).getD i 0) (p.getD i 0*a) aa
  have k3:=wE (p.getD i 0) b aa
  have hz:((lF p a b i).set i ((lF p a b i).getD i 0+p.getD i 0*a)).getD (i+1) 0=0:=by rw[eu,if_neg aa];exact g3 _ (Nat.lt_succ_self _)
  have k4:=pT (((lF p a b i).set i ((lF p a b i).getD i 0+p.getD i 0*a)).getD (i+1) 0) (p.getD i 0*b) (by rw[hz,eh];omega)
  have e1:=Rp (l:=lF p a b i) (i:=i) aa
  have e2:=Rp (l:=(lF p a b i).set i ((lF p a b i).getD i 0+p.getD i 0*a)) (i:=i+1) (by rw[List.length_set];omega)
  rw[List.map_set]at e2
  have lm:((lF p a b i).map fF).length=p.length+1:=by rw[List.length_map];exact li
  have cb:fS (lF p a b (i+1))=⟨81,true,.seq 3 ((((lF p a b i).map fF).set i (fF ((lF p a b i).getD i 0+p.getD i 0*a))).set (i+1) (fF (((lF p a b i).set i ((lF p a b i).getD i 0+p.getD i 0*a)).getD (i+1) 0+p.getD i 0*b)))⟩:=by
   rw[fS,lF,List.map_set,List.map_set]
  clear sT g1 g2 g3 hz
  refine dG.of hE ?_
  conv=>whnf
  have u1:0+(i:Int).toNat=i:=aa
  have u2:0+((i+1:Nat):Int).toNat=i+1:=aa
  (repeat((first|refine ah rfl rfl ?_|refine aB aF ?_|refine bg Q3 ?_|refine av Q3 ?_|refine a8 (by assumption) ?_|refine aC Q7 ?_|refine aC An ?_|refine aC Q6 ?_|refine sU rfl (ak rfl) (ak rfl) rfl (dJ rfl) (congrArg (fun c=>some (some _,[c])) e1) (by first|omega|(rw[List.length_set];omega)) rfl (Nat.le_refl _) rfl rfl ?_|refine sU rfl (ak rfl) (ak rfl) rfl (dJ rfl) (congrArg (fun c=>some (some _,[c])) e2) (by first|omega|(rw[List.length_set];omega)) rfl (Nat.le_refl _) rfl rfl ?_|rw[t1]|rw[u1]|rw[u2]|rw[e1]|rw[e2]|rw[t2]);conv=>whnf))
  refine⟨p.length - (i+1),fun k=>k,[0,4,5,7,8],[2001],aa,aF,i+1,rfl,aI,rfl, ?_⟩
  rw[cb];rfl
 ·have t1:=jP aI
  obtain rfl:i=p.length:=aa
  have lm:((lF p a b p.length).map fF).length=p.length+1:=by rw[List.length_map];exact li
  refine gC 7 2001 (fun _ h=>h) (fun _=>rfl) rfl rfl li.symm ?_
  refine dG.of hE ?_
  conv=>whnf
  (repeat(first|(refine ag rfl rfl ?_;conv=>whnf)|(refine aC Q7 ?_;conv=>whnf)|(rw[t1];conv=>whnf)));exact Q4
theorem JP {n:Nat} {S M:Mx} {t:Rat} {P:List Rat} {m z p:Nat} (hS:cZ n S) (hM:cZ n M) (h1:∀x,ao n (fun i=>x i*x i)≤qf n M x) (hI:cK n (iX S M t) m z p) (hP:P.length=n+1) (hv:∀x,cm P x=bD n (iX S M x)):
  (lp P t (n+1)).length=n+1∧(qi (lp P t (n+1)) true (n+1)).1=m∧(qi (lp P t (n+1)) false (n+1)).1=p∧(∀j,j<z→(lp P t (n+1)).getD j 0=0)∧(lp P t (n+1)).getD z 0≠0∧z≤n:=by
 have hc:(lp P t (n+1)).length=n+1:=by rw[l8,hP]
 have hS':cZ n (iX S M t):=pN hS hM t
 have hvc:∀x,cm (lp P t (n+1)) x=bD n (iX (iX S M t) M x):=fun x=>by
  have:=JE P t x
  rw[hP]at this
  rw[this,hv]
  exact bn fun i k _ _=>by unfold iX;grind
 have g1:=Ij (lp P t (n+1)) true
 have g2:=Ij (lp P t (n+1)) false
 rw[hc]at g1 g2
 refine⟨hc,g1.trans (H9 hS' hM h1 hc hvc hI),g2.trans (Cv hS' hM h1 hc hvc hI),H7 hS' hc hvc hI,QT hS' hM h1 hc hvc hI, ?_⟩
 have:=hI.sum
 omega
def NC (T:Nat):Nat→Nat
 |0=>2
 |k+1=>2*NC T k+T
theorem EP (T:Nat) {k m:Nat} (h:k≤m):NC T k≤NC T m:=by
 induction m with
 |zero=>rw[Nat.le_zero.1 h];exact Nat.le_refl _
 |succ m ih=>
  by_cases e:k=m+1
  ·rw[e];exact Nat.le_refl _
  ·have:=ih aa
   rw[NC];omega
end Go.Proofs.YtfpagioknjjacaaGreatDoor
