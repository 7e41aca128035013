/- The texts Fb, Oa, Oc, Oe, Qr, Qt, Qu, Az. -/
import Derived.Test.YtfpagioknjjacaaGreatDoorQMModesCount4
import Derived.Test.YtfpagioknjjacaaGreatDoorQMModesCount2
import Derived.Test.YtfpagioknjjacaaGreatDoorQMModesCount9
import Derived.Test.YtfpagioknjjacaaGreatDoorQMModesCount6
import Derived.Test.YtfpagioknjjacaaGreatDoorQMModesCount7
import Derived.Test.YtfpagioknjjacaaGreatDoorQMModesCount22
import Derived.Test.YtfpagioknjjacaaGreatDoorQMModesCount10
import Derived.Test.YtfpagioknjjacaaGreatDoorQMModesCount18
namespace Go.Proofs.YtfpagioknjjacaaGreatDoor
open Go.Sx
set_option linter.unusedSimpArgs false
set_option linter.unusedVariables false
set_option maxRecDepth 100000
set_option maxHeartbeats 4000000
variable {M:Nat}
theorem IJ (ok:jq M) (n:Int) (d:Nat) (h1:sz n.natAbs≤M) (h2:sz d≤M) (hd:d≠0):af Tryz.prog 268 [.int n,.nat d] [] (.cC [.frac (mkRat n d),.val (.int .i64 0)]) [] []:=by
 have k1:=kT ok n d h1 h2 hd
 refine cj [] Tryz.func268 ?_
 intro W0 w0 ρ0 hE
 conv=>whnf
 skip
 refine⟨_,kK aM me rfl (ak rfl) (ak rfl) rfl rfl rfl rfl (oT d 0) mF, ?_⟩
 rw[decide_eq_false hd]
 conv=>whnf
 (repeat(first|(refine ag rfl rfl ?_;conv=>whnf)|(refine a8 (by assumption) ?_;conv=>whnf)));exact aq.refl _
abbrev zV:Bool×List Int→SV:=DJ bel (mc .u32)
abbrev gV:(Bool×List Int)×List Int→SV:=DJ zV (mc .u32)
structure Words (M:Nat) (xs:List Int):Prop where
 w32:fv xs
 len:xs.length<1099511627776
 fit:32*xs.length+33≤M
end Go.Proofs.YtfpagioknjjacaaGreatDoor
namespace Go.Proofs.YtfpagioknjjacaaGreatDoor
open Go.Sx
set_option linter.unusedSimpArgs false
set_option linter.unusedVariables false
set_option maxRecDepth 100000
set_option maxHeartbeats 4000000
def zs (z:Int):Nat:=sz z.natAbs+1
theorem Ou (a b:Int):zs (a+b)≤zs a+zs b:=by
 have:=xy (a:=a.natAbs) (b:=b.natAbs) (k:=max (sz a.natAbs) (sz b.natAbs)) aa aa
 have:=eJ (Int.natAbs_add_le a b)
 unfold zs;omega
theorem acm (a:Int):zs (-a)=zs a:=by unfold zs;rw[Int.natAbs_neg]
theorem acn (a b:Int):zs (a - b)≤zs a+zs b:=by rw[Int.sub_eq_add_neg,←acm b];exact Ou _ _
theorem Ov (a b:Int):zs (a*b)≤zs a+zs b:=by
 have:=fD a.natAbs b.natAbs
 unfold zs;rw[Int.natAbs_mul];omega
theorem aco (a b:Int):zs (a/b)≤zs a:=by
 have:=eJ (Int.natAbs_ediv_le_natAbs a b)
 unfold zs;omega
theorem aie:zs 1=2:=by decide+kernel
theorem Ow (a b:Int) (h:zs a+zs b≤1073741824):af Tryz.prog 181 [.int a,.int b] [] (.int (a+b)) [] []:=xH oW a b (by unfold zs at h;omega) (by unfold zs at h;omega)
theorem acp (a b:Int) (h:zs a+zs b≤1073741824):∃r ok,af Tryz.prog 331 [.int a,.int b] [] (.cC [.int (a/b),.int r,.val (.bool ok)]) [] []:=by
 by_cases h0:b=0
 ·subst h0;rw[Int.ediv_zero];exact⟨_,_,P3 oW a⟩
 ·exact⟨_,_,aaV oW a b (by unfold zs at h;omega) (by unfold zs at h;omega) h0⟩
abbrev aif (l:List Int):SV:=bX 3 .int l
abbrev wA (r c:Int) (a:List Int):SV:=.agg [iv r,iv c,aif a]
def FC (r c:Nat) (f:Mz):List Int:=(List.range (r*c)).map fun p=>f (p/c) (p % c)
abbrev qX (a:List Int) (c i k:Nat):Int:=a.getD (i*c+k) 0
theorem ub (r c:Nat) (f:Mz):(FC r c f).length=r*c:=by simp[FC]
theorem Ox {r c:Nat} {f:Mz} {p:Nat} (hp:p<r*c):(FC r c f).getD p 0=f (p/c) (p % c):=by
 simp[FC,List.getD_eq_getElem?_getD,hp]
theorem uT {r c i k:Nat} {f:Mz} (hi:i<r) (hk:k<c):qX (FC r c f) c i k=f i k:=by
 rw[qX,Ox (eH hi hk),we hk,wg hk]
theorem RX {a b:List Int} {n:Nat} (ha:a.length=n) (hb:b.length=n) (h:∀p,p<n→a.getD p 0=b.getD p 0):a=b:=by
 refine List.ext_getElem aa fun p h1 h2=> ?_
 have:=h p aa
 rwa [List.getD_eq_getElem?_getD,List.getD_eq_getElem?_getD,List.getElem?_eq_getElem h1,List.getElem?_eq_getElem h2]at this
theorem RY {a b:List Int} {r c:Nat} (ha:a.length=r*c) (hb:b.length=r*c) (h:∀i k,i<r→k<c→qX a c i k=qX b c i k):a=b:=by
 refine RX ha hb fun p hp=> ?_
 obtain⟨h1,h2,h3⟩:=pH hp
 have:=h _ _ h1 h2
 rwa [qX,qX,h3]at this
theorem IK {a:List Int} {r c:Nat} {f:Mz} (ha:a.length=r*c) (h:∀i k,i<r→k<c→f i k=qX a c i k):FC r c f=a:=
 RY (ub ..) ha fun i k hi hk=>by rw[uT hi hk,h i k hi hk]
theorem uU {r c:Nat} {f g:Mz} (h:∀i k,i<r→k<c→f i k=g i k):FC r c f=FC r c g:=
 IK (ub ..) fun i k hi hk=>by rw[uT hi hk,h i k hi hk]
theorem Oy {a:List Int} {r c:Nat} (ha:a.length=r*c):FC r c (qX a c)=a:=IK ha fun _ _ _ _=>rfl
def Zm (B:Nat) (l:List Int):Prop:=∀p,p<l.length→zs (l.getD p 0)≤B
theorem Ve {r c B:Nat} {f:Mz} (h:∀i k,i<r→k<c→zs (f i k)≤B):Zm B (FC r c f):=by
 intro p hp
 rw[ub]at hp
 obtain⟨h1,h2,_⟩:=pH hp
 rw[Ox hp];exact h _ _ h1 h2
theorem pk {a:List Int} {r c B i k:Nat} (h:Zm B a) (ha:a.length=r*c) (hi:i<r) (hk:k<c):zs (qX a c i k)≤B:=h _ (by rw[ha];exact eH hi hk)
theorem Zm.mono {B C:Nat} {a:List Int} (h:Zm B a) (hBC:B≤C):Zm C a:=fun p hp=>Nat.le_trans (h p hp) hBC
structure OKZ (R C:Nat) (a:List Int):Prop where
 r:R≤2048
 c:C≤2048
 n:a.length=R*C
end Go.Proofs.YtfpagioknjjacaaGreatDoor
namespace Go.Sx
set_option linter.unusedSimpArgs false
set_option linter.unusedVariables false
end Go.Sx
namespace Go.Proofs.YtfpagioknjjacaaGreatDoor
open Go.Sx
set_option linter.unusedSimpArgs false
set_option linter.unusedVariables false
set_option maxRecDepth 100000
set_option maxHeartbeats 4000000
abbrev sC (r c:Int) (a:List Int) (b s:Int):List SV:=[wA r c a,.int b,iv s]
def crZ (a:List Int) (c i k:Nat):Int:=qX a c 0 0*qX a c (i+1) (k+1) - qX a c (i+1) 0*qX a c 0 (k+1)
theorem acq {a:List Int} {r c i k B:Nat} (h:Zm B a) (ha:a.length=(r+1)*(c+1)) (hi:i<r) (hk:k<c):zs (crZ a (c+1) i k)≤4*B:=by
 have h1:=pk h ha (i:=0) (k:=0) aa aa
 have h2:=pk h ha (i:=i+1) (k:=k+1) aa aa
 have h3:=pk h ha (i:=i+1) (k:=0) aa aa
 have h4:=pk h ha (i:=0) (k:=k+1) aa aa
 have:=acn (qX a (c+1) 0 0*qX a (c+1) (i+1) (k+1)) (qX a (c+1) (i+1) 0*qX a (c+1) 0 (k+1))
 have:=Ov (qX a (c+1) 0 0) (qX a (c+1) (i+1) (k+1))
 have:=Ov (qX a (c+1) (i+1) 0) (qX a (c+1) 0 (k+1))
 unfold crZ;omega
abbrev nxt (r c:Nat) (a:List Int) (b:Int):List Int:=FC r c fun i k=>crZ a (c+1) i k/b
structure zH (n s B:Nat) (A0:Mz) (a:List Int) (b:Int) (w:Nat):Prop where
 le:s≤n
 ex:∃A:Mz,a=FC (n - s) (n - s) (ye s A)∧b=ij s A∧b≠0∧ij n A0=Kn w*ij n A
 z:Zm (B*4^s) a
 zb:zs b≤B*4^s
 w:w≤s
theorem zH.start {n B:Nat} {a:List Int} (ha:a.length=n*n) (hB:2≤B) (h:Zm B a):zH n 0 B (qX a n) a 1 0 where
 le:=Nat.zero_le _
 ex:=⟨qX a n,by rw[←Oy ha,Nat.sub_zero];exact uU fun i k hi hk=>by rw[Ml,uT hi hk],rfl,aH,by rw[Kn,Int.one_mul]⟩
 z:=by rw[Nat.pow_zero,Nat.mul_one];exact h
 zb:=by rw[aie];omega
 w:=Nat.le_refl _
theorem zH.fin {n B:Nat} {A0:Mz} {a:List Int} {b:Int} {w:Nat} (h:zH n n B A0 a b w):ij n A0=if w % 2=1 then -b else b:=by
 obtain⟨A,_,rfl,_,e⟩:=h.ex
 rw[e,wo]
 split<;>omega
theorem zH.none {n s B:Nat} {A0:Mz} {a:List Int} {b:Int} {w:Nat} (h:zH n s B A0 a b w) (hs:s<n) (h0:∀i,i<n - s→qX a (n - s) i 0=0):ij n A0=0:=by
 obtain⟨A,rfl,rfl,hb,e⟩:=h.ex
 rw[e,Mn hb hs fun i hi=>by have:=h0 i aa;rwa [uT aa aa]at this,Int.mul_zero]
theorem zH.ahC {n s B:Nat} {A0:Mz} {a:List Int} {b:Int} {w j:Nat} (h:zH n s B A0 a b w) (hj:s+j<n):
  ∃w',w'=(if 0<j then w+1 else w)∧(∃A:Mz,FC (n - s) (n - s) (js (qX a (n - s)) 0 j)=FC (n - s) (n - s) (ye s A)∧b=ij s A∧b≠0∧ij n A0=Kn w'*ij n A)∧Zm (B*4^s) (FC (n - s) (n - s) (js (qX a (n - s)) 0 j)):=by
 obtain⟨A,ha,hb,hb0,e⟩:=h.ex
 have hl:a.length=(n - s)*(n - s):=by rw[ha,ub]
 refine⟨_,rfl,⟨js A s (s+j), ?_, ?_,hb0, ?_⟩, ?_⟩
 ·refine uU fun p q hp hq=> ?_
  rw[Mo]
  have e2:∀p,p<n - s→qX a (n - s) p q=ye s A p q:=fun p hp=>by rw[ha,uT hp hq]
  unfold js
  by_cases h1:p=0
  ·rw[if_pos h1,if_pos h1,e2 j aa]
  ·rw[if_neg h1,if_neg h1]
   by_cases h2:p=j
   ·rw[if_pos h2,if_pos h2,e2 0 aa]
   ·rw[if_neg h2,if_neg h2,e2 p hp]
 ·rw[yf,hb]
 ·by_cases g:0<j
  ·rw[if_pos g,Jz A aa hj aa,Kn,e,Int.neg_mul_neg]
  ·rw[if_neg g,show s+j=s by omega,Gu,e]
 ·refine Ve fun p q hp hq=> ?_
  unfold js
  split
  ·exact pk h.z hl aa hq
  ·split
   ·exact pk h.z hl aa hq
   ·exact pk h.z hl hp hq
theorem zH.next {n s B:Nat} {A0:Mz} {a:List Int} {b:Int} {w:Nat} (hs:s<n) (hw:w≤s+1) (hz:Zm (B*4^s) a) (hx:∃A:Mz,a=FC (n - s) (n - s) (ye s A)∧b=ij s A∧b≠0∧ij n A0=Kn w*ij n A) (h0:qX a (n - s) 0 0≠0):
  zH n (s+1) B A0 (nxt (n - (s+1)) (n - (s+1)) a b) (qX a (n - s) 0 0) w:=by
 obtain⟨A,ha,hb,hb0,e⟩:=hx
 have hl:a.length=(n - s)*(n - s):=by rw[ha,ub]
 have hn:n - s=n - (s+1)+1:=aa
 have e2:∀p q,p<n - s→q<n - s→qX a (n - s) p q=ye s A p q:=fun p q hp hq=>by rw[ha,uT hp hq]
 have af3:B*4^(s+1)=4*(B*4^s):=by rw[Nat.pow_succ];rw[←Nat.mul_assoc,Nat.mul_comm]
 refine⟨hs,⟨A, ?_, ?_,h0,e⟩, ?_, ?_,hw⟩
 ·refine uU fun i k hi hk=> ?_
  rw[crZ,←hn,e2 0 0 aa aa,e2 (i+1) (k+1) aa aa,e2 (i+1) 0 aa aa,e2 0 (k+1) aa aa,hb]
  exact Qy (by rwa [hb]at hb0) i k
 ·rw[e2 0 0 aa aa,Jy]
 ·rw[af3]
  refine Ve fun i k hi hk=>Nat.le_trans (aco _ _) ?_
  exact acq hz (by rw[hl,hn]) hi hk
 ·rw[af3]
  have:=pk hz hl (i:=0) (k:=0) aa aa;omega
set_option maxHeartbeats 40000000
abbrev acr (r c:Nat) (W:Mx):St:=mX r c ⟨W,[],1⟩
abbrev aih (c:Nat) (a:List Rat):Mx:=p8 a c fun _ _=>0
theorem RZ {r c A:Nat} {a:List Rat} (ha:ot r c a) (sa:Sm A a):∀i q,i<r→q<c+0→fs (aih c a i q)≤A:=Ot ha sa fun i k _ hk=>absurd hk (Nat.not_lt_zero _)
theorem Inv.agree {r c:Nat} {W:Mx} {s t:St} (h:Inv r W c t) (ha:IG r s t):Inv r W c s:=by
 obtain⟨sw,sp,sd⟩:=s
 obtain⟨tw,tp,td⟩:=t
 obtain⟨rfl,rfl,hw,hl⟩:=ha
 simp only at hw hl
 obtain⟨P,hP,hP2⟩:=h.UL
 exact⟨h.len,h.lt,h.inc,fun j hj i hi=>by show sw i _=_;rw[hw i hi];exact h.unit j hj i hi,fun i hi q hq=>by show sw i q=0;rw[hw i (Nat.lt_of_lt_of_le hi h.len)];exact h.left i hi q hq,
  fun i h1 h2 q hq=>by show sw i q=0;rw[hw i h2];exact h.low i h1 h2 q hq,P,hP,fun i hi q=>by show sw i q=_;rw[hw i hi];exact hP2 i hi q⟩
theorem Oz {r c A k:Nat} {s:St} (h:U7 r c A s) (hl:s.bU.length≤r) (hk:k<c):U7 r c A (fU r s k):=by
 obtain⟨sw,sp,sd⟩:=s
 replace hl:sp.length≤r:=hl
 unfold fU
 simp only
 cases hq:il sw k (r - sp.length) sp.length with
 |none=>exact h
 |some i=>have hs:=pI hq;exact h.step hk aa aa
theorem IL {r c A:Nat} {W:Mx} (hA:∀i q,i<r→q<c→fs (W i q)≤A) (h2:2≤A):∀m,m≤c→U7 r c A (acr r m W)
 |0,_=>⟨fun i q hi hq=>by show fs (W i q)≤4^0*A;rw[Nat.pow_zero,Nat.one_mul];exact hA i q hi hq,by show fs 1≤4^0*A;rw[Nat.pow_zero,Nat.one_mul,mf];exact h2⟩
 |m+1,hm=>by
  show U7 r c A (mX r (m+1) ⟨W,[],1⟩)
  rw[nZ]
  exact Oz (IL hA h2 m aa) (mY r W m).le hm
theorem R3 {p r:Nat} (A:Nat) (h:p≤r) (hr:r≤6):4^p*A≤4096*A:=Nat.mul_le_mul_right A (Nat.pow_le_pow_right (n:=4) aH (show p≤6 by omega))
theorem OA {r m c A:Nat} {W:Mx} (hA:∀i q,i<r→q<c→fs (W i q)≤A) (h2:2≤A) (hr:r≤6) (hm:m≤c):(∀i q,i<r→q<c→fs ((acr r m W).w i q)≤4096*A)∧fs (acr r m W).d≤4096*A:=by
 have h:=IL hA h2 m hm
 have hl:=R3 A (mY r W m).le hr
 exact⟨fun i q hi hq=>Nat.le_trans (h.w i q hi hq) hl,Nat.le_trans h.d hl⟩
section
variable {r c A:Nat} {a:List Rat} (ha:ot r c a) (hr:r≤6) (hc:c≤40) (sa:Sm A a) (h2:2≤A) (hA:4096*A≤4398046511104)
include ha hr sa h2
omit sa h2
include hc sa h2 hA
section
variable {b:List Rat} (hb:b.length=r) (sb:Sm A b)
include hb sb
end
end
section
variable {r A:Nat} {a:List Rat} (ha:ot r r a) (hr:r≤6) (sa:Sm A a) (h2:2≤A) (hA:4096*A≤4398046511104)
include ha hr sa h2 hA
end
theorem acs {n A:Nat} {a:List Rat} (ha:ot n n a) (hn:n≤6) (sa:Sm A a) (h2:2≤A):fs (bD n (el a n))≤4096*A:=by
 have hd:=Fj (p8 a n fun _ _=>0) (s:=mX n n ⟨p8 a n fun _ _=>0,[],1⟩) rfl
 rw[II _ _ (Nat.le_refl _)]at hd
 rw[←hd]
 split
 ·rw[eh];omega
 ·exact(OA (c:=n) (RZ ha sa) h2 hn (Nat.le_refl n)).2
def mZ (l:List (Int×Int)) (n:Nat):List Rat:=mk n n fun i k=>delta i k+ao n fun p=>eQ l (p*n+i)*eQ l (p*n+k)
theorem wL {l:List (Int×Int)} {n i k:Nat} (hi:i<n) (hk:k<n):el (mZ l n) n i k=delta i k+ao n fun p=>eQ l (p*n+i)*eQ l (p*n+k):=r8 hi hk
theorem OB (l:List (Int×Int)) (n:Nat):SymM n (mZ l n):=fun i k hi hk=>by
 rw[wL hi hk,wL hk hi]
 congr 1
 ·unfold delta
  by_cases e:i=k
  ·rw[if_pos e,if_pos e.symm]
  ·rw[if_neg e,if_neg (Ne.symm e)]
 ·exact ai n fun p _=>Rat.mul_comm ..
theorem OC (n:Nat) (x:Nat→Rat):qf n delta x=ao n fun i=>x i*x i:=ai n fun i hi=>by
 rw[dA (j:=i) n hi fun k _ a7=>by unfold delta;rw[if_neg (Ne.symm a7)];grind]
 unfold delta;rw[if_pos rfl];grind
theorem R4 (n:Nat) (b:Mx) (x:Nat→Rat):qf n (fun i k=>ao n fun p=>b p i*b p k) x=ao n fun p=>(ao n fun i=>b p i*x i)*ao n fun i=>b p i*x i:=by
 unfold qf
 rw[ai n (g:=fun i=>ao n fun p=>x i*(b p i*ao n fun k=>b p k*x k)) fun i _=>by
  rw[ai n (g:=fun k=>ao n fun p=>x i*(b p i*(b p k*x k))) fun k _=>by
   rw[bO,jr];exact ai n fun p _=>by grind]
  rw[dX]
  exact ai n fun p _=>by rw[bO,bO]]
 rw[dX]
 refine ai n fun p _=> ?_
 rw[jr]
 exact ai n fun i _=>by grind
theorem R5 (l:List (Int×Int)) (n:Nat) (x:Nat→Rat):qf n (el (mZ l n) n) x=ao n (fun i=>x i*x i)+ao n fun p=>(ao n fun i=>eQ l (p*n+i)*x i)*ao n fun i=>eQ l (p*n+i)*x i:=by
 rw[iL (B:=fun i k=>delta i k+ao n fun p=>eQ l (p*n+i)*eQ l (p*n+k)) fun i k hi hk=>wL hi hk,uy,OC,R4 n fun p i=>eQ l (p*n+i)]
theorem Fk (l:List (Int×Int)) (n:Nat) (x:Nat→Rat):ao n (fun i=>x i*x i)≤qf n (el (mZ l n) n) x:=by
 rw[R5]
 have:=qG (n:=n) (f:=fun p=>(ao n fun i=>eQ l (p*n+i)*x i)*ao n fun i=>eQ l (p*n+i)*x i) fun p _=>kX _
 grind
theorem OD (l:List (Int×Int)) (n:Nat):hZ n (el (mZ l n) n):=fun x ⟨i,hi,hx⟩=>by
 have h1:=Fk l n x
 have h2:=pL (n:=n) (f:=fun i=>x i*x i) (fun i _=>kX _) ⟨i,hi,sq_pos hx⟩
 grind
theorem R6 {l:List (Int×Int)} {n:Nat} (hq:∀q∈l,Av q) (hn:n≤5):Sm 1304 (mZ l n):=Mb fun i k _ _=>by
 have h1:=uw (f:=fun p=>eQ l (p*n+i)*eQ l (p*n+k)) (B:=260) n fun p _=>by
  have g1:=D3 (uM hq (p*n+i))
  have g2:=D3 (uM hq (p*n+k))
  have g3:=cT (eQ l (p*n+i)) (eQ l (p*n+k))
  unfold eQ at g3 ⊢
  omega
 have h2:=iH (delta i k) (ao n fun p=>eQ l (p*n+i)*eQ l (p*n+k))
 have h3:fs (delta i k)≤2:=by unfold delta;split<;>decide+kernel
 omega
end Go.Proofs.YtfpagioknjjacaaGreatDoor
