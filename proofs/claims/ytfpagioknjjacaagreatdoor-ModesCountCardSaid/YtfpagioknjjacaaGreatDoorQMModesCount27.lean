/- The texts Mk, Mm, Mo, Mq, Ad, Ag, Xk, Ae, Ai, Mr, Mv, Mw, Aj. -/
import Derived.Test.YtfpagioknjjacaaGreatDoorQMModesCount20
import Derived.Test.YtfpagioknjjacaaGreatDoorQMModesCount26
import Derived.Test.YtfpagioknjjacaaGreatDoorQMModesCount9
import Derived.Test.YtfpagioknjjacaaGreatDoorQMModesCount23
import Derived.Test.YtfpagioknjjacaaGreatDoorQMModesCount21
import Derived.Test.YtfpagioknjjacaaGreatDoorQMModesCount7
import Derived.Test.YtfpagioknjjacaaGreatDoorQMModesCount12
namespace Go.Proofs.YtfpagioknjjacaaGreatDoor
open Go.Sx
set_option linter.unusedSimpArgs false
set_option linter.unusedVariables false
set_option maxRecDepth 100000
set_option maxHeartbeats 40000000
abbrev OJ:aA:=⟨190,true,.one [iv (0:Nat),.val (.slice none 0 0)]⟩
theorem y5 (a m:List Rat) (t:Rat):af Tryz.prog 139 [mA (0:Nat) (0:Nat) a,mA (0:Nat) (0:Nat) m,.frac t] [] (.ptr 1001 0 0 0) [(1001,OJ)] []:=by
 refine yV (Z:=[3,4,5]) aM bB Tryz.func139 rfl aF (ic.of rfl rfl rfl rfl rfl rfl rfl rfl rfl rfl rfl) rfl (bh.id rfl) ?_
 intro W0 w0 ρ0 hE
 conv=>whnf
 (repeat(first|(refine aC Q6 ?_;conv=>whnf)|(refine aC Q9 ?_;conv=>whnf)))
 refine az hE (fun k=>cond (Nat.beq k 14) 1001 k) [3,4,5,7,16,17] [14] (fun _ fr hp=>fr=[(3,cx (mC (0:Nat) (0:Nat) a)),(4,cx (mC (0:Nat) (0:Nat) m)),(5,cx [.frac t]),(7,.ptr 1001 0 0 0),(16,iv (0:Nat)),(17,iv (0:Nat))]∧hp=[(1001,OJ)]) 0 ?_ ?_ ?_
 ·kernel_rfl
 ·exact⟨rfl,rfl⟩
 rintro m' _ _ ⟨rfl,rfl⟩
 conv=>whnf
 (repeat(first|(refine ag rfl rfl ?_;conv=>whnf)))
 exact⟨aq.refl _,by repeat(first|exact get_nil|refine cL rfl ?_),get_nil⟩
theorem y6:af Tryz.prog 193 [.ptr 1001 0 0 0] [(1001,OJ)] (.agg [iv (0:Nat),iv (0:Nat),iv (0:Nat)]) [] [(1001,OJ)]:=by
 refine pf (Z:=[]) aM bB Tryz.func193 rfl aF (bV.of rfl rfl rfl rfl rfl rfl rfl rfl rfl rfl rfl) rfl ?_
 intro W0 w0 ρ0 hE
 conv=>whnf
 (repeat(first|(refine av Q3 ?_;conv=>whnf)|(rw[Int.toNat_natCast];conv=>whnf)|(rw[Nat.zero_add];conv=>whnf)))
 refine az hE (fun k=>k) [0,2,3,4] [2,15,1001] (fun _ fr hp=>fr=[(0,.ptr 1001 0 0 0),(2,.ptr 2 0 0 0),(3,.aK 15 1 0 0),(4,iv (0:Nat))]∧hp=[(2,⟨196,true,.one [iv (0:Nat),iv (0:Nat),iv (0:Nat)]⟩),(15,⟨4,true,.seq 1 []⟩),(1001,OJ)]) 0 ?_ ?_ ?_
 ·kernel_rfl
 ·exact⟨rfl,rfl⟩
 rintro m' _ _ ⟨rfl,rfl⟩
 conv=>whnf
 (repeat(first|(refine ag rfl rfl ?_;conv=>whnf)|(refine av Q3 ?_;conv=>whnf)))
 exact⟨aq.refl _,get_nil,by repeat(first|exact get_nil|refine cL rfl ?_)⟩
def aY (n:Nat) (a m:List Rat) (t:Rat):IS:=ju n n (mh n (ie n a m t))
abbrev cnV (s:IS):SV:=.agg [iv s.m,iv s.left,iv s.p]
theorem Sb {r n:Nat} {X:Mx} {b:aA}:∀j c,(j,c)∈pU r n X→find [(6,b)] j=none:=by
 intro j c hm
 have hj:1001≤j:=by
  rcases List.mem_cons.1 hm with e|hm
  ·cases e;exact Nat.le_refl _
  ·rcases List.mem_cons.1 hm with e|hm
   ·cases e;decide
   ·obtain⟨q,_,_,rfl,_⟩:=eB.1 hm
    omega
 rw[eA aa];rfl
theorem CU {n:Nat} (A:Nat) (a m:List Rat) (t:Rat) (hn:n≤5) (ha:ot n n a) (hm:ot n n m) (Pj:cZ n (ie n a m t)) (h2:2≤A) (hM:A≤80000)
  (hA:∀i q,i<n→q<n→fs (a.getD (i*n+q) 0)+(fs t+fs (m.getD (i*n+q) 0))≤A):
  af Tryz.prog 149 [mA n n a,mA n n m,.frac t] [] (cnV (aY n a m t)) [] []:=by
 obtain⟨F,hF⟩:∃F,aY n a m t=F:=⟨_,rfl⟩
 rw[hF]
 have hB:∀i q,i<n→q<n→fs (ie n a m t i q)≤A:=fun i q hi hq=>by
  have h1:=hA i q hi hq
  have h2:=uv (a.getD (i*n+q) 0) (t*m.getD (i*n+q) 0)
  have h3:=cT t (m.getD (i*n+q) 0)
  show fs (a.getD (i*n+q) 0 - t*m.getD (i*n+q) 0)≤A
  omega
 obtain⟨r,hrn⟩:∃r,r=n:=⟨_,rfl⟩
 by_cases h0:r=0
 ·obtain rfl:n=0:=aa
  have kb:=y5 a m t
  have ki:=y6
  obtain rfl:F=mh 0 (ie 0 a m t):=hF.symm
  refine cj [3,4,5] Tryz.func149 ?_
  intro W0 w0 ρ0 hE
  conv=>whnf
  (repeat(first|(refine oR (by assumption) rfl ?_;conv=>whnf)|(refine vh (by assumption) rfl rfl ?_;conv=>whnf)|(refine aC Q6 ?_;conv=>whnf)));exact Q4
 ·have kb:=wK (r:=r) a m t hrn aa aa ha hm (fun i q hi hq=>by have:=hA i q hi hq;omega)
  have ki:=uX (r:=r) A (ie n a m t) F hrn aa aa Pj hB h2 hM hF
  rcases(show r=1∨r=2∨r=3∨r=4∨r=5 by omega)with e1|e1|e1|e1|e1
  all_goals
   rw[e1]at kb ki
   refine cj [3,4,5] Tryz.func149 ?_
   intro W0 w0 ρ0 hE
   conv=>whnf
   (repeat(first|(refine aC Q6 ?_;conv=>whnf)|(refine⟨[],_,pU _ n _,[],kb,aD,Sb,ar, ?_⟩;conv=>whnf)|(refine⟨pU _ n _,_,[],pU _ n _,ki,uV rfl rfl (fun j hj=>by(rcases(show j=0∨j=1∨j=2∨j=3∨j=4 by omega)with h|h|h|h|h)<;>first|(exfalso;omega)|(subst h;rfl)),an,pW, ?_⟩;conv=>whnf)));exact Q4
structure OL (n:Nat) (a:List Rat):Prop where
 ok:ot n n a
 sym:a=vo n n a
structure Bg (n A:Nat) (a m:List Rat):Prop where
 n5:n≤5
 sa:OL n a
 sm:OL n m
 af6:cZ n (ie n m m 0)
 h2:2≤A
 hM:A≤80000
 sz:∀i q,i<n→q<n→fs (m.getD (i*n+q) 0)≤A
 pos:(aY n m m 0).p=n
theorem wO {n:Nat} {a:List Rat} (h:OL n a):af Tryz.prog 88 [mA n n a] [] (.val (.bool true)) [] []:=by
 have:=vv h.ok
 rwa [show yQ n n n n a (vo n n a)=true from by unfold yQ;rw[←h.sym];simp]at this
theorem iR {n A:Nat} {a m:List Rat} (h:Bg n A a m):af Tryz.prog 59 [mA n n a,mA n n m] [] (iv 0) [] []:=by
 have k1:=fT h.sa.ok
 have k2:=fT h.sm.ok
 have k3:=wO h.sa
 have k4:=wO h.sm
 have hn:=h.n5
 have gN:=h.pos
 have hB:∀i q,i<n→q<n→fs (ie n m m 0 i q)≤A:=fun i q hi hq=>by
  show fs (m.getD (i*n+q) 0 - 0*m.getD (i*n+q) 0)≤A
  rw[show m.getD (i*n+q) 0 - 0*m.getD (i*n+q) 0=m.getD (i*n+q) 0 by grind]
  exact h.sz i q hi hq
 obtain⟨F,hF⟩:∃F,aY n m m 0=F:=⟨_,rfl⟩
 rw[hF]at gN
 have t1:decide (((n:Nat):Int)>64)=false:=decide_eq_false aa
 obtain⟨r,hrn⟩:∃r,r=n:=⟨_,rfl⟩
 by_cases h0:r=0
 ·obtain rfl:n=0:=aa
  have kb:=y5 m m 0
  have ki:=y6
  refine cj [2,3] Tryz.func59 ?_
  intro W0 w0 ρ0 hE
  conv=>whnf
  (repeat((first|refine ah rfl rfl ?_|refine ag rfl rfl ?_|refine aB aF ?_|refine a8 (by assumption) ?_|refine oR (by assumption) rfl ?_|refine vh (by assumption) rfl rfl ?_|refine aC ik ?_|rw[bne_self_eq_false]|refine aC Q6 ?_|refine aC Q9 ?_|refine⟨_,[],[],dZ rfl (ak rfl) (l:=[.int .i64 _,.int .i64 _,.int .i64 _]) rfl (ak rfl) (db.get (t:=196) aM rfl) rfl (db.get (t:=3) aM rfl) rfl rfl aH aH (v:=.int .i64 _) rfl rfl,aD,an, ?_⟩);conv=>whnf));exact Q4
 ·have kb:=wK (r:=r) m m 0 hrn aa aa h.sm.ok h.sm.ok (fun i q hi hq=>by have:=h.sz i q hi hq;have:=eh;have:=h.hM;omega)
  have ki:=uX (r:=r) A (ie n m m 0) F hrn aa aa h.af6 hB h.h2 h.hM hF
  rw[gN]at ki
  rcases(show r=1∨r=2∨r=3∨r=4∨r=5 by omega)with e1|e1|e1|e1|e1
  all_goals
   rw[e1]at kb ki
   refine cj [2,3] Tryz.func59 ?_
   intro W0 w0 ρ0 hE
   conv=>whnf
   (repeat(first|(refine ah rfl rfl ?_;conv=>whnf)|(refine ag rfl rfl ?_;conv=>whnf)|(refine aB aF ?_;conv=>whnf)|(refine a8 (by assumption) ?_;conv=>whnf)|(refine aC ik ?_;conv=>whnf)|(rw[bne_self_eq_false];conv=>whnf)|(refine aW t1 ?_;conv=>whnf)|(refine aC Q6 ?_;conv=>whnf)|(refine aC Q9 ?_;conv=>whnf)|(refine⟨[],_,pU _ n _,[],kb,aD,(fun _ _ _=>rfl),ar, ?_⟩;conv=>whnf)|(refine⟨pU _ n _,_,[],pU _ n _,ki,uV rfl rfl (fun j hj=>by(rcases(show j=0∨j=1∨j=2∨j=3∨j=4 by omega)with h|h|h|h|h)<;>first|(exfalso;omega)|(subst h;rfl)),an,pW, ?_⟩;conv=>whnf)|(refine⟨_,[],[],dZ rfl (ak rfl) (l:=[.int .i64 _,.int .i64 _,.int .i64 _]) rfl (ak rfl) (db.get (t:=196) aM rfl) rfl (db.get (t:=3) aM rfl) rfl rfl aH aH (v:=.int .i64 _) rfl rfl,aD,an, ?_⟩;conv=>whnf)));exact Q4
theorem J3 {n A B:Nat} {a m:List Rat} (t:Rat) (h:Bg n A a m) (Pj:cZ n (ie n a m t)) (h2:2≤B) (hM:B≤80000)
  (hB:∀i q,i<n→q<n→fs (a.getD (i*n+q) 0)+(fs t+fs (m.getD (i*n+q) 0))≤B):
  af Tryz.prog 38 [mA n n a,mA n n m,.frac t] [] (.cC [iv (aY n a m t).m,iv (aY n a m t).left,iv (aY n a m t).p,iv 0]) [] []:=by
 have k1:=iR h
 have k2:=CU B a m t h.n5 h.sa.ok h.sm.ok Pj h2 hM hB
 refine cj [3,4,5] Tryz.func38 ?_
 intro W0 w0 ρ0 hE
 conv=>whnf
 (repeat((first|refine ag rfl rfl ?_|refine aB aF ?_|refine av Q3 ?_|refine a8 (by assumption) ?_|rw[bne_self_eq_false]|refine aC Q6 ?_);conv=>whnf));exact Q4
structure zI (n B C:Nat) (a m:List Rat):Prop where
 n5:n≤5
 oa:a.length=n*n
 om:m.length=n*n
 sa:SymM n a
 sm:SymM n m
 pos:hZ n (el m n)
 za:Sm B a
 zm:Sm C m
section
variable {n B C:Nat} {a m:List Rat} (h:zI n B C a m)
include h
theorem zI.ka:ot n n a:=⟨by have:=h.n5;omega,by have:=h.n5;omega,h.oa⟩
theorem zI.km:ot n n m:=⟨by have:=h.n5;omega,by have:=h.n5;omega,h.om⟩
theorem zI.sym (t:Rat):cZ n (ie n a m t):=pN (A:=el a n) (M:=el m n) h.sa h.sm t
theorem zI.GD (t:Rat):cK n (iX (el a n) (el m n) t) (aY n a m t).m (aY n a m t).left (aY n a m t).p:=qL (h.sym t)
theorem zI.self:zI n C C m m:=⟨h.n5,h.om,h.om,h.sm,h.sm,h.pos,h.zm,h.zm⟩
theorem zI.ok (h2:2≤C) (hC:C≤80000):Bg n C a m where
 n5:=h.n5
 sa:=⟨h.ka,(sX h.oa h.sa).symm⟩
 sm:=⟨h.km,(sX h.om h.sm).symm⟩
 af6:=h.self.sym 0
 h2:=h2
 hM:=hC
 sz i q hi hq:=jE h.zm h.om hi hq
 pos:=h.pos.GD ((h.self.GD 0).congr fun i k _ _=>by unfold iX;grind)
theorem zI.sum (t:Rat):(aY n a m t).m+(aY n a m t).left+(aY n a m t).p=n:=(h.GD t).sum
theorem zI.size {T D:Nat} {t:Rat} (ht:fs t≤T) (hD:B+(T+C)≤D):∀i q,i<n→q<n→fs (a.getD (i*n+q) 0)+(fs t+fs (m.getD (i*n+q) 0))≤D:=fun i q hi hq=>by
 have h1:=jE h.za h.oa hi hq
 have h2:=jE h.zm h.om hi hq
 unfold el at h1 h2
 omega
theorem zI.count {T:Nat} (t:Rat) (ht:fs t≤T) (h2:2≤C) (hD:B+(T+C)≤80000):af Tryz.prog 38 [mA n n a,mA n n m,.frac t] [] (.cC [iv (aY n a m t).m,iv (aY n a m t).left,iv (aY n a m t).p,iv 0]) [] []:=
 J3 t (h.ok h2 aa) (h.sym t) (B:=B+(T+C)) aa aa (h.size ht (Nat.le_refl _))
theorem zI.steps:Steps (fun t=>(aY n a m t).m) fun t=>(aY n a m t).left:=⟨fun t t' QJ=>(h.GD t).abx h.sa h.sm h.pos QJ (h.GD t')⟩
end
theorem Sc {l b:List (Int×Int)} {n:Nat} (hl:∀q∈l,Av q) (hb:∀q∈b,Av q) (hn:n≤5):zI n 130 1304 (GZ l n) (mZ b n):=
 ⟨hn,(wG n hl).1,kU ..,(wG n hl).2.1,OB b n,OD b n,(wG n hl).2.2,R6 hb hn⟩
def Kp (o:Nat):Nat→List Rat→List Rat
 |0,v=>v
 |j+1,v=>Kp o j (v.set (o+j) ((v.getD (o+j) 0 - v.getD (o+j - 1) 0)/((o:Int):Rat)))
def FD (n:Nat):Nat→List Rat→List Rat
 |0,v=>v
 |k+1,v=>FD n k (Kp (n - k) (k+1) v)
def IN (t:Nat):Nat→List Rat→List Rat
 |0,w=>w
 |j+1,w=>IN t j (w.set j (if 0<j then w.getD j 0*((-(t:Int):Int):Rat)+w.getD (j - 1) 0 else w.getD j 0*((-(t:Int):Int):Rat)))
def C9 (n:Nat) (v:List Rat):Nat→List Rat→List Rat
 |0,w=>w
 |k+1,w=>C9 n v k ((IN k (n+1) w).set 0 ((IN k (n+1) w).getD 0 0+v.getD k 0))
def CV (n:Nat) (a m:List Rat):List Rat:=(List.range (n+1)).map fun t=>bD n (el (mk n n (ie n a m (((t:Nat):Int):Rat))) n)
def vG (n:Nat) (a m:List Rat):List Rat:=C9 n (FD n n (CV n a m)) (n+1) (List.replicate (n+1) 0)
theorem Fo (n:Nat) (a m:List Rat):(CV n a m).length=n+1:=by simp[CV]
theorem Fp {n t:Nat} {a m:List Rat} (h:t<n+1):(CV n a m).getD t 0=bD n (el (mk n n (ie n a m (((t:Nat):Int):Rat))) n):=by simp[CV,List.getD_eq_getElem?_getD,h]
theorem OM {o t:Nat} {v:List Rat} (h1:1≤o) (h:o≤t):Kp o (t+1 - o) v=Kp o (t - 1+1 - o) (v.set t ((v.getD t 0 - v.getD (t - 1) 0)/((o:Int):Rat))):=by
 obtain⟨j,rfl⟩:∃j,t=o+j:=⟨t - o,aa⟩
 rw[show o+j+1 - o=j+1 by omega,show o+j - 1+1 - o=j by omega,Kp]
theorem acx {B p:Nat} {v:List Rat} (h:Sm B v) (hB:2≤B):fs (v.getD p 0)≤B:=by
 by_cases hp:p<v.length
 ·exact h p hp
 ·rw[List.getD_eq_getElem?_getD,List.getElem?_eq_none aa]
  have:fs (0:Rat)≤B:=by rw[eh];exact hB
  exact this
theorem ON {r n k:Nat} {X:Mx} {b:aA} (hk:k<1000):∀j c,(j,c)∈pU r n X→find [(k,b)] j=none:=by
 intro j c hm
 have hj:1001≤j:=by
  rcases List.mem_cons.1 hm with e|hm
  ·cases e;exact Nat.le_refl _
  ·rcases List.mem_cons.1 hm with e|hm
   ·cases e;decide
   ·obtain⟨q,_,_,rfl,_⟩:=eB.1 hm
    omega
 rw[eA aa];rfl
theorem Sd {n:Nat} (X:Mx) (i k:Nat) (hi:i<n) (hk:k<n) (hn:n≤5):af Tryz.prog 140 ([]++([iv (i:Nat),iv (k:Nat)]++[cx [RV n ((List.range n).map (bz n X))]])) [] (.frac (X i k)) [] []:=by
 have e1:((List.range n).map (bz n X)).getD i []=bz n X i:=by simp[List.getD_eq_getElem?_getD,hi]
 have e2:(bz n X i).getD k 0=X i k:=da hk
 have l1:((List.range n).map (bz n X)).length=n:=by simp
 have l2:(bz n X i).length=n:=dp _ _
 generalize bz n X i=R at*
 generalize (List.range n).map (bz n X)=L at*
 have hiL:i<L.length:=aa
 have hkR:k<R.length:=aa
 refine cj [] Tryz.func140 ?_
 intro W0 w0 ρ0 hE
 conv=>whnf
 (repeat((first|refine aC An ?_|refine aC Q6 ?_|refine aC Kk ?_|refine aC Q9 ?_|refine aC (jJ rfl (ak rfl)) ?_|rw[e1]|rw[e2]);conv=>whnf));exact Q4
theorem af7 {n:Nat} {v:List Rat} (h:v.length=n+1) (hn:n≤4):(n=0∧∃a,v=[a])∨(n=1∧∃a b,v=[a,b])∨(n=2∧∃a b c,v=[a,b,c])∨(n=3∧∃a b c d,v=[a,b,c,d])∨(n=4∧∃a b c d e,v=[a,b,c,d,e]):=by
 match v,h with
 |[a],h=>exact .inl ⟨by simp at h;omega,a,rfl⟩
 |[a,b],h=>exact .inr (.inl ⟨by simp at h;omega,a,b,rfl⟩)
 |[a,b,c],h=>exact .inr (.inr (.inl ⟨by simp at h;omega,a,b,c,rfl⟩))
 |[a,b,c,d],h=>exact .inr (.inr (.inr (.inl ⟨by simp at h;omega,a,b,c,d,rfl⟩)))
 |[a,b,c,d,e],h=>exact .inr (.inr (.inr (.inr ⟨by simp at h;omega,a,b,c,d,e,rfl⟩)))
 |_::_::_::_::_::_::_,h=>simp at h;omega
def uc (n:Nat) (v:List Rat):List Rat:=C9 n (FD n n v) (n+1) (List.replicate (n+1) 0)
def nf (a b c d e x:Rat):Rat:=a+x*(b+(x - 1)*(c+(x - 2)*(d+(x - 3)*e)))
theorem nf0 (a b c d e:Rat):nf a b c d e ((0:Nat):Rat)=a:=by rw[show((0:Nat):Rat)=0 from rfl,nf];grind
theorem nf1 (a b c d e:Rat):nf a b c d e ((1:Nat):Rat)=a+b:=by rw[show((1:Nat):Rat)=1 from rfl,nf];grind
theorem nf2 (a b c d e:Rat):nf a b c d e ((2:Nat):Rat)=a+2*b+2*c:=by rw[show((2:Nat):Rat)=2 from rfl,nf];grind
theorem nf3 (a b c d e:Rat):nf a b c d e ((3:Nat):Rat)=a+3*b+6*c+6*d:=by rw[show((3:Nat):Rat)=3 from rfl,nf];grind
theorem nf4 (a b c d e:Rat):nf a b c d e ((4:Nat):Rat)=a+4*b+12*c+24*d+24*e:=by rw[show((4:Nat):Rat)=4 from rfl,nf];grind
theorem nw1 (a b:Rat):FD 1 1 [a,b]=[a,b - a]:=by
 simp only[FD,Kp,List.set_cons_zero,List.set_cons_succ,List.getD_cons_zero,List.getD_cons_succ,Nat.add_zero,Nat.zero_add,Nat.sub_zero,Nat.reduceAdd,Nat.reduceSub,List.cons.injEq,and_true,true_and]
 simp<;>grind
theorem nw2 (a b c:Rat):FD 2 2 [a,b,c]=[a,b - a,(c - 2*b+a)/2]:=by
 simp only[FD,Kp,List.set_cons_zero,List.set_cons_succ,List.getD_cons_zero,List.getD_cons_succ,Nat.add_zero,Nat.zero_add,Nat.sub_zero,Nat.reduceAdd,Nat.reduceSub,List.cons.injEq,and_true,true_and]
 refine⟨?_, ?_⟩<;>simp<;>grind
theorem nw3 (a b c d:Rat):FD 3 3 [a,b,c,d]=[a,b - a,(c - 2*b+a)/2,(d - 3*c+3*b - a)/6]:=by
 simp only[FD,Kp,List.set_cons_zero,List.set_cons_succ,List.getD_cons_zero,List.getD_cons_succ,Nat.add_zero,Nat.zero_add,Nat.sub_zero,Nat.reduceAdd,Nat.reduceSub,List.cons.injEq,and_true,true_and]
 refine⟨?_, ?_, ?_⟩<;>simp<;>grind
theorem nw4 (a b c d e:Rat):FD 4 4 [a,b,c,d,e]=[a,b - a,(c - 2*b+a)/2,(d - 3*c+3*b - a)/6,(e - 4*d+6*c - 4*b+a)/24]:=by
 simp only[FD,Kp,List.set_cons_zero,List.set_cons_succ,List.getD_cons_zero,List.getD_cons_succ,Nat.add_zero,Nat.zero_add,Nat.sub_zero,Nat.reduceAdd,Nat.reduceSub,List.cons.injEq,and_true,true_and]
 refine⟨?_, ?_, ?_, ?_⟩<;>simp<;>grind
theorem ho0 (a x:Rat):cm (C9 0 [a] 1 [0]) x=nf a 0 0 0 0 x:=by
 simp[C9,IN,cm,nf]
 try grind
theorem ho1 (a b x:Rat):cm (C9 1 [a,b] 2 [0,0]) x=nf a b 0 0 0 x:=by
 simp[C9,IN,cm,nf]
 try grind
theorem Pc (a b c x:Rat):cm (C9 2 [a,b,c] 3 [0,0,0]) x=nf a b c 0 0 x:=by
 simp[C9,IN,cm,nf]
 try grind
theorem ho3 (a b c d x:Rat):cm (C9 3 [a,b,c,d] 4 [0,0,0,0]) x=nf a b c d 0 x:=by
 simp[C9,IN,cm,nf]
 try grind
theorem ho4 (a b c d e x:Rat):cm (C9 4 [a,b,c,d,e] 5 [0,0,0,0,0]) x=nf a b c d e x:=by
 simp[C9,IN,cm,nf]
 try grind
theorem IP (t:Nat):∀j w,(IN t j w).length=w.length
 |0,_=>rfl
 |j+1,w=>by rw[IN,IP t j,List.length_set]
theorem IQ (n:Nat) (v:List Rat):∀k w,(C9 n v k w).length=w.length
 |0,_=>rfl
 |k+1,w=>by rw[C9,IQ n v k,List.length_set,IP]
theorem OO (n:Nat) (v:List Rat):(uc n v).length=n+1:=by rw[uc,IQ,List.length_replicate]
theorem q2 (a b c:Rat):a+2*(b - a)+2*((c - 2*b+a)/2)=c:=by grind
theorem q3 (a b c d:Rat):a+3*(b - a)+6*((c - 2*b+a)/2)+6*((d - 3*c+3*b - a)/6)=d:=by grind
theorem q4 (a b c d e:Rat):a+4*(b - a)+12*((c - 2*b+a)/2)+24*((d - 3*c+3*b - a)/6)+24*((e - 4*d+6*c - 4*b+a)/24)=e:=by grind
theorem q1 (a b:Rat):a+(b - a)=b:=by grind
theorem acy {k n:Nat} (h:k<n+1) (hn:n≤4):k=0∨(k=1∧1≤n)∨(k=2∧2≤n)∨(k=3∧3≤n)∨(k=4∧4≤n):=aa
theorem Se {n:Nat} {v:List Rat} (h:v.length=n+1) (hn:n≤4):∀k:Nat,k<n+1→cm (uc n v) k=v.getD k 0:=by
 intro k hk
 have kE:=acy hk hn
 rcases af7 h hn with⟨rfl,a,rfl⟩|⟨rfl,a,b,rfl⟩|⟨rfl,a,b,c,rfl⟩|⟨rfl,a,b,c,d,rfl⟩|⟨rfl,a,b,c,d,e,rfl⟩
 ·rw[uc,show FD 0 0 [a]=[a]from rfl,show List.replicate (0+1) (0:Rat)=[0]from rfl,ho0]
  rcases kE with rfl|⟨rfl,g⟩|⟨rfl,g⟩|⟨rfl,g⟩|⟨rfl,g⟩
  ·exact nf0 ..
  all_goals omega
 ·rw[uc,nw1,show List.replicate (1+1) (0:Rat)=[0,0]from rfl,ho1]
  rcases kE with rfl|⟨rfl,g⟩|⟨rfl,g⟩|⟨rfl,g⟩|⟨rfl,g⟩
  ·exact nf0 ..
  ·exact(nf1 ..).trans (q1 a b)
  all_goals omega
 ·rw[uc,nw2,show List.replicate (2+1) (0:Rat)=[0,0,0]from rfl,Pc]
  rcases kE with rfl|⟨rfl,g⟩|⟨rfl,g⟩|⟨rfl,g⟩|⟨rfl,g⟩
  ·exact nf0 ..
  ·exact(nf1 ..).trans (q1 a b)
  ·exact(nf2 ..).trans (q2 a b c)
  all_goals omega
 ·rw[uc,nw3,show List.replicate (3+1) (0:Rat)=[0,0,0,0]from rfl,ho3]
  rcases kE with rfl|⟨rfl,g⟩|⟨rfl,g⟩|⟨rfl,g⟩|⟨rfl,g⟩
  ·exact nf0 ..
  ·exact(nf1 ..).trans (q1 a b)
  ·exact(nf2 ..).trans (q2 a b c)
  ·exact(nf3 ..).trans (q3 a b c d)
  all_goals omega
 ·rw[uc,nw4,show List.replicate (4+1) (0:Rat)=[0,0,0,0,0]from rfl,ho4]
  rcases kE with rfl|⟨rfl,g⟩|⟨rfl,g⟩|⟨rfl,g⟩|⟨rfl,g⟩
  ·exact nf0 ..
  ·exact(nf1 ..).trans (q1 a b)
  ·exact(nf2 ..).trans (q2 a b c)
  ·exact(nf3 ..).trans (q3 a b c d)
  ·exact(nf4 ..).trans (q4 a b c d e)
theorem Sf {n:Nat} {v c:List Rat} (h:v.length=n+1) (hn:n≤4) (hc:c.length=n+1) (hv:∀k:Nat,k<n+1→cm c k=v.getD k 0):uc n v=c:=
 wz (OO ..) hc fun k hk=>(Se h hn k hk).trans (hv k hk).symm
theorem OP {i k:Nat}:(((i:Nat):Int)==((k:Nat):Int))=decide (i=k):=by
 by_cases e:i=k
 ·subst e;rw[decide_eq_true rfl];exact beq_self_eq_true _
 ·rw[decide_eq_false e];exact beq_eq_false_iff_ne.2 aa
theorem acz (l:List (Int×Int)) (hl:l.length≤maxLen) (hq:∀q∈l,Av q) {n:Nat} (hn:n≤5):af Tryz.prog 136 [iv n,bX 2 qA l] [] (mA n n (mZ l n)) [] []:=by
 have h00:(0:Int)≤0∧(0:Int)<256:=aH
 have k0:=ab6 (0,0,l) ⟨h00,h00,hl,hq⟩ (r:=n) (c:=n) aa aa
 replace k0:af Tryz.prog 63 [mQ (0,0,l),iv n,iv n] [] (mA n n (oh l (n*n))) [] []:=k0
 have lX:=A6 l (n*n)
 have hX:∀p i,p<n→i<n→(oh l (n*n)).getD (p*n+i) 0=eQ l (p*n+i):=fun p i hp hi=>A7 (eH hp hi)
 have hP:(mZ l n).length=n*n:=kU ..
 have hPe:∀i k,i<n→k<n→(mZ l n).getD (i*n+k) 0=delta i k+ao n fun p=>eQ l (p*n+i)*eQ l (p*n+k):=fun i k hi hk=>wL hi hk
 have Ra:∀p,fs (eQ l p)≤130:=fun p=>D3 (uM hq p)
 have hnn:n*n≤5*5:=Nat.mul_le_mul hn hn
 generalize oh l (n*n)=X at*
 generalize mZ l n=P at*
 generalize eQ l=w at*
 refine qU [] Tryz.func136 ?_
 intro w0 ρ0 hE
 conv=>whnf
 (repeat(first|(refine a8 (by assumption) ?_;conv=>whnf)))
 refine qP (j:=6) (k:=2001) (s:=5) (p:=2) (blk:=gk []) rfl rfl rfl rfl rfl ?_
 refine cn hE (fun k=>k) [0,4,5,6,7] [4,5,6,2001] (fun m fr hp=>∃i:Nat,m=n - i∧i≤n∧fr=[(0,iv n),(4,.ptr 4 0 0 0),(5,.ptr 5 0 0 0),(6,.ptr 6 0 0 0),(7,iv (i:Nat))]∧
  hp=[(4,zM),(5,⟨38,true,.one (mC n n X)⟩),(6,⟨38,true,.one [iv n,iv n,.aK 2001 5 0 (i*n)]⟩),(2001,gk (P.take (i*n)))]) n ?_ ?_ ?_
 ·kernel_rfl
 ·exact⟨0,rfl,Nat.zero_le _,rfl,by rw[Nat.zero_mul];rfl⟩
 rintro m _ _ ⟨i,rfl,hi,rfl,rfl⟩
 by_cases aI:i<n
 ·have t1:=jD aI
  have t2:=cp (i:=i) aa
  refine dG.of hE ?_
  conv=>whnf
  (repeat(first|(refine aN t1 ?_;conv=>whnf)|(rw[t1];conv=>whnf)))
  refine cn hE (fun k=>k) [0,4,5,6,7,8] [4,5,6,2001] (fun m fr hp=>∃k:Nat,m=n - k∧k≤n∧fr=[(0,iv n),(4,.ptr 4 0 0 0),(5,.ptr 5 0 0 0),(6,.ptr 6 0 0 0),(7,iv (i:Nat)),(8,iv (k:Nat))]∧
   hp=[(4,zM),(5,⟨38,true,.one (mC n n X)⟩),(6,⟨38,true,.one [iv n,iv n,.aK 2001 5 0 (i*n+k)]⟩),(2001,gk (P.take (i*n+k)))]) n ?_ ?_ ?_
  ·kernel_rfl
  ·exact⟨0,rfl,Nat.zero_le _,rfl,rfl⟩
  rintro m _ _ ⟨k,rfl,hk,rfl,rfl⟩
  by_cases hlk:k<n
  ·have t3:=jD hlk
   have t4:=cp (i:=k) aa
   have oJ:=eH aI hlk
   have Rz:(P.take (i*n+k)).length=i*n+k:=by rw[List.length_take];omega
   have hv:=hPe i k aI hlk
   have e1:=Iy (d:=(0:Rat)) (show i*n+k<P.length by omega)
   rw[hv]at e1
   have c1:af Tryz.prog 18 [iv 1] [] (.frac 1) [] []:=eG 1 aH aH
   have hd:delta i k=if i=k then 1 else 0:=rfl
   refine dG.of hE ?_
   conv=>whnf
   have body:∀q,q≤n→True:=fun _ _=>trivial
   by_cases Kh:i=k
   ·have t5:(((i:Nat):Int)==((k:Nat):Int))=true:=by rw[OP];exact decide_eq_true Kh
    rw[if_pos Kh]at hd
    (repeat((first|refine a8 (by assumption) ?_|refine aN t3 ?_|refine aN t5 ?_|rw[t3]|rw[t5]);conv=>whnf))
    refine cn hE (fun k=>k) [0,4,5,6,7,8,9,10] [4,5,6,9,2001] (fun m fr hp=>∃p:Nat,m=n - p∧p≤n∧fr=[(0,iv n),(4,.ptr 4 0 0 0),(5,.ptr 5 0 0 0),(6,.ptr 6 0 0 0),(7,iv (i:Nat)),(8,iv (k:Nat)),(9,.ptr 9 0 0 0),(10,iv (p:Nat))]∧
     hp=[(4,zM),(5,⟨38,true,.one (mC n n X)⟩),(6,⟨38,true,.one [iv n,iv n,.aK 2001 5 0 (i*n+k)]⟩),(9,⟨52,true,.one [.frac (delta i k+ao p fun p=>w (p*n+i)*w (p*n+k))]⟩),(2001,gk (P.take (i*n+k)))]) n ?_ ?_ ?_
    ·kernel_rfl
    ·exact⟨0,rfl,Nat.zero_le _,rfl,by rw[hd];simp only[ao,Rat.add_zero];rfl⟩
    rintro m _ _ ⟨p,rfl,hp,rfl,rfl⟩
    by_cases hlp:p<n
    ·have t6:=jD hlp
     have t7:=cp (i:=p) aa
     obtain⟨w1,w2⟩:=pe (i:=p) (k:=i) (c:=n) aa aa aa
     obtain⟨w3,w4⟩:=pe (i:=p) (k:=k) (c:=n) aa aa aa
     have b1:=eH hlp aI
     have b2:=eH hlp hlk
     have g1:=hX p i hlp aI
     have g2:=hX p k hlp hlk
     have f1:=Ra (p*n+i)
     have f2:=Ra (p*n+k)
     have f3:=cT (w (p*n+i)) (w (p*n+k))
     have hs:=uw (f:=fun p=>w (p*n+i)*w (p*n+k)) (B:=260) p fun j _=>by
      have g1:=Ra (j*n+i)
      have g2:=Ra (j*n+k)
      have g3:=cT (w (j*n+i)) (w (j*n+k))
      omega
     have Ge:fs (delta i k)≤2:=by unfold delta;split<;>decide+kernel
     have Km:=iH (delta i k) (ao p fun p=>w (p*n+i)*w (p*n+k))
     have m1:=s7 (w (p*n+i)) (w (p*n+k)) aa
     have m2:=yT (delta i k+ao p fun p=>w (p*n+i)*w (p*n+k)) (w (p*n+i)*w (p*n+k)) aa
     rw[show delta i k+ao p (fun p=>w (p*n+i)*w (p*n+k))+w (p*n+i)*w (p*n+k)=delta i k+ao (p+1) (fun p=>w (p*n+i)*w (p*n+k))from by rw[ao];exact Rat.add_assoc ..]at m2
     clear hs Km Ge f1 f2 f3
     refine dG.of hE ?_
     conv=>whnf
     (repeat((first|refine aB aF ?_|refine a8 (by assumption) ?_|refine aN t6 ?_|refine aC Q6 ?_|refine aC Q18 ?_|rw[t6]|rw[w1]|rw[w2]|rw[w4]|rw[g1]|rw[g2]|rw[t7]|rw[Int.toNat_natCast]|rw[Nat.zero_add]);conv=>whnf))
     exact⟨n - (p+1),fun k=>k,[0,4,5,6,7,8,9,10],[4,5,6,9,2001],aa,aF,p+1,rfl,hlp,rfl,rfl⟩
    ·have t6:=jP hlp
     obtain rfl:p=n:=aa
     refine dG.of hE ?_
     conv=>whnf
     (repeat((first|refine av Q3 ?_|refine aW t6 ?_|rw[t6]|rw[t4]|rw[Nat.zero_add]);conv=>whnf))
     refine⟨p - (k+1),dc [(64,2001)],[0,4,5,6,7,8],[4,5,6,64],aa,aF,k+1,rfl,hlk,rfl, ?_⟩
     rw[show i*p+(k+1)=i*p+k+1 from rfl,e1];rfl
   ·have t5:(((i:Nat):Int)==((k:Nat):Int))=false:=by rw[OP];exact decide_eq_false Kh
    rw[if_neg Kh]at hd
    (repeat((first|refine aN t3 ?_|refine aW t5 ?_|rw[t3]|rw[t5]);conv=>whnf))
    refine cn hE (fun k=>k) [0,4,5,6,7,8,9,10] [4,5,6,9,2001] (fun m fr hp=>∃p:Nat,m=n - p∧p≤n∧fr=[(0,iv n),(4,.ptr 4 0 0 0),(5,.ptr 5 0 0 0),(6,.ptr 6 0 0 0),(7,iv (i:Nat)),(8,iv (k:Nat)),(9,.ptr 9 0 0 0),(10,iv (p:Nat))]∧
     hp=[(4,zM),(5,⟨38,true,.one (mC n n X)⟩),(6,⟨38,true,.one [iv n,iv n,.aK 2001 5 0 (i*n+k)]⟩),(9,⟨52,true,.one [.frac (delta i k+ao p fun p=>w (p*n+i)*w (p*n+k))]⟩),(2001,gk (P.take (i*n+k)))]) n ?_ ?_ ?_
    ·kernel_rfl
    ·exact⟨0,rfl,Nat.zero_le _,rfl,by rw[hd];simp only[ao,Rat.add_zero];rfl⟩
    rintro m _ _ ⟨p,rfl,hp,rfl,rfl⟩
    by_cases hlp:p<n
    ·have t6:=jD hlp
     have t7:=cp (i:=p) aa
     obtain⟨w1,w2⟩:=pe (i:=p) (k:=i) (c:=n) aa aa aa
     obtain⟨w3,w4⟩:=pe (i:=p) (k:=k) (c:=n) aa aa aa
     have b1:=eH hlp aI
     have b2:=eH hlp hlk
     have g1:=hX p i hlp aI
     have g2:=hX p k hlp hlk
     have f1:=Ra (p*n+i)
     have f2:=Ra (p*n+k)
     have f3:=cT (w (p*n+i)) (w (p*n+k))
     have hs:=uw (f:=fun p=>w (p*n+i)*w (p*n+k)) (B:=260) p fun j _=>by
      have g1:=Ra (j*n+i)
      have g2:=Ra (j*n+k)
      have g3:=cT (w (j*n+i)) (w (j*n+k))
      omega
     have Ge:fs (delta i k)≤2:=by unfold delta;split<;>decide+kernel
     have Km:=iH (delta i k) (ao p fun p=>w (p*n+i)*w (p*n+k))
     have m1:=s7 (w (p*n+i)) (w (p*n+k)) aa
     have m2:=yT (delta i k+ao p fun p=>w (p*n+i)*w (p*n+k)) (w (p*n+i)*w (p*n+k)) aa
     rw[show delta i k+ao p (fun p=>w (p*n+i)*w (p*n+k))+w (p*n+i)*w (p*n+k)=delta i k+ao (p+1) (fun p=>w (p*n+i)*w (p*n+k))from by rw[ao];exact Rat.add_assoc ..]at m2
     clear hs Km Ge f1 f2 f3
     refine dG.of hE ?_
     conv=>whnf
     (repeat((first|refine aB aF ?_|refine a8 (by assumption) ?_|refine aN t6 ?_|refine aC Q6 ?_|refine aC Q18 ?_|rw[t6]|rw[w1]|rw[w2]|rw[w4]|rw[g1]|rw[g2]|rw[t7]|rw[Int.toNat_natCast]|rw[Nat.zero_add]);conv=>whnf))
     exact⟨n - (p+1),fun k=>k,[0,4,5,6,7,8,9,10],[4,5,6,9,2001],aa,aF,p+1,rfl,hlp,rfl,rfl⟩
    ·have t6:=jP hlp
     obtain rfl:p=n:=aa
     refine dG.of hE ?_
     conv=>whnf
     (repeat((first|refine av Q3 ?_|refine aW t6 ?_|rw[t6]|rw[t4]|rw[Nat.zero_add]);conv=>whnf))
     refine⟨p - (k+1),dc [(64,2001)],[0,4,5,6,7,8],[4,5,6,64],aa,aF,k+1,rfl,hlk,rfl, ?_⟩
     rw[show i*p+(k+1)=i*p+k+1 from rfl,e1];rfl
  ·have t3:=jP hlk
   obtain rfl:k=n:=aa
   refine dG.of hE ?_
   conv=>whnf
   (repeat(first|(refine aW t3 ?_;conv=>whnf)|(rw[t3];conv=>whnf)|(rw[t2];conv=>whnf)))
   exact⟨k - (i+1),fun k=>k,[0,4,5,6,7],[4,5,6,2001],aa,aF,i+1,rfl,aI,rfl,by rw[Nat.succ_mul];rfl⟩
 ·have t1:=jP aI
  obtain rfl:i=n:=aa
  rw[List.take_of_length_le aa]
  refine dG.of hE ?_
  conv=>whnf
  (repeat(first|(refine aW t1 ?_;conv=>whnf)))
  exact Q16
theorem OQ {x y:Nat} (hx:x<4611686018427387904) (hy:y<4611686018427387904):Bo .i64 x y=((x&&& y:Nat):Int):=by
 have:x&&& y<4611686018427387904:=Nat.lt_of_le_of_lt Nat.and_le_left hx
 show IntKind.i64.wrap (((BitVec.ofInt 64 x&&& BitVec.ofInt 64 y).toNat:Nat):Int)=_
 rw[BitVec.toNat_and,BitVec.ofInt_natCast,BitVec.ofInt_natCast,BitVec.toNat_ofNat,BitVec.toNat_ofNat,Nat.mod_eq_of_lt (a:=x) aa,Nat.mod_eq_of_lt (a:=y) aa]
 exact wrap_i64 aa aa
theorem OR {N:Nat} (hN:N=1∨N=2):af Tryz.prog 339 [.nat N] [] (iv (N:Nat)) [] []:=by
 rcases hN with rfl|rfl
 ·have k:=uq 1 1001 aH
  rw[show(ae 1).length=1 from aH,show b8 1=[1,0]from by decide]at k
  have kl:af Tryz.prog 362 [.val (.int .u32 1)] [] (.val (.int .i64 1)) [] []:=BY 1 aH
  refine cj [1] Tryz.func339 ?_
  intro W0 w0 ρ0 hE
  conv=>whnf
  (repeat((first|refine ag rfl rfl ?_|refine bg Q3 ?_|refine av Q3 ?_|refine a8 (by assumption) ?_|refine oR (by assumption) rfl ?_|refine aC Q6 ?_);conv=>whnf));exact Q4
 ·have k:=uq 2 1001 aH
  rw[show(ae 2).length=1 from aH,show b8 2=[2,0]from by decide]at k
  have kl:af Tryz.prog 362 [.val (.int .u32 2)] [] (.val (.int .i64 2)) [] []:=BY 2 aH
  refine cj [1] Tryz.func339 ?_
  intro W0 w0 ρ0 hE
  conv=>whnf
  (repeat((first|refine ag rfl rfl ?_|refine bg Q3 ?_|refine av Q3 ?_|refine a8 (by assumption) ?_|refine oR (by assumption) rfl ?_|refine aC Q6 ?_);conv=>whnf));exact Q4
theorem Fq {N:Nat} (hN:N=1∨N=2) (e:Nat):sz (N^e)≤e+1:=by
 rcases hN with rfl|rfl
 ·rw[Nat.one_pow];exact Nat.le_trans (Nat.le_of_eq VZ) aa
 ·exact dV.2 (Nat.pow_lt_pow_right aH aa)
abbrev nB (n:Nat):aA:=⟨46,true,.one [.nat n]⟩
theorem OS {N:Nat} (hN:N=1∨N=2) (K:Nat) (hK:K≤120):af Tryz.prog 290 [.nat N,iv (K:Nat)] [] (.cC [.nat (N^K),iv 0]) [] []:=by
 have kb:=OR hN
 have t1:decide ((K:Int)<0)=false:=decide_eq_false aa
 have t2:decide ((K:Int)>4096)=false:=decide_eq_false aa
 have w1:IntKind.i64.wrap ((K:Int)*(N:Int))=((K*N:Nat):Int):=by
  rw[←Int.natCast_mul]
  have:K*N≤120*2:=Nat.mul_le_mul hK aa
  exact wrap_i64 aa aa
 have t3:decide (((K*N:Nat):Int)>262144)=false:=decide_eq_false (by
  have:K*N≤120*2:=Nat.mul_le_mul hK aa
  omega)
 have k0:af Tryz.prog 176 [.val (.int .u64 1)] [] (.nat 1) [] []:=Ao 1 aH
 have hz:=Fq hN
 have h1:N^1=N:=Nat.pow_one N
 refine cj [] Tryz.func290 ?_
 intro W0 w0 ρ0 hE
 conv=>whnf
 (repeat((first|refine ah rfl rfl ?_|refine ag rfl rfl ?_|refine a8 (by assumption) ?_|refine aC ik ?_|refine aW t3 ?_|rw[t1]|rw[t2]|rw[w1]|rw[t3]);conv=>whnf))
 refine az hE (fun k=>k) [1,2,4,5,6] [2,4,6] (fun m fr hp=>∃eo en:Nat,eo+en*m=K∧(m≠0→en≤K)∧eo≤K∧m≤K∧fr=[(1,iv (m:Nat)),(2,.ptr 2 0 0 0),(4,.ptr 4 0 0 0),(5,iv 0),(6,.ptr 6 0 0 0)]∧hp=[(2,nB (N^en)),(4,nB 0),(6,nB (N^eo))]) K ?_ ?_ ?_
 ·kernel_rfl
 ·exact⟨0,1,aa,fun h=>aa,aa,aa,rfl,by rw[h1];rfl⟩
 rintro m _ _ ⟨eo,en,hs,hen,heo,hm,rfl,rfl⟩
 by_cases O8:m=0
 ·subst O8
  have t4:decide (((0:Nat):Int)>0)=false:=aH
  have:eo=K:=aa
  subst this
  conv=>whnf
  (repeat(first|(refine ag rfl rfl ?_;conv=>whnf)));exact Q4
 ·have t4:decide ((m:Int)>0)=true:=decide_eq_true aa
  have e1:Bo .i64 (m:Int) 1=((m % 2:Nat):Int):=by
   have:=OQ (x:=m) (y:=1) aa aH
   rw[Nat.and_one_is_mod]at this
   exact this
  have e2:jz .i64 (m:Int) 1=((m/2:Nat):Int):=gS .i64 (x:=m) (s:=1) aH
  have als:=hen O8
  have z1:=hz eo
  have z2:=hz en
  have k1:=jU.mul (N^eo) (N^en) aa
  have k2:=jU.mul (N^en) (N^en) aa
  rw[←Nat.pow_add]at k1 k2
  have hmd:m=m % 2+2*(m/2):=aa
  have hmul:en*m=en*(m % 2)+(en+en)*(m/2):=by
   conv=>lhs;rw[hmd,Nat.mul_add,←Nat.mul_assoc,Nat.mul_two]
  by_cases hodd:m % 2=1
  ·have t5:(((m % 2:Nat):Int)==1)=true:=by rw[hodd];rfl
   rw[hodd,Nat.mul_one]at hmul
   by_cases h2:m>1
   ·have t6:decide ((m:Int)>1)=true:=decide_eq_true aa
    have hle:en+en≤K:=by
     have:(en+en)*1≤(en+en)*(m/2):=Nat.mul_le_mul_left _ aa
     omega
    conv=>whnf
    (repeat((first|refine iV Q3 ?_|refine a8 (by assumption) ?_|refine aN t4 ?_|refine aN t5 ?_|refine aN t6 ?_|rw[t4]|rw[e1]|rw[t5]|rw[t6]|rw[e2]);conv=>whnf))
    exact⟨m/2,fun k=>k,[1,2,4,5,6],[2,4,6],aa,aF,eo+en,en+en,aa,fun _=>hle,aa,aa,rfl,rfl⟩
   ·have t6:decide ((m:Int)>1)=false:=decide_eq_false aa
    have Ko:m/2=0:=aa
    rw[Ko,Nat.mul_zero]at hmul
    conv=>whnf
    (repeat((first|refine iV Q3 ?_|refine a8 (by assumption) ?_|refine aN t4 ?_|refine aN t5 ?_|refine aW t6 ?_|rw[t4]|rw[e1]|rw[t5]|rw[t6]|rw[e2]);conv=>whnf))
    exact⟨m/2,fun k=>k,[1,2,4,5,6],[2,4,6],aa,aF,eo+en,en,by rw[Ko];omega,fun h=>absurd Ko h,aa,aa,rfl,rfl⟩
  ·have t5:(((m % 2:Nat):Int)==1)=false:=by rw[show m % 2=0 by omega];rfl
   rw[show m % 2=0 by omega,Nat.mul_zero]at hmul
   have t6:decide ((m:Int)>1)=true:=decide_eq_true aa
   have hle:en+en≤K:=by
    have:(en+en)*1≤(en+en)*(m/2):=Nat.mul_le_mul_left _ aa
    omega
   conv=>whnf
   (repeat((first|refine iV Q3 ?_|refine a8 (by assumption) ?_|refine aN t4 ?_|refine aW t5 ?_|refine aN t6 ?_|rw[t4]|rw[e1]|rw[t5]|rw[t6]|rw[e2]);conv=>whnf))
   exact⟨m/2,fun k=>k,[1,2,4,5,6],[2,4,6],aa,aF,eo,en+en,aa,fun _=>hle,aa,aa,rfl,rfl⟩
theorem acA (K:Nat) (hK:K≤120):af Tryz.prog 189 [.frac 2,iv (K:Nat)] [] (.cC [.frac (2^K),iv 0]) [] []:=by
 have k1:af Tryz.prog 179 [.int 2] [] (.nat 2) [] []:=Hr 2
 have k2:=OS (N:=2) (.inr rfl) K hK
 have k3:af Tryz.prog 207 [.frac 2] [] (.nat 1) [] []:=vj jU 2 Jl
 have k4:=OS (N:=1) (.inl rfl) K hK
 rw[Nat.one_pow]at k4
 have k5:af Tryz.prog 90 [.frac 2] [] (iv 1) [] []:=iU 2
 have hz:=Fq (N:=2) (.inr rfl) K
 have k6:af Tryz.prog 177 [.val (.bool false),.nat (2^K)] [] (.int ((2^K:Nat):Int)) [] []:=gX false (2^K)
 have k7:=IJ jU ((2^K:Nat):Int) 1 Q24 aH aH
 rw[show mkRat ((2^K:Nat):Int) 1=(2:Rat)^K from by rw[Rat.mkRat_one,Int.natCast_pow,Rat.intCast_pow];rfl]at k7
 have t1:decide ((K:Int)< -4096)=false:=decide_eq_false aa
 have t2:decide ((K:Int)>4096)=false:=decide_eq_false aa
 have t3:decide ((K:Int)<0)=false:=decide_eq_false aa
 generalize (2:Nat)^K=P at*
 generalize (2:Rat)^K=Q at*
 refine cj [2] Tryz.func189 ?_
 intro W0 w0 ρ0 hE
 conv=>whnf
 (repeat((first|refine ah rfl rfl ?_|refine ag rfl rfl ?_|refine aB aF ?_|refine a8 (by assumption) ?_|refine aC ik ?_|rw[bne_self_eq_false]|refine aW t2 ?_|refine aC Q6 ?_|refine aC Q9 ?_);conv=>whnf));exact Q4
def iq (n:Nat) (a m:List Rat) (r:Rat):Prop:=(aY n a m (-r)).m=0∧(aY n a m r).p=0
theorem Sg {n B e:Nat} {a m:List Rat} (hn:n≤5) (ha:ot n n a) (hm:ot n n m) (Pj:∀t,cZ n (ie n a m t)) (h2:2≤B) (hM:B+e≤30000)
  (hB:∀i q,i<n→q<n→fs (a.getD (i*n+q) 0)+fs (m.getD (i*n+q) 0)+4≤B) (h1:iq n a m (2^e)) (h0:∀k,k<e→¬iq n a m (2^k)) (hs:∀k,k≤e→fs ((2:Rat)^k)≤4+k):
  af Tryz.prog 237 [mA n n a,mA n n m] [] (.frac (2^e)) [] []:=by
 have k1:af Tryz.prog 18 [iv 1] [] (.frac 1) [] []:=eG 1 aH aH
 have kc:∀t,fs t≤4+e→af Tryz.prog 149 [mA n n a,mA n n m,.frac t] [] (cnV (aY n a m t)) [] []:=fun t ht=>CU (B+e) a m t hn ha hm (Pj t) aa aa fun i q hi hq=>by
  have:=hB i q hi hq;omega
 refine cj [2,3] Tryz.func237 ?_
 intro W0 w0 ρ0 hE
 conv=>whnf
 (repeat(first|(refine a8 (by assumption) ?_;conv=>whnf)))
 refine az hE (fun k=>k) [2,3,4,5] [4,5] (fun m' fr hp=>∃k:Nat,m'=e - k∧k≤e∧fr=[(2,cx (mC n n a)),(3,cx (mC n n m)),(4,.ptr 4 0 0 0),(5,.ptr 5 0 0 0)]∧hp=[(4,⟨52,true,.one [.frac 0]⟩),(5,⟨52,true,.one [.frac (2^k)]⟩)]) e ?_ ?_ ?_
 ·kernel_rfl
 ·exact⟨0,rfl,Nat.zero_le _,rfl,rfl⟩
 rintro m' _ _ ⟨k,rfl,hk,rfl,rfl⟩
 have hsk:=hs k hk
 have kn:=BU ((2:Rat)^k)
 have c1:=kc (-(2^k)) (by rw[oX];omega)
 have c2:=kc (2^k) aa
 have ka:=yT ((2:Rat)^k) (2^k) aa
 rw[show(2:Rat)^k+2^k=2^(k+1)from by rw[Rat.pow_succ];grind]at ka
 have hek:iq n a m (2^k)→k=e:=fun h=>by
  rcases Nat.lt_or_ge k e with g|g
  ·exact absurd h (h0 k g)
  ·omega
 have SB:¬iq n a m (2^k)→k<e:=fun h=>by
  rcases Nat.lt_or_ge k e with g|g
  ·exact g
  ·exact absurd (by rw[show k=e by omega];exact h1) h
 unfold iq at hek SB
 generalize aY n a m (-(2^k))=F1 at*
 generalize aY n a m (2^k)=F2 at*
 conv=>whnf
 by_cases f1:F1.m=0
 ·have t1:decide (((F1.m:Nat):Int)>0)=false:=decide_eq_false aa
  by_cases f2:F2.p=0
  ·have t2:decide (((F2.p:Nat):Int)>0)=false:=decide_eq_false aa
   obtain rfl:=hek ⟨f1,f2⟩
   (repeat((first|refine ah rfl rfl ?_|refine aB aF ?_|refine a8 (by assumption) ?_|refine aC ik ?_|refine aW t2 ?_|refine aC Q6 ?_|refine⟨_,[],[],dZ rfl (ak rfl) (l:=[.int .i64 _,.int .i64 _,.int .i64 _]) rfl (ak rfl) (db.get (t:=196) aM rfl) rfl (db.get (t:=3) aM rfl) rfl rfl aH aH (v:=.int .i64 _) rfl rfl,aD,an, ?_⟩|rw[t1]);conv=>whnf));exact Q4
  ·have t2:decide (((F2.p:Nat):Int)>0)=true:=decide_eq_true aa
   have aI:=SB fun h=>f2 h.2
   (repeat((first|refine ah rfl rfl ?_|refine aB aF ?_|refine a8 (by assumption) ?_|refine aC ik ?_|refine aN t2 ?_|refine aC Q6 ?_|refine⟨_,[],[],dZ rfl (ak rfl) (l:=[.int .i64 _,.int .i64 _,.int .i64 _]) rfl (ak rfl) (db.get (t:=196) aM rfl) rfl (db.get (t:=3) aM rfl) rfl rfl aH aH (v:=.int .i64 _) rfl rfl,aD,an, ?_⟩|rw[t1]|rw[t2]);conv=>whnf))
   exact⟨e - (k+1),fun k=>k,[2,3,4,5],[4,5],aa,aF,k+1,rfl,aI,rfl,rfl⟩
 ·have t1:decide (((F1.m:Nat):Int)>0)=true:=decide_eq_true aa
  have aI:=SB fun h=>f1 h.1
  (repeat((first|refine ah rfl rfl ?_|refine ag rfl rfl ?_|refine aB aF ?_|refine a8 (by assumption) ?_|refine aC iT ?_|refine aC Q6 ?_|refine⟨_,[],[],dZ rfl (ak rfl) (l:=[.int .i64 _,.int .i64 _,.int .i64 _]) rfl (ak rfl) (db.get (t:=196) aM rfl) rfl (db.get (t:=3) aM rfl) rfl rfl aH aH (v:=.int .i64 _) rfl rfl,aD,an, ?_⟩|rw[t1]);conv=>whnf))
  exact⟨e - (k+1),fun k=>k,[2,3,4,5],[4,5],aa,aF,k+1,rfl,aI,rfl,rfl⟩
theorem Bh {n A:Nat} {a m:List Rat} {q:Rat} (h:Bg n A a m) (kr:af Tryz.prog 237 [mA n n a,mA n n m] [] (.frac q) [] []):af Tryz.prog 135 [mA n n a,mA n n m] [] (.cC [.frac q,iv 0]) [] []:=by
 have k1:=iR h
 refine cj [2,3] Tryz.func135 ?_
 intro W0 w0 ρ0 hE
 conv=>whnf
 (repeat((first|refine ag rfl rfl ?_|refine a8 (by assumption) ?_|rw[bne_self_eq_false]|refine aC Q6 ?_);conv=>whnf));exact Q4
theorem OT {n A:Nat} {a m v:List Rat} {x y:Rat} (h:Bg n A a m) (k2:af Tryz.prog 77 [mA n n a,cD v,cD v] [] (.cC [.frac x,iv 0]) [] []) (k3:af Tryz.prog 77 [mA n n m,cD v,cD v] [] (.cC [.frac y,iv 0]) [] [])
  (hy:y≠0) (hs:fs x+fs y≤4398046511104):af Tryz.prog 60 [mA n n a,mA n n m,cD v] [] (.cC [.frac (x/y),iv 0]) [] []:=by
 have k1:=iR h
 have k4:=E5 x y hy hs
 refine cj [3,4] Tryz.func60 ?_
 intro W0 w0 ρ0 hE
 conv=>whnf
 (repeat((first|refine ag rfl rfl ?_|refine a8 (by assumption) ?_|rw[bne_self_eq_false]|refine aC Q6 ?_);conv=>whnf));exact Q4
theorem Sh {n A:Nat} {a m v:List Rat} {x:Rat} (h:Bg n A a m) (k2:af Tryz.prog 77 [mA n n a,cD v,cD v] [] (.cC [.frac x,iv 0]) [] []) (k3:af Tryz.prog 77 [mA n n m,cD v,cD v] [] (.cC [.frac 0,iv 0]) [] []):
  af Tryz.prog 60 [mA n n a,mA n n m,cD v] [] (.cC [.frac 0,iv 5]) [] []:=by
 have k1:=iR h
 have k4:=P6 x
 refine cj [3,4] Tryz.func60 ?_
 intro W0 w0 ρ0 hE
 conv=>whnf
 (repeat((first|refine ag rfl rfl ?_|refine a8 (by assumption) ?_|rw[bne_self_eq_false]|refine aC Q6 ?_);conv=>whnf));exact Q4
def n8 (p:Int→Bool):Nat→Int→Int→Int
 |0,_,high=>high
 |f+1,low,high=>if low<high then(if p ((low+high).ediv 2)=true then n8 p f low ((low+high).ediv 2)else n8 p f ((low+high).ediv 2+1) high)else high
theorem uY (p:Int→Bool):∀(f:Nat) (low high:Int),low≤high→high - low<2^f→p high=true→
  low≤n8 p f low high∧n8 p f low high≤high∧p (n8 p f low high)=true∧(n8 p f low high=low∨p (n8 p f low high - 1)=false)
 |0,low,high,h1,h2,h3=>by
  have:high=low:=by have:(2:Int)^0=1:=rfl;omega
  subst this
  exact⟨Int.le_refl _,Int.le_refl _,h3,.inl rfl⟩
 |f+1,low,high,h1,h2,h3=>by
  rw[n8]
  have hp:(2:Int)^(f+1)=2*2^f:=by rw[Int.pow_succ];omega
  by_cases aI:low<high
  ·rw[if_pos aI]
   have hm:low≤(low+high).ediv 2∧(low+high).ediv 2<high∧2*(low+high).ediv 2≤low+high∧low+high≤2*(low+high).ediv 2+1:=by
    have:(low+high).ediv 2=(low+high)/2:=rfl
    omega
   generalize (low+high).ediv 2=m at*
   cases hpm:p m with
   |true=>
    rw[if_pos rfl]
    obtain⟨a1,a2,a3,a4⟩:=uY p f low m hm.1 aa hpm
    exact⟨a1,aa,a3,a4⟩
   |false=>
    rw[if_neg aH]
    obtain⟨a1,a2,a3,a4⟩:=uY p f (m+1) high aa aa h3
    refine⟨aa,a2,a3,.inr ?_⟩
    rcases a4 with e|e
    ·rw[e,Int.add_sub_cancel];exact hpm
    ·exact e
  ·rw[if_neg aI]
   have:high=low:=aa
   subst this
   exact⟨Int.le_refl _,Int.le_refl _,h3,.inl rfl⟩
theorem IT (k:Int) (step:Rat) (h:sz k.natAbs+fs step≤1000000):af Tryz.prog 338 ([]++([.int k]++[cx [.frac step]])) [] (.frac ((k:Rat)*step)) [] []:=by
 have k1:=IJ jU k 1 aa aH aH
 rw[show mkRat k 1=(k:Rat)from Rat.mkRat_one k]at k1
 have k2:=s7 (k:Rat) step (by have:=vY (n:=k) (k:=sz k.natAbs+1) aa aa;unfold fs at h ⊢;omega)
 have k0:af Tryz.prog 176 [.val (.int .u64 1)] [] (.nat 1) [] []:=Ao 1 aH
 refine cj [2] Tryz.func338 ?_
 intro W0 w0 ρ0 hE
 conv=>whnf
 (repeat(first|(refine aB aF ?_;conv=>whnf)|(refine a8 (by assumption) ?_;conv=>whnf)|(refine aC Q6 ?_;conv=>whnf)));exact Q4
abbrev iBx (z:Int):aA:=⟨50,true,.one [.int z]⟩
theorem OU {f S:Nat} (low high:Int) (step:Rat) (p:Int→Bool) (g:FuncId) (p1 p2 p3:Pred) (hlh:low≤high) (hf:high - low<2^f) (hS:S≤100000) (fG:∀k,low≤k→k≤high→sz k.natAbs≤S) (lU:fs step≤S)
  (hp:∀k:Int,low≤k→k≤high→af Tryz.prog g ([]++([.frac ((k:Rat)*step)]++[.atom p1,.atom p2,.atom p3])) [] (.val (.bool (p k))) [] []):
  af Tryz.prog 289 [.int low,.int high,.frac step,.clo g [] [.atom p1,.atom p2,.atom p3]] [] (.frac ((n8 p f low high:Int)*step)) [] []:=by
 obtain⟨R,hR⟩:∃R,n8 p f low high=R:=⟨_,rfl⟩
 rw[hR]
 refine cj [6] Tryz.func289 ?_
 intro W0 w0 ρ0 hE
 conv=>whnf
 (repeat(first|(refine aC Pa ?_;conv=>whnf)))
 refine az hE (fun k=>k) [3,4,5,8,9] [4,5,8] (fun m' fr hp=>∃lo hi:Int,low≤lo∧lo≤hi∧hi≤high∧hi - lo<2^m'∧n8 p m' lo hi=R∧
  fr=[(3,.clo g [] [.atom p1,.atom p2,.atom p3]),(4,.ptr 4 0 0 0),(5,.ptr 5 0 0 0),(8,.ptr 8 0 0 0),(9,.clo 338 [] [cx [.frac step]])]∧hp=[(4,iBx lo),(5,iBx hi),(8,⟨52,true,.one [.frac 0]⟩)]) f ?_ ?_ ?_
 ·kernel_rfl
 ·exact⟨low,high,Int.le_refl _,hlh,Int.le_refl _,hf,hR,rfl,rfl⟩
 rintro m' _ _ ⟨lo,hi,h1,h2,h3,h4,h5,rfl,rfl⟩
 have s1:=fG lo h1 aa
 have s2:=fG hi aa h3
 have kc:=abj lo hi aa aa
 conv=>whnf
 by_cases aI:lo<hi
 ·have O8:m'≠0:=fun e=>by
   rw[e]at h4
   have:(2:Int)^0=1:=rfl
   omega
  obtain⟨f',rfl⟩:∃f',m'=f'+1:=⟨m' - 1,aa⟩
  have BK:(2:Int)^(f'+1)=2*2^f':=by rw[Int.pow_succ];omega
  have t1:decide ((lo - hi).sign<0)=true:=decide_eq_true (by rw[Int.sign_eq_neg_one_of_neg (a:=lo - hi) aa];decide)
  have z2:zs 2≤4:=aH
  have ka:=Ow lo hi (by unfold zs;omega)
  have kt:af Tryz.prog 105 [.val (.int .i64 2)] [] (.int 2) [] []:=Hs 2 aH aH
  have ko:af Tryz.prog 105 [.val (.int .i64 1)] [] (.int 1) [] []:=Hs 1 aH aH
  obtain⟨rr,ok,kd⟩:=acp (lo+hi) 2 (by have:=Ou lo hi;unfold zs at*;omega)
  have hm:lo≤(lo+hi)/2∧(lo+hi)/2<hi∧2*((lo+hi)/2)≤lo+hi∧lo+hi≤2*((lo+hi)/2)+1:=aa
  have hse:n8 p (f'+1) lo hi=if p ((lo+hi)/2)=true then n8 p f' lo ((lo+hi)/2)else n8 p f' ((lo+hi)/2+1) hi:=by rw[n8,if_pos aI];first|done|rfl
  rw[hse]at h5
  clear hse
  generalize (lo+hi)/2=m at*
  have s3:=fG m aa aa
  have kat:=IT m step aa
  have kh:=hp m aa aa
  have z1:zs 1≤4:=aH
  have kp:=Ow m 1 (by unfold zs at*;omega)
  cases hpm:p m with
  |true=>
   rw[hpm]at kh h5
   rw[if_pos rfl]at h5
   (repeat((first|refine ah rfl rfl ?_|refine a8 (by assumption) ?_|refine aN t1 ?_|rw[t1]);conv=>whnf))
   exact⟨f',fun k=>k,[3,4,5,8,9],[4,5,8],aa,aF,lo,m,h1,hm.1,aa,aa,h5,rfl,rfl⟩
  |false=>
   rw[hpm]at kh h5
   rw[if_neg aH]at h5
   (repeat((first|refine ag rfl rfl ?_|refine aB aF ?_|refine a8 (by assumption) ?_|refine aN t1 ?_|rw[t1]);conv=>whnf))
   exact⟨f',fun k=>k,[3,4,5,8,9],[4,5,8],aa,aF,m+1,hi,aa,aa,h3,aa,h5,rfl,rfl⟩
 ·have t1:decide ((lo - hi).sign<0)=false:=decide_eq_false (by rw[show lo - hi=0 by omega];decide)
  have hRe:R=hi:=by
   rw[←h5]
   cases m' with
   |zero=>rfl
   |succ q=>rw[n8,if_neg aI]
  have kat:=IT hi step aa
  rw[hRe]
  (repeat(first|(refine a8 (by assumption) ?_;conv=>whnf)|(refine aW t1 ?_;conv=>whnf)));exact Q4
theorem J4 {n:Nat} {a m:List Rat} {t:Rat} {k:Nat} (hk:k≤64) (hn:(aY n a m t).m+(aY n a m t).left≤64) (kc:af Tryz.prog 149 [mA n n a,mA n n m,.frac t] [] (cnV (aY n a m t)) [] []):
  af Tryz.prog 288 ([]++([.frac t]++[cx (mC n n a),cx (mC n n m),cx [iv k]])) [] (.val (.bool (decide (k<(aY n a m t).m+(aY n a m t).left)))) [] []:=by
 generalize aY n a m t=F at*
 have w1:IntKind.i64.wrap (((F.m:Nat):Int)+((F.left:Nat):Int))=((F.m+F.left:Nat):Int):=by rw[wrap_i64 aa aa];omega
 have w2:decide (((F.m+F.left:Nat):Int)>((k:Nat):Int))=decide (k<F.m+F.left):=decide_eq_decide.2 ⟨fun h=>aa,fun h=>aa⟩
 rw[←w2]
 refine cj [4] Tryz.func288 ?_
 intro W0 w0 ρ0 hE
 conv=>whnf
 (repeat((first|refine av Q3 ?_|refine a8 (by assumption) ?_|refine aC Q6 ?_|rw[w1]);conv=>whnf));exact Q4
theorem wP (k:Nat):fs ((2:Rat)^k)≤4+k:=by
 have h1:(2:Rat)^k=(((2^k:Nat):Int):Rat):=by rw[Int.natCast_pow,Rat.intCast_pow];rfl
 have h2:=vY (n:=((2^k:Nat):Int)) (k:=k+1) (by rw[Int.natAbs_natCast];exact dV.2 (Nat.pow_lt_pow_right aH aa)) aa
 rw[h1];unfold fs;omega
theorem OV {x:Int} {e:Nat} (h1: -(2:Int)^e≤x) (h2:x≤(2:Int)^e):sz x.natAbs≤e+1:=by
 refine dV.2 (Nat.lt_of_le_of_lt (m:=2^e) ?_ (Nat.pow_lt_pow_right aH aa))
 have:((2^e:Nat):Int)=(2:Int)^e:=Int.natCast_pow ..
 omega
theorem y7 (e:Nat):(2:Rat)^e=(((2:Int)^e:Int):Rat):=by rw[Rat.intCast_pow];rfl
theorem y8 (x:Rat) (a:Nat):∀b:Nat,x^(a+b)=x^a*x^b
 |0=>by rw[Nat.add_zero,Rat.pow_zero,Rat.mul_one]
 |b+1=>by rw[←Nat.add_assoc,Rat.pow_succ,y8 x a b,Rat.pow_succ,Rat.mul_assoc]
theorem two_pos (e:Nat):(0:Rat)<2^e:=Rat.pow_pos aH
section
variable {n B C e:Nat} {a m:List Rat} (h:zI n B C a m)
include h
theorem zI.reach (h2:2≤C) (hs:B+C≤20000) (he:e≤70) (h1:iq n a m (2^e)) (h0:∀k,k<e→¬iq n a m (2^k)):
  af Tryz.prog 237 [mA n n a,mA n n m] [] (.frac (2^e)) [] []:=
 Sg (B:=B+C+4) h.n5 h.ka h.km h.sym aa aa (fun i q hi hq=>by
  have h1:=jE h.za h.oa hi hq
  have h2:=jE h.zm h.om hi hq
  unfold el at h1 h2;omega) h1 h0 fun k _=>wP k
theorem zI.brk {k places:Nat} (hk:k<n) (h1:iq n a m (2^e)) {R:Int}
  (hR:R=n8 (fun K=>decide (k<(aY n a m ((K:Rat)*(1/2^places))).m+(aY n a m ((K:Rat)*(1/2^places))).left)) (e+places+2) (-((2:Int)^(e+places))) ((2:Int)^(e+places))):
  (-((2:Int)^(e+places))≤R∧R≤(2:Int)^(e+places))∧∀low:Rat,(low=if (aY n a m ((R:Rat)*(1/2^places))).m>k then(R:Rat)*(1/2^places) - 1/2^places else(R:Rat)*(1/2^places))→
   Brk (fun t=>(aY n a m t).m) (fun t=>(aY n a m t).left) k (1/2^places) low ((R:Rat)*(1/2^places)):=by
 have hp:(2:Rat)^places*(1/2^places)=1:=by
  rw[Rat.div_def,Rat.one_mul];exact Rat.mul_inv_cancel _ (by have:=two_pos places;grind)
 have lU:(0:Rat)<1/2^places:=by
  rw[Rat.div_def,Rat.one_mul];exact Rat.inv_pos.2 (two_pos places)
 have Vg:∀s:Rat,s*2^(e+places)*(1/2^places)=s*2^e:=fun s=>by
  rw[y8]
  have:s*(2^e*2^places)*(1/2^places)=s*2^e*(2^places*(1/2^places)):=by grind
  rw[this,hp,Rat.mul_one]
 have hM:(((2:Int)^(e+places):Int):Rat)=2^(e+places):=(y7 _).symm
 have gN:(0:Int)<2^(e+places):=Int.pow_pos aH
 have hw:((2:Int)^(e+places)) - (-((2:Int)^(e+places)))<2^(e+places+2):=by
  rw[show e+places+2=(e+places)+1+1 from rfl,Int.pow_succ,Int.pow_succ];omega
 have qy:decide (k<(aY n a m ((((2:Int)^(e+places):Int):Rat)*(1/2^places))).m+(aY n a m ((((2:Int)^(e+places):Int):Rat)*(1/2^places))).left)=true:=by
  rw[hM,show(2:Rat)^(e+places)*(1/2^places)=2^e from by have:=Vg 1;grind]
  have g1:=h.sum (2^e)
  have g2:=h1.2
  exact decide_eq_true aa
 obtain⟨a1,a2,a3,a4⟩:=uY (fun K=>decide (k<(aY n a m ((K:Rat)*(1/2^places))).m+(aY n a m ((K:Rat)*(1/2^places))).left)) (e+places+2) (-((2:Int)^(e+places))) ((2:Int)^(e+places)) aa hw qy
 rw[←hR]at a1 a2 a3 a4
 have b3:=of_decide_eq_true a3
 refine⟨⟨a1,a2⟩,fun low oo=>⟨⟨R,rfl⟩,b3, ?_⟩⟩
 by_cases hg:(aY n a m ((R:Rat)*(1/2^places))).m>k
 ·rw[if_pos hg]at oo
  refine .inr ⟨oo,hg, ?_⟩
  rcases a4 with g|g
  ·exfalso
   rw[g,Rat.intCast_neg,hM,show -(2:Rat)^(e+places)*(1/2^places)= -(2^e)from by have:=Vg (-1);grind]at hg
   have:=h1.1
   omega
  ·have g:=of_decide_eq_false g
   rw[Rat.intCast_sub,show((R:Rat) - ((1:Int):Rat))*(1/2^places)=(R:Rat)*(1/2^places) - 1/2^places from by
    have:((1:Int):Rat)=1:=rfl
    grind,←oo]at g
   show(aY n a m low).m+(aY n a m low).left≤k
   omega
 ·rw[if_neg hg]at oo
  exact .inl ⟨oo,by show(aY n a m ((R:Rat)*(1/2^places))).m≤k;omega⟩
theorem pn {k places:Nat} (h2:2≤C) (hs:B+C≤20000) (hk:k<n) (hp:places≤100) (he:e≤70) (h1:iq n a m (2^e)) (h0:∀k,k<e→¬iq n a m (2^k)):
  ∃(R:Int) (low:Rat),R=n8 (fun K=>decide (k<(aY n a m ((K:Rat)*(1/2^places))).m+(aY n a m ((K:Rat)*(1/2^places))).left)) (e+places+2) (-((2:Int)^(e+places))) ((2:Int)^(e+places))∧
   low=(if (aY n a m ((R:Rat)*(1/2^places))).m>k then(R:Rat)*(1/2^places) - 1/2^places else(R:Rat)*(1/2^places))∧
   af Tryz.prog 188 [mA n n a,mA n n m,iv (k:Nat),iv (places:Nat)] [] (.cC [.frac low,.frac ((R:Rat)*(1/2^places)),iv 0]) [] []∧fs low≤1000∧fs ((R:Rat)*(1/2^places))≤1000:=by
 refine⟨_,_,rfl,rfl, ?_⟩
 obtain⟨R,hR⟩:∃R,R=n8 (fun K=>decide (k<(aY n a m ((K:Rat)*(1/2^places))).m+(aY n a m ((K:Rat)*(1/2^places))).left)) (e+places+2) (-((2:Int)^(e+places))) ((2:Int)^(e+places)):=⟨_,rfl⟩
 obtain⟨⟨r1,r2⟩,hbk⟩:=h.brk hk h1 hR
 have fst:fs ((1:Rat)/2^places)≤106:=by
  have g1:=qz 1 ((2:Rat)^places)
  have g2:=wP places
  have g3:=mf
  omega
 have fK:∀K:Int, -((2:Int)^(e+places))≤K→K≤(2:Int)^(e+places)→fs ((K:Rat)*(1/2^places))≤300:=fun K k1 k2=>by
  have g1:=OV k1 k2
  have g2:=vY (n:=K) g1 aa
  have g3:=cT (K:Rat) (1/2^places)
  unfold fs at*;omega
 have hn5:=h.n5
 have kc:∀t,fs t≤1000→af Tryz.prog 149 [mA n n a,mA n n m,.frac t] [] (cnV (aY n a m t)) [] []:=fun t ht=>CU (B+(1000+C)) a m t hn5 h.ka h.km (h.sym t) aa aa (h.size ht (Nat.le_refl _))
 have k1:=iR (h.ok h2 aa)
 have k2:=h.reach h2 hs he h1 h0
 have k3:=acA places aa
 have f2:af Tryz.prog 18 [iv 2] [] (.frac 2) [] []:=eG 2 aH aH
 have f1:af Tryz.prog 18 [iv 1] [] (.frac 1) [] []:=eG 1 aH aH
 have g2:=wP places
 have g3:=wP e
 have k4:=E5 1 ((2:Rat)^places) (by have:=two_pos places;grind) (by have:=mf;omega)
 have k5:=s7 ((2:Rat)^e) (2^places) aa
 rw[←y8]at k5
 have k6:=aeX ((2:Rat)^(e+places))
 rw[show((2:Rat)^(e+places)).num=(2:Int)^(e+places)from by rw[y7];exact Rat.num_intCast _]at k6
 have k7:=Ly ((2:Int)^(e+places))
 have hw:((2:Int)^(e+places)) - (-((2:Int)^(e+places)))<2^(e+places+2):=by
  have gN:(0:Int)<2^(e+places):=Int.pow_pos aH
  rw[show e+places+2=(e+places)+1+1 from rfl,Int.pow_succ,Int.pow_succ];omega
 have k8:=OU (f:=e+places+2) (S:=300) (-((2:Int)^(e+places))) ((2:Int)^(e+places)) (1/2^places) (fun K=>decide (k<(aY n a m ((K:Rat)*(1/2^places))).m+(aY n a m ((K:Rat)*(1/2^places))).left)) 288 (Bx (mC n n a)) (Bx (mC n n m)) (Bx [iv (k:Nat)])
  aa hw aH (fun K k1 k2=>Nat.le_trans (OV k1 k2) aa) aa fun K k1 k2=>J4 aa (by have:=h.sum ((K:Rat)*(1/2^places));omega) (kc _ (by have:=fK K k1 k2;omega))
 rw[←hR]at k8 ⊢
 have fR:=fK R r1 r2
 have k9:=kc ((R:Rat)*(1/2^places)) aa
 have ks:=IF ((R:Rat)*(1/2^places)) (1/2^places) aa
 have fL:=uv ((R:Rat)*(1/2^places)) (1/2^places)
 have t1:decide ((k:Int)<0)=false:=decide_eq_false aa
 have t2:decide ((k:Int)≥(n:Int))=false:=decide_eq_false aa
 have t3:decide ((places:Int)<0)=false:=decide_eq_false aa
 have t4:decide ((places:Int)>100)=false:=decide_eq_false aa
 clear hbk kc fK g2 g3 hw r1 r2 hR
 generalize (R:Rat)*(1/2^places)=hi at*
 generalize (1:Rat)/2^places=st at*
 generalize (2:Rat)^places=sc at*
 generalize (2:Int)^(e+places)=mo at*
 generalize (2:Rat)^(e+places)=rm at*
 generalize (2:Rat)^e=re at*
 generalize aY n a m hi=F at*
 by_cases hF:F.m>k
 ·rw[if_pos hF]
  have t5:decide (((F.m:Nat):Int)>(k:Int))=true:=decide_eq_true aa
  refine⟨?_,aa,aa⟩
  clear h1 h0 h fst fR fL
  refine cj [4,5,6] Tryz.func188 ?_
  intro W0 w0 ρ0 hE
  conv=>whnf
  (repeat((first|refine ah rfl rfl ?_|refine ag rfl rfl ?_|refine aB aF ?_|refine a8 (by assumption) ?_|refine aC ik ?_|rw[bne_self_eq_false]|refine aW t4 ?_|refine aN t5 ?_|refine aC Q6 ?_|refine aC Q9 ?_|refine aC Pa ?_|refine⟨_,[],[],dZ rfl (ak rfl) (l:=[.int .i64 _,.int .i64 _,.int .i64 _]) rfl (ak rfl) (db.get (t:=196) aM rfl) rfl (db.get (t:=3) aM rfl) rfl rfl aH aH (v:=.int .i64 _) rfl rfl,aD,an, ?_⟩|rw[t1]|rw[t2]);conv=>whnf));exact Q4
 ·rw[if_neg hF]
  have t5:decide (((F.m:Nat):Int)>(k:Int))=false:=decide_eq_false aa
  refine⟨?_,aa,aa⟩
  clear h1 h0 h fst fR fL
  refine cj [4,5,6] Tryz.func188 ?_
  intro W0 w0 ρ0 hE
  conv=>whnf
  (repeat((first|refine ah rfl rfl ?_|refine ag rfl rfl ?_|refine aB aF ?_|refine a8 (by assumption) ?_|refine aC ik ?_|rw[bne_self_eq_false]|refine aW t4 ?_|refine aW t5 ?_|refine aC Q6 ?_|refine aC Q9 ?_|refine aC Pa ?_|refine⟨_,[],[],dZ rfl (ak rfl) (l:=[.int .i64 _,.int .i64 _,.int .i64 _]) rfl (ak rfl) (db.get (t:=196) aM rfl) rfl (db.get (t:=3) aM rfl) rfl rfl aH aH (v:=.int .i64 _) rfl rfl,aD,an, ?_⟩|rw[t1]|rw[t2]);conv=>whnf));exact Q4
end
end Go.Proofs.YtfpagioknjjacaaGreatDoor
