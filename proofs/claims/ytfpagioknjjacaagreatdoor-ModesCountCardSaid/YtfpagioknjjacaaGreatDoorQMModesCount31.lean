/- The texts Xu. -/
import Derived.Test.YtfpagioknjjacaaGreatDoorQMModesCount11
import Derived.Test.YtfpagioknjjacaaGreatDoorQMModesCount27
import Derived.Test.YtfpagioknjjacaaGreatDoorQMModesCount30
namespace Go.Proofs.YtfpagioknjjacaaGreatDoor
open Go.Sx
set_option linter.unusedSimpArgs false
set_option linter.unusedVariables false
set_option maxRecDepth 100000
set_option maxHeartbeats 40000000
theorem J8 {n S A z:Nat} {P:List Rat} {t:Rat} {x y:List (List Rat)} (kP:af Tryz.prog 36 [bX 1 lG x,bX 1 lG y] [] (lG P) [] []) (hP:P.length=n+1) (hn:n≤4) (sP:Sm S P) (ht:fs t≤A) (hA:2≤A) (h:NC (S+2*A+2) (n+1)≤1700000000)
  (hz:z≤n) (h0:∀j,j<z→(lp P t (n+1)).getD j 0=0) (h1:(lp P t (n+1)).getD z 0≠0):
  af Tryz.prog 40 [bX 1 lG x,bX 1 lG y,fF t] [] (.cC [iv ((qi (lp P t (n+1)) true (n+1)).1:Nat),iv (z:Nat),iv ((qi (lp P t (n+1)) false (n+1)).1:Nat)]) [] []:=by
 have k1:=ES hP aa sP ht hA h
 have sC:=GU sP ht hA (n+1) aa
 have lC:(lp P t (n+1)).length=n+1:=by rw[l8,hP]
 have k2:=vu (p:=lp P t (n+1)) true aa (fun i hi=>Nat.le_trans (sC i hi) (Nat.le_trans h aH))
 have k3:=vu (p:=lp P t (n+1)) false aa (fun i hi=>Nat.le_trans (sC i hi) (Nat.le_trans h aH))
 rw[lC]at k2 k3
 have kS:=fun i (hi:i<n+1)=>wD ((lp P t (n+1)).getD i 0) (by have:=(EJ (Nat.le_trans (sC i aa) h)).1;omega)
 generalize (qi (lp P t (n+1)) true (n+1)).1=u at*
 generalize (qi (lp P t (n+1)) false (n+1)).1=v at*
 generalize lp P t (n+1)=Cc at*
 have w0:IntKind.i64.wrap ((Cc.length:Int) - 1)=(n:Int):=by rw[wrap_i64 aa aa];omega
 clear sC sP h
 refine cj [5] Tryz.func40 ?_
 intro W0 w1 ρ0 hE
 conv=>whnf
 (repeat(first|(refine aB aF ?_;conv=>whnf)|(refine a8 (by assumption) ?_;conv=>whnf)|(refine aC Q6 ?_;conv=>whnf)))
 refine az hE (fun k=>k) [9,10] [] (fun m fr hp=>∃j:Nat,m=z - j∧j≤z∧fr=[(9,lG Cc),(10,iv (j:Nat))]∧hp=[]) z ?_ ?_ ?_
 ·kernel_rfl
 ·exact⟨0,rfl,Nat.zero_le _,rfl,rfl⟩
 rintro m _ _ ⟨j,rfl,hj,rfl,rfl⟩
 by_cases aI:j<z
 ·have t1:=jD (show j<n by omega)
  have t3:=cp (i:=j) aa
  have t2:((Cc.getD j 0).num.sign==0)=true:=by rw[h0 j aI];rfl
  have k4:=kS j aa
  have Vk:j<Cc.length:=aa
  clear kS h0
  conv=>whnf
  (repeat((first|refine a8 (by assumption) ?_|refine aC iT ?_|refine aN t1 ?_|refine aN t2 ?_|refine aC Q7 ?_|refine aC An ?_|refine aC Q6 ?_|rw[w0]|rw[t1]|rw[t2]|rw[t3]);conv=>whnf))
  exact⟨z - (j+1),fun k=>k,[9,10],[],aa,aF,j+1,rfl,aI,rfl,rfl⟩
 ·obtain rfl:j=z:=aa
  have Vk:j<Cc.length:=aa
  have t2:((Cc.getD j 0).num.sign==0)=false:=beq_eq_false_iff_ne.2 fun g=>h1 (yF.1 g)
  have k4:=kS j aa
  clear kS h0
  by_cases FF:j<n
  ·have t1:=jD FF
   conv=>whnf
   (repeat((first|refine a8 (by assumption) ?_|refine aC iT ?_|refine aN t1 ?_|refine aW t2 ?_|refine aC Q7 ?_|refine aC An ?_|refine aC Q6 ?_|rw[w0]|rw[t1]);conv=>whnf));exact Q4
  ·have t1:=jP FF
   conv=>whnf
   (repeat((first|refine ag rfl rfl ?_|refine a8 (by assumption) ?_|refine aC ik ?_|refine aW t1 ?_|refine aC Q7 ?_|rw[w0]|rw[t1]);conv=>whnf));exact Q4
theorem Sl (q:Rat) (h:fs q≤100000000):af Tryz.prog 37 [.frac q,fF q] [] (.val (.bool true)) [] []:=by
 have k1:=CH q aa
 have k2:=Rm q h
 generalize tQ q=s at*
 have t1:(s.toList==s.toList)=true:=beq_self_eq_true _
 refine cj [2,3] Tryz.func37 ?_
 intro W0 w0 ρ0 hE
 conv=>whnf
 (repeat((first|refine aB aF ?_|refine a8 (by assumption) ?_|rw[beq_self_eq_true]|refine aC Q6 ?_);conv=>whnf))
 exact aq.refl _
abbrev aga (l:List (Int×Int)):Prop:=l.length≤maxLen∧∀q∈l,Av q
theorem O0 {l b:List (Int×Int)} (hl:l.length≤maxLen) (hb:b.length≤maxLen):∀x∈[l,b],x.length≤maxLen:=fun x hx=>by
 simp only[List.mem_cons,List.not_mem_nil,or_false]at hx
 rcases hx with rfl|rfl<;>assumption
theorem agb {n B C:Nat} {a m:List Rat} (P:zI n B C a m) (hn:n≤4):vG n a m=vN n (dK n a m) (n+1)∧∀x,cm (vN n (dK n a m) (n+1)) x=bD n (iX (el a n) (el m n) x):=by
 obtain⟨c,hc,hv,_⟩:=H5 n (el a n) (el m n)
 have e1:vN n (dK n a m) (n+1)=c:=abH hc fun k hk=>by
  rw[hv]
  exact bn fun i j hi hj=>by
   rw[xK,r8 hi hj]
   show el a n i j - (-(k:Rat))*el m n i j=el a n i j+(k:Rat)*el m n i j
   grind
 have e2:vG n a m=c:=Sf (Fo ..) hn hc fun k hk=>by
  rw[hv,Fp hk]
  exact bn fun i j hi hj=>by
   rw[r8 hi hj];rfl
 exact⟨by rw[e1,e2],fun x=>by rw[e1,hv]⟩
theorem O1 (l b:List (Int×Int)) (n:Int) (t:Int×Int) (hl:aga l) (hb:aga b) (hn:0≤n∧n<256) (ht:Av t):
  af Tryz.prog 5 [lQ l,lQ b,iF .u8 n,qA t] [] (.val (.bool true)) [] []:=by
 have kw:=J7
 have kf:=Si [l,b] (by simp) (O0 hl.1 hb.1)
 cases hF:[l,b].all fun l=>decide (l.length≤40)
 ·rw[hF]at kf
  refine cj [7,26] Tryz.func5 ?_
  intro W0 w0 ρ0 hE
  conv=>whnf
  (repeat(first|(refine ah rfl rfl ?_;conv=>whnf)|(refine a8 (by assumption) ?_;conv=>whnf)));exact Q4
 rw[hF]at kf
 obtain⟨e1,e2⟩:=ab8 n hn 5 aH
 have r4:(n % 5).toNat≤4:=aa
 generalize (n % 5).toNat=r at*
 have kp:=OW l b hl hb (n:=r) aa
 have P:=Sc hl.2 hb.2 (n:=r) aa
 have h1:=Fk b r
 have qt:=L6 t ht
 have qr:=abW t ht
 have ft:=D3 ht
 generalize GZ l r=a at*
 generalize mZ b r=m at*
 generalize qV t=T at*
 have x1:=A9 P.ka P.za aa aH
 have x2:=A9 P.km P.zm aa aH
 have x3:=y9 P r4 aH aH
 have x4:=NY P.ka P.km P.za P.zm r4 aH
 obtain⟨g1,g2⟩:=agb P r4
 rw[g1]at x3
 have lP:=nS r (dK r a m) (r+1)
 have sP:=G2 (n:=r) (T:=544944) (D:=dK r a m) r4 (fun k hk=>Nat.add_le_add_right (U4 P.oa P.om P.za P.zm (k:=k) aa r4 aH) 262) (r+1) (Nat.le_refl _)
 have sP2:Sm 43595522 (vN r (dK r a m) (r+1)):=HF aa sP
 have hsB:NC (43595522+2*130+2) (r+1)≤1700000000:=Nat.le_trans (EP _ (show r+1≤5 by omega)) aH
 obtain⟨g3,g4,g5,g6,g7,g8⟩:=JP (t:=T) (S:=el a r) (M:=el m r) P.sa P.sm h1 (P.GD T) lP g2
 have x5:=J8 x4 lP r4 sP2 ft aH hsB g8 g6 g7
 rw[g4,g5]at x5
 have x6:=P.count T ft aH aH
 clear g1 g2 g3 g4 g5 g6 g7 g8 hsB h1 sP P hF
 generalize vN r (dK r a m) (r+1)=Q at*
 generalize aY r a m T=F at*
 generalize bs r r a=ra at*
 generalize bs r r m=rm at*
 have s1:((Q.length:Int) != (Q.length:Int))=false:=bne_self_eq_false _
 have s2:(((F.m:Nat):Int)==((F.m:Nat):Int))=true:=beq_self_eq_true _
 have s3:(((F.left:Nat):Int)==((F.left:Nat):Int))=true:=beq_self_eq_true _
 have s4:(((F.p:Nat):Int)==((F.p:Nat):Int))=true:=beq_self_eq_true _
 refine cj [7,26] Tryz.func5 ?_
 intro W0 w0 ρ0 hE
 conv=>whnf
 (repeat((first|refine ah rfl rfl ?_|refine ag rfl rfl ?_|refine aB aF ?_|refine dR Q3 ?_|refine a8 (by assumption) ?_|refine aC ik ?_|rw[bne_self_eq_false]|refine aC Q7 ?_|rw[e2]);conv=>whnf))
 refine az hE (fun k=>k) [7,9,10,11,12,13,15,16] [9,10] (fun q fr hp=>∃i:Nat,q=Q.length - i∧i≤Q.length∧fr=[(7,cx [iF .i64 t.1,iF .u32 t.2]),(9,.ptr 9 0 0 0),(10,.ptr 10 0 0 0),(11,bX 1 lG ra),(12,bX 1 lG rm),(13,cD Q),(15,lG Q),(16,iv (i:Nat))]∧
  hp=[(9,⟨38,true,.one (mC r r a)⟩),(10,⟨38,true,.one (mC r r m)⟩)]) Q.length ?_ ?_ ?_
 ·kernel_rfl
 ·exact⟨0,rfl,Nat.zero_le _,rfl,rfl⟩
 rintro q _ _ ⟨i,rfl,hi,rfl,rfl⟩
 by_cases aI:i<Q.length
 ·have t1:=jD aI
  have t2:=cp (i:=i) aa
  have hq:=sP2 i aI
  have k1:=Sl (Q.getD i 0) aa
  conv=>whnf
  (repeat((first|refine ag rfl rfl ?_|refine aB aF ?_|refine a8 (by assumption) ?_|refine aN t1 ?_|refine aC Q7 ?_|refine aC An ?_|refine aC Q6 ?_|rw[t1]|rw[t2]);conv=>whnf))
  exact⟨Q.length - (i+1),fun k=>k,[7,9,10,11,12,13,15,16],[9,10],aa,aF,i+1,rfl,aI,rfl,rfl⟩
 ·have t1:=jP aI
  have qt2:af Tryz.prog 39 [.agg [iF .i64 t.1,iF .u32 t.2]] [] (.frac T) [] []:=qt
  have qr2:af Tryz.prog 41 [.agg [iF .i64 t.1,iF .u32 t.2]] [] (fF T) [] []:=qr
  conv=>whnf
  (repeat((first|refine ah rfl rfl ?_|refine aB aF ?_|refine a8 (by assumption) ?_|refine aC iT ?_|rw[beq_self_eq_true]|refine aW t1 ?_|refine aC Q7 ?_|refine aC Q6 ?_);conv=>whnf));exact Q4
theorem zf (a0 a1:List (Int×Int)) (a2:Int) (a3:Int×Int) (w0:QWf a0) (w1:QWf a1) (w2:(Lit.int .u8 a2).wf=true) (w3:((Lit.int .i64 a3.1).wf=true)∧((Lit.int .u32 a3.2).wf=true)):
  af Tryz.prog 5 [bX 2 qA a0,bX 2 qA a1,iF .u8 a2,qA a3] [] (.val (.bool true)) [] []:=
 O1 a0 a1 a2 a3 ⟨w0.1,Ma w0⟩ ⟨w1.1,Ma w1⟩ (wf_u8 w2) (Qn w3)
end Go.Proofs.YtfpagioknjjacaaGreatDoor
