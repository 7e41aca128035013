/- The texts Bn. -/
import Derived.Test.YtfpagioknjjacaaGreatDoorQMElimsKnown29
import Derived.Test.YtfpagioknjjacaaGreatDoorQMElimsKnown16
namespace Go.Proofs.YtfpagioknjjacaaGreatDoor
open Go.Sx
set_option linter.unusedSimpArgs false
set_option linter.unusedVariables false
set_option maxRecDepth 100000
set_option maxHeartbeats 40000000
theorem Rh {n9:Nat} (hn:n9=2049):ab Tryz.prog 126 [.agg [iv 0,iv 0,.val (.slice none 0 0)],aN (List.replicate n9 0)] [] (.ck [.agg [aN [],bF 1 aN []],iv 3]) [] []∧
  ab Tryz.prog 127 [.agg [iv (-1),iv 0,.val (.slice none 0 0)],aN (List.replicate n9 0)] [] (.ck [aN [],iv 1]) [] []:=by
 constructor
 ·exact(yH (r:=0) (c:=0) (a:=[]) (b:=List.replicate n9 0) (Zk aI aI (by simp;omega)) aI).wk (args:=[.agg [iv 0,iv 0,.val (.slice none 0 0)],aN (List.replicate n9 0)]) Q29
 ·have k:=Mu (r:= -1) (c:=0) (a:=[]) (b:=List.replicate n9 0) aI aI
  rw[show cp (-1) 0 ([]:List Rat).length=1 from by decide]at k
  exact(qZ k aI).wk (args:=[.agg [iv (-1),iv 0,.val (.slice none 0 0)],aN (List.replicate n9 0)]) Q29
theorem Zl {R C M:Nat} (hR:R≤40) (hC:C≤40) (hM:M≤49) (hN:R*C≤39):∃(f:Bool) (X:List Rat) (L:List (List Rat)) (h:Int) (Y:List Rat) (i:Int),(((zL M).length:Int) != (R:Int))=f∧
  ab Tryz.prog 126 [mA R C (zL (R*C)),aN (zL M)] [] (.ck [.agg [aN X,bF 1 aN L],iv h]) [] []∧ab Tryz.prog 127 [mA R C (zL (R*C)),aN (zL M)] [] (.ck [aN Y,iv i]) [] []∧
  ((f=true∧h=1∧i=1∧X=[]∧L=[]∧Y=[])∨f=false):=by
 have Zx:cp R C (zL (R*C)).length=0:=by rw[fD];exact mZ aa aa rfl
 by_cases h:M=R
 ·subst h
  obtain⟨X,L,k1⟩:=Mt hR hC
  exact⟨false,X,L,0,[],6,by rw[fD];exact bne_self_eq_false _,k1,FO hR hC,.inr rfl⟩
 ·have k:=Zj (b:=zL M) (by rw[fD];omega) Zx (by rw[fD];omega) (by rw[fD];omega)
  exact⟨true,[],[],1,[],1,by rw[fD];exact bne_iff_ne.2 aa,yH k aI,qZ k aI,.inl ⟨rfl,rfl,rfl,rfl,rfl,rfl⟩⟩
theorem FQ {R C:Nat} (hR:R≤40) (hC:C≤40) (hN:R*C≤39):∃(g:Bool) (a b:Int) (l:List Rat) (j:Int) (D:Rat) (q:Int),((R:Int) != (C:Int))=g∧
  ab Tryz.prog 129 [mA R C (zL (R*C))] [] (.ck [mA a b l,iv j]) [] []∧ab Tryz.prog 118 [mA R C (zL (R*C))] [] (.ck [.frac D,iv q]) [] []∧((g=true∧j=1∧q=1∧l=[])∨g=false):=by
 have Zx:cp R C (zL (R*C)).length=0:=by rw[fD];exact mZ aa aa rfl
 by_cases h:R=C
 ·subst h
  have h6:R≤6:=FP (N:=R) hN (Nat.le_refl _) (Nat.le_refl _)
  have IF:dV R R (zL (R*R)):=⟨aa,aa,fD _⟩
  have kd:=iA IF h6 (si _) aI aI
  have f:((R:Int) != (R:Int))=false:=bne_self_eq_false _
  by_cases hd:bL R (el (zL (R*R)) R)=0
  ·exact⟨_,_,_,_,_,_,_,f,nY IF h6 (si _) aI aI hd,kd,.inr rfl⟩
  ·obtain⟨B,_,_,_,k⟩:=ll IF h6 (si _) aI aI hd
   exact⟨_,_,_,_,_,_,_,f,k,kd,.inr rfl⟩
 ·have k:=It (by rw[fD];omega) Zx (show(R:Int)≠(C:Int) by omega)
  exact⟨_,_,_,_,_,_,_,bne_iff_ne.2 (show(R:Int)≠(C:Int) by omega),yI k aI,Mv k aI,.inl ⟨rfl,rfl,rfl,rfl⟩⟩
theorem Iv (r c n many:Int) (hn:0≤n∧n<256) (hm:0≤many∧many<256) (h:cp r c (n % 40).toNat≠0):
  ab Tryz.prog 29 [iv r,iv c,jv .u8 n,jv .u8 many] [] (.val (.bool true)) [] []:=by
 have kw:=eP
 obtain⟨e1,e2⟩:=jB n hn 40 aI
 obtain⟨e3,e4⟩:=jB many hm 50 aI
 have hN:(n % 40).toNat≤39:=aa
 have hM:(many % 50).toNat≤49:=aa
 generalize (n % 40).toNat=N at*
 generalize (many % 50).toNat=M at*
 have hl:=fD N
 rw[←hl]at h
 have hs:(zL N).length<1099511627776:=aa
 have a1:=ir r c (zL N) hs
 have a2:=AH hs h
 have a3:=Pp hs h
 have a4:=Ir hs h
 have km:=Mu (b:=zL M) hs h
 have a5:=yH km h
 have a6:=qZ km h
 have kq:=Is hs h
 have a7:=yI kq h
 have a8:=Mv kq h
 have a9:=Ml (n:=0) hs h
 clear km kq
 obtain⟨n9,hn9⟩:∃n:Nat,n=2049:=⟨_,rfl⟩
 have h9:(2049:Int)=(n9:Int):=aa
 obtain⟨b1,b2⟩:=Rh hn9
 generalize cp r c (zL N).length=E at*
 have t1:(E==0)=false:=beq_eq_false_iff_ne.2 h
 have t2:(E != E)=false:=bne_self_eq_false _
 have t3:(E != 0)=true:=bne_iff_ne.2 h
 have t4:(E==E)=true:=beq_self_eq_true _
 refine bT [100000,100022,100023] Tryz.func29 ?_
 intro W0 w0 ρ0 hE
 conv=>whnf
 refine cG 40 (blk:=cP []) rfl rfl ?_
 refine cG 45 (blk:=cP []) rfl rfl ?_
 refine cG 195 (blk:=cP []) rfl rfl ?_
 refine cG 201 (blk:=cP []) rfl rfl ?_
 refine bA hE ?_
 conv=>whnf
 (repeat((first|refine ag rfl rfl ?_|refine ae rfl rfl ?_|refine bX Q3 ?_|refine aS (by assumption) ?_|refine ah dO ?_|refine ah dP ?_|rw[bne_self_eq_false]|refine ay t1 ?_|refine ao t3 ?_|refine ah Q8 ?_|refine ah Q30 ?_|rw[e2]|rw[e4]|rw[t1]|rw[t3]|rw[Nat.zero_add]);conv=>whnf))
 refine bA hE ?_
 conv=>whnf
 refine ah (mi h9 rfl) ?_
 conv=>whnf
 (repeat(first|(refine aS (by assumption) ?_;conv=>whnf)))
 refine bA hE ?_
 conv=>whnf
 refine ah (mi h9 rfl) ?_
 conv=>whnf
 (repeat((first|refine ag rfl rfl ?_|refine aS (by assumption) ?_|refine ah dO ?_|rw[beq_self_eq_true]);conv=>whnf));exact Q4
theorem Mw (R C:Nat) (n many:Int) (hn:0≤n∧n<256) (hm:0≤many∧many<256) (hR:R≤2048) (hC:C≤2048) (hN:R*C=(n % 40).toNat):
  ab Tryz.prog 29 [iv R,iv C,jv .u8 n,jv .u8 many] [] (.val (.bool true)) [] []:=by
 have kw:=eP
 obtain⟨e1,e2⟩:=jB n hn 40 aI
 obtain⟨e3,e4⟩:=jB many hm 50 aI
 have hN2:R*C≤39:=aa
 have hM:(many % 50).toNat≤49:=aa
 rw[←hN]at e2
 clear hN
 generalize (many % 50).toNat=M at*
 have IF:dV R C (zL (R*C)):=⟨hR,hC,fD _⟩
 have a1:=er IF
 by_cases h40:R≤40∧C≤40
 ·obtain⟨hR,hC⟩:=h40
  have u1:decide ((R:Int)>40)=false:=decide_eq_false aa
  have u2:decide ((C:Int)>40)=false:=decide_eq_false aa
  obtain⟨red,a2⟩:=AG hR hC
  have a3:=Po hR hC
  obtain⟨Lx,a4⟩:=Iq hR hC
  obtain⟨f,X,L,h,Y,i,f1,a5,a6,hS⟩:=Zl (M:=M) hR hC hM hN2
  obtain⟨g,ia,ib,il,j,D,q,g1,a7,a8,hQ⟩:=FQ hR hC hN2
  have a9:=s9 (n:=0) IF aI (Nat.zero_le _) (Nat.zero_le _) (si _) aI aI
  replace a9:ab Tryz.prog 131 [mA R C (zL (R*C)),iv 0] [] (.ck [.frac 1,iv 0]) [] []:=a9
  obtain⟨n9,hn9⟩:∃n:Nat,n=2049:=⟨_,rfl⟩
  have h9:(2049:Int)=(n9:Int):=aa
  obtain⟨b1,b2⟩:=Rh hn9
  rcases hS with⟨rfl,rfl,rfl,rfl,rfl,rfl⟩|rfl
  all_goals rcases hQ with⟨rfl,rfl,rfl,rfl⟩|rfl
  all_goals
   refine bT [100000,100022,100023] Tryz.func29 ?_
   intro W0 w0 ρ0 hE
   conv=>whnf
   refine cG 40 (blk:=cP []) rfl rfl ?_
   refine cG 45 (blk:=cP []) rfl rfl ?_
   refine cG 195 (blk:=cP []) rfl rfl ?_
   refine cG 201 (blk:=cP []) rfl rfl ?_
   refine bA hE ?_
   conv=>whnf
   (repeat((first|refine ag rfl rfl ?_|refine ae rfl rfl ?_|refine bX Q3 ?_|refine aS (by assumption) ?_|refine ah dO ?_|refine ah dP ?_|rw[beq_self_eq_true]|rw[bne_self_eq_false]|refine ay u2 ?_|refine ao f1 ?_|refine ay f1 ?_|refine ao g1 ?_|refine ay g1 ?_|refine ah Q8 ?_|refine ah Q30 ?_|rw[e2]|rw[e4]|rw[u1]|rw[u2]|rw[f1]|rw[g1]|rw[Nat.zero_add]);conv=>whnf))
   refine bA hE ?_
   conv=>whnf
   refine ah (mi h9 rfl) ?_
   conv=>whnf
   (repeat(first|(refine aS (by assumption) ?_;conv=>whnf)))
   refine bA hE ?_
   conv=>whnf
   refine ah (mi h9 rfl) ?_
   conv=>whnf
   (repeat(first|(refine ag rfl rfl ?_;conv=>whnf)|(refine aS (by assumption) ?_;conv=>whnf)|(refine ah dO ?_;conv=>whnf)));exact Q4
 ·have u3:(decide ((R:Int)>40)=true)∨(decide ((R:Int)>40)=false∧decide ((C:Int)>40)=true):=by
   by_cases h:R≤40
   ·exact .inr ⟨decide_eq_false aa,decide_eq_true aa⟩
   ·exact .inl (decide_eq_true aa)
  rcases u3 with u1|⟨u1,u2⟩
  ·skip
   refine bT [100000,100022,100023] Tryz.func29 ?_
   intro W0 w0 ρ0 hE
   conv=>whnf
   refine cG 40 (blk:=cP []) rfl rfl ?_
   refine cG 45 (blk:=cP []) rfl rfl ?_
   refine cG 195 (blk:=cP []) rfl rfl ?_
   refine cG 201 (blk:=cP []) rfl rfl ?_
   refine bA hE ?_
   conv=>whnf
   (repeat((first|refine ag rfl rfl ?_|refine ae rfl rfl ?_|refine bX Q3 ?_|refine aS (by assumption) ?_|refine ah dO ?_|rw[beq_self_eq_true]|refine ah Q30 ?_|rw[e2]|rw[e4]|rw[u1]);conv=>whnf));exact Q4
  ·skip
   refine bT [100000,100022,100023] Tryz.func29 ?_
   intro W0 w0 ρ0 hE
   conv=>whnf
   refine cG 40 (blk:=cP []) rfl rfl ?_
   refine cG 45 (blk:=cP []) rfl rfl ?_
   refine cG 195 (blk:=cP []) rfl rfl ?_
   refine cG 201 (blk:=cP []) rfl rfl ?_
   refine bA hE ?_
   conv=>whnf
   (repeat((first|refine ag rfl rfl ?_|refine bX Q3 ?_|refine aS (by assumption) ?_|refine ah dO ?_|refine ah dP ?_|rw[beq_self_eq_true]|refine ao u2 ?_|refine ah Q30 ?_|rw[e2]|rw[e4]|rw[u1]);conv=>whnf));exact Q4
theorem oc (a0 a1 a2 a3:Int) (_w0:(Lit.int .i64 a0).wf=true) (_w1:(Lit.int .i64 a1).wf=true) (w2:(Lit.int .u8 a2).wf=true) (w3:(Lit.int .u8 a3).wf=true):
  ab Tryz.prog 29 [iv a0,iv a1,jv .u8 a2,jv .u8 a3] [] (.val (.bool true)) [] []:=by
 by_cases h:cp a0 a1 (a2 % 40).toNat=0
 ·have hs:kJ a0 a1=0:=by
   refine Classical.byContradiction fun g=> ?_
   rw[cp,if_pos g]at h;exact g h
  rw[cp,if_neg aa]at h
  obtain⟨⟨r0,r1⟩,c0,c1⟩:=Dh hs
  have hn:((a2 % 40).toNat:Int)=a0*a1:=by
   refine Classical.byContradiction fun g=> ?_
   rw[if_pos g]at h;cases h
  obtain⟨R,rfl⟩:∃R:Nat,a0=R:=⟨a0.toNat,aa⟩
  obtain⟨C,rfl⟩:∃C:Nat,a1=C:=⟨a1.toNat,aa⟩
  exact Mw R C a2 a3 (wf_u8 w2) (wf_u8 w3) aa aa (by rw[←Int.natCast_mul]at hn;omega)
 ·exact Iv a0 a1 a2 a3 (wf_u8 w2) (wf_u8 w3) h
end Go.Proofs.YtfpagioknjjacaaGreatDoor
