/- The texts Qy. -/
import Derived.Test.YtfpagioknjjacaaGreatDoorQMElimsKnown17
import Derived.Test.YtfpagioknjjacaaGreatDoorQMElimsKnown6
import Derived.Test.YtfpagioknjjacaaGreatDoorQMElimsKnown18
namespace Go.Proofs.YtfpagioknjjacaaGreatDoor
open Go.Sx
set_option linter.unusedSimpArgs false
set_option linter.unusedVariables false
set_option maxRecDepth 100000
set_option maxHeartbeats 40000000
theorem Pj {D:Rat} (h:D≠0):(D.num.sign != 0)=true:=bne_iff_ne.2 fun g=>h (Rat.num_eq_zero.1 (Int.sign_eq_zero_iff_zero.1 g))
theorem FH (a b:MM) (n:Int) (v:List (Int×Int)) (ha:Eb a) (hb:Eb b) (hn:0≤n∧n<256) (hv:v.length≤maxLen∧∀q∈v,ue q):
  ab Tryz.prog 27 [mQ a,mQ b,jv .u8 n,bF 2 qA v] [] (.val (.bool true)) [] []:=by
 have kw:=eP
 have kf:=ln [a,b] (by simp) Q35
 cases hF:[a,b].all fun m=>decide (m.2.2.length≤40)
 ·rw[hF]at kf
  refine bT [4,5,47] Tryz.func27 ?_
  intro W0 w0 ρ0 hE
  conv=>whnf
  (repeat((first|refine ag rfl rfl ?_|refine ae rfl rfl ?_|refine aS (by assumption) ?_|refine ah dO ?_|refine ah Q5 ?_);conv=>whnf));exact Q4
 rw[hF]at kf
 by_cases hl:v.length>20
 ·have t1:decide ((v.length:Int)>20)=true:=decide_eq_true aa
  refine bT [4,5,47] Tryz.func27 ?_
  intro W0 w0 ρ0 hE
  conv=>whnf
  (repeat((first|refine ag rfl rfl ?_|refine aS (by assumption) ?_|refine ah dP ?_|refine ao t1 ?_|refine ah Q8 ?_|refine ah Q5 ?_);conv=>whnf));exact Q4
 have t1:decide ((v.length:Int)>20)=false:=decide_eq_false aa
 obtain⟨e1,e2⟩:=jB n hn 6 aI
 have r5:(n % 6).toNat≤5:=aa
 generalize (n % 6).toNat=r at*
 have x1:=oT a ha (r:=r) (c:=r) aa aa
 have y1:=oT b hb (r:=r) (c:=r) aa aa
 have v1:=B6 v hv.1 hv.2 (n:=r) aa
 have hx:=fB a.2.2 (r:=r) (c:=r) aa aa
 have hy:=fB b.2.2 (r:=r) (c:=r) aa aa
 have sx:=eT ha.2.2.2 (r*r)
 have sy:=eT hb.2.2.2 (r*r)
 have sv:=eT hv.2 r
 have lv:=eu v r
 generalize cM a.2.2 (r*r)=x at*
 generalize cM b.2.2 (r*r)=y at*
 generalize cM v r=w at*
 clear ha hb hn hF
 have k1:=iA hx aa sx aI aI
 have k2:=pX hx aa aa sx aI aI
 have kS:=fM (bL r (el x r))
 have ZC:=Ii (n:=r) (x:=x)
 by_cases hD:bL r (el x r)=0
 ·have k3:=nY hx aa sx aI aI hD
  have hle:=yj r r (el x r)
  rw[←gq]at hle
  have f1:(((bV r r x).length:Int)==(r:Int))=false:=beq_eq_false_iff_ne.2 fun g=>ZC.1 aa hD
  have f2:((bL r (el x r)).num.sign != 0)=false:=by rw[hD];rfl
  clear hx hy sx sy sv ZC hle
  generalize (bV r r x).length=R at*
  generalize bL r (el x r)=D at*
  refine bT [4,5,47] Tryz.func27 ?_
  intro W0 w0 ρ0 hE
  conv=>whnf
  (repeat((first|refine ag rfl rfl ?_|refine ae rfl rfl ?_|refine aq av ?_|refine bX Q3 ?_|refine aS (by assumption) ?_|refine ah dO ?_|refine ah dP ?_|rw[bne_self_eq_false]|refine ay t1 ?_|refine ah Q8 ?_|refine ah Q5 ?_|rw[t1]|rw[e2]|rw[f1]|rw[f2]);conv=>whnf));exact Q4
 have f1:(((bV r r x).length:Int)==(r:Int))=true:=by rw[ZC.2 hD];exact beq_self_eq_true _
 have f2:=Pj hD
 obtain⟨B,lB,sB,hBx,k3⟩:=ll hx aa sx aI aI hD
 have hB:dV r r B:=⟨hx.r,hx.c,lB⟩
 have hxB:=FC hBx
 have hdB:=L7 hBx
 have o1:=Ky r hx.r
 have o2:=z6 5 hB hx sB sx r5 aI
 have o3:=z6 5 hx hB sx sB r5 aI
 rw[hBx]at o2
 rw[hxB]at o3
 have k4:=iA hB aa sB aI aI
 have d1:=yE hx aa sx aI
 have d2:=yE hB aa sB aI
 have o4:=Lc (bL r (el x r)) (bL r (el B r)) aa
 rw[hdB]at o4
 have q1:=vZ (a:=gk r) (oV hx.r hx.c) rfl
 have c1:ab Tryz.prog 18 [iv 1] [] (.frac 1) [] []:=dI 1 aI aI
 have f3:(!decide ((1:Rat)=1))=false:=by rw[decide_eq_true rfl];rfl
 have eR:((B.length:Int) != ((r*r:Nat):Int))=false:=by rw[lB];exact bne_self_eq_false _
 have w1:IntKind.i64.wrap ((r:Int)*(r:Int))=((r*r:Nat):Int):=(kK (i:=r) (k:=0) (c:=r) aa aa aa).1
 have f4:((r:Int) != (r:Int))=false:=bne_self_eq_false _
 have o5:=xO hx
 have dT:bL r (el (iG r r x) r)≠0:=by rw[Ax];exact hD
 obtain⟨T,lT,sT,hT,k5⟩:=ll (oW hx) aa (v7 hx.n sx) aI aI dT
 have o6:=xO hB
 obtain rfl:T=iG r r B:=vw lT (dJ ..) hT (Ia hBx)
 have q2:=vZ (oW hB) rfl
 obtain⟨X,lX,sX,hX,_,k6⟩:=yx hx aa aa sx aI aI lv sv ⟨_,Zg lv hxB⟩
 have o7:=nL 5 hB lv sB sv r5 aI
 obtain rfl:X=cD r r B w:=L9 lX hBx hX
 have q3:=mm (a:=cD r r B w) (n:=r) dK dK aa rfl
 have lm:(((cD r r B w).length:Int) != (r:Int))=false:=by rw[dK];exact bne_self_eq_false _
 have hK:KL r r x=[]:=by
  have:=yv r r x
  rw[ZC.2 hD]at this
  exact List.length_eq_zero_iff.1 aa
 rw[hK]at k6
 have o8:=z6 5 hx hy sx sy r5 aI
 have EP:=v8 hx hy
 have MS:Sm 1302 (fA r r r x y):=E7 hx.n hy.n sx sy r5
 by_cases hZ:bL r (el y r)=0
 ·have k7:=nY hy aa sy aI aI hZ
  have k8:=nY EP aa MS aI aI (by rw[yu,hZ,Rat.mul_zero])
  have hr0:0≠r:=fun g=>by subst g;exact absurd (show(1:Rat)=0 from hZ) aI
  have o9:=YV (r:=0) (c:=0) (s:=r) (t:=r) (a:=[]) (b:=B) ⟨aI,aI,rfl⟩ hB hr0
  clear hx hy sx sy sv ZC hB hxB hdB d1 d2 dT hT hX EP MS hZ hr0 sX sB sT lT lX
  generalize fA r r r x y=XY at*
  generalize cD r r B w=S at*
  generalize iG r r B=TB at*
  generalize iG r r x=TX at*
  generalize gk r=I at*
  generalize (bV r r x).length=R at*
  generalize bL r (el x r)=D at*
  generalize bL r (el B r)=DB at*
  refine bT [4,5,47] Tryz.func27 ?_
  intro W0 w0 ρ0 hE
  conv=>whnf
  (repeat((first|refine ag rfl rfl ?_|refine ae rfl rfl ?_|refine aq av ?_|refine bX Q3 ?_|refine aS (by assumption) ?_|refine ah dO ?_|refine ah dP ?_|rw[beq_self_eq_true]|rw[bne_self_eq_false]|refine ay t1 ?_|refine ah Q8 ?_|refine ah Q5 ?_|refine⟨_,cn aJ cy rfl (ak rfl) (ak rfl) rfl rfl rfl rfl (oP _ _) cf, ?_⟩|rw[t1]|rw[e2]|rw[f1]|rw[f2]|rw[f3]|rw[eR]|rw[w1]|rw[lm]);conv=>whnf));exact Q4
 ·obtain⟨Y,lY,sY,hY,k7⟩:=ll hy aa sy aI aI hZ
  have hYo:dV r r Y:=⟨hx.r,hx.c,lY⟩
  have dXY:bL r (el (fA r r r x y) r)≠0:=by rw[yu];exact fun g=>(Rat.mul_eq_zero.1 g).elim hD hZ
  obtain⟨P,lP,sP,hP,k8⟩:=ll EP aa MS aI aI dXY
  have o9:=z6 5 hYo hB sY sB r5 aI
  obtain rfl:P=fA r r r Y B:=vw lP (dJ ..) hP (H9 hBx hY)
  have q4:=vZ (v8 hYo hB) rfl
  clear hx hy sx sy sv ZC hB hxB hdB d1 d2 dT hT hX EP MS hZ sX sB sT lT lX hY hYo dXY lP sP hP sY lY
  generalize fA r r r Y B=YB at*
  generalize fA r r r x y=XY at*
  generalize cD r r B w=S at*
  generalize iG r r B=TB at*
  generalize iG r r x=TX at*
  generalize gk r=I at*
  generalize (bV r r x).length=R at*
  generalize bL r (el x r)=D at*
  generalize bL r (el B r)=DB at*
  refine bT [4,5,47] Tryz.func27 ?_
  intro W0 w0 ρ0 hE
  conv=>whnf
  (repeat((first|refine ag rfl rfl ?_|refine ae rfl rfl ?_|refine aq av ?_|refine bX Q3 ?_|refine aS (by assumption) ?_|refine ah dO ?_|refine ah dP ?_|rw[beq_self_eq_true]|rw[bne_self_eq_false]|refine ay t1 ?_|refine ah Q8 ?_|refine ah Q5 ?_|refine⟨_,cn aJ cy rfl (ak rfl) (ak rfl) rfl rfl rfl rfl (oP _ _) cf, ?_⟩|rw[t1]|rw[e2]|rw[f1]|rw[f2]|rw[f3]|rw[eR]|rw[w1]|rw[lm]);conv=>whnf));exact Q4
theorem uS (a0 a1:MM) (a2:Int) (a3:List (Int×Int)) (w0:GL a0) (w1:GL a1) (w2:(Lit.int .u8 a2).wf=true) (w3:Kq a3):
  ab Tryz.prog 27 [mQ a0,mQ a1,jv .u8 a2,bF 2 qA a3] [] (.val (.bool true)) [] []:=FH a0 a1 a2 a3 (mo w0) (mo w1) (wf_u8 w2) ⟨w3.1,qH w3⟩
end Go.Proofs.YtfpagioknjjacaaGreatDoor
