/- The texts Bf. -/
import Derived.Test.YtfpagioknjjacaaGreatDoorQMElimsKnown20
import Derived.Test.YtfpagioknjjacaaGreatDoorQMElimsKnown21
namespace Go.Proofs.YtfpagioknjjacaaGreatDoor
open Go.Sx
set_option linter.unusedSimpArgs false
set_option linter.unusedVariables false
set_option maxRecDepth 100000
set_option maxHeartbeats 40000000
theorem D1 {r c:Nat} {X b:List Rat} {t:Rat} {a u:List Rat} (ha:a.length=c) (hu:u.length=c) (h1:mf r c (el X c) fun q=>a.getD q 0) (h2:oj r c X b fun q=>u.getD q 0):oj r c X b fun q=>(vl t a u).getD q 0:=
 (oj.add t h2 h1).ext fun q hq=>(pk ha hu hq).symm
theorem D2 {r c:Nat} {X y S:List Rat} {v:List (Int×Int)} (hX:dV r c X) (n6:r≤6) (k6:c≤6) (sX:Sm 130 X) (ly:y.length=r) (lS:S.length=c) (sS:Sm 7000000 S) (hS:oj r c X y fun q=>S.getD q 0) (hz:∀q,q<c→q∉bV r c X→S.getD q 0=0) (hv:v.length≤8∧∀q∈v,ue q):
  ab Tryz.prog 128 [mA r c X,aN y,.agg [aN S,bF 1 aN (KL r c X)],bF 2 qA v] [] (.val (.bool true)) [] []:=by
 have k1:=pY hX aa aa sX aI aI
 have k2:=eO hX aa aa sX aI aI
 have o1:=nL 6 hX lS sX sS k6 aI
 rw[hS.app ly]at o1
 have oz:=mm (a:=y) (n:=r) ly ly aa rfl
 have cnt:=yv r c X
 have DZ:=fun i=>wA (r:=r) (c:=c) (a:=X) (i:=i)
 have Rb:=fun i=>FD (r:=r) (c:=c) (a:=X) (i:=i)
 have D0:=fun i=>Me (i:=i) hX aa sX aI
 have hlp:((bV r c X).map cY).length=(bV r c X).length:=List.length_map _
 have IK:(bV r c X).length≤6:=by have:=ng r c (el X c);rw[←gq]at this;omega
 generalize RL r c X=RX at*
 generalize KL r c X=L at*
 generalize bV r c X=pv at*
 have f1:((S.length:Int) != (c:Int))=false:=by rw[lS];exact bne_self_eq_false _
 have f2:((L.length:Int) != (L.length:Int))=false:=bne_self_eq_false _
 have f3:((y.length:Int) != (r:Int))=false:=by rw[ly];exact bne_self_eq_false _
 refine bT [4,6] Tryz.func128 ?_
 intro W0 w0 ρ0 hE
 conv=>whnf
 (repeat((first|refine ag rfl rfl ?_|refine ae rfl rfl ?_|refine aS (by assumption) ?_|refine ah dP ?_|rw[bne_self_eq_false]|refine ah Q8 ?_|refine ah Q5 ?_|refine ah Q7 ?_|rw[f1]|rw[f3]);conv=>whnf))
 refine aj hE (fun k=>k) [1,3,4,6,9,13,14] [] (fun M fr hp=>∃(i:Nat) (T:List Rat),M=L.length - i∧i≤L.length∧T.length=c∧oj r c X y (fun q=>T.getD q 0)∧Sm (7000000+i*600000) T∧
  fr=[(1,aN y),(3,bF 2 qA v),(4,bE (mC r c X)),(6,bE [aN S,bF 1 aN L]),(9,bF 1 aN L),(13,aN T),(14,iv i)]∧hp=[]) L.length ?_ ?_ ?_
 ·kernel_rfl
 ·exact⟨0,S,rfl,Nat.zero_le _,lS,hS,sS,rfl,rfl⟩
 clear o1 k1
 rintro M _ _ ⟨i,T,rfl,hi,lT,hT,sT,rfl,rfl⟩
 conv=>whnf
 by_cases lJ:i<L.length
 ·have t4:=dx lJ
  have t5:=br (i:=i) aa
  have lV:=DZ i lJ
  have kV:=Rb i lJ
  have sV:=D0 i lJ
  have hLi:i<L.length:=lJ
  have ki:=dI ((i+1:Nat):Int) aa aa
  have fi:=DX (i+1) aa
  have rz:130+532480+(7000000+i*600000)≤1073741824:=aa
  clear DZ Rb D0 k2
  generalize hV:L.getD i []=V at*
  have os:=mm (a:=V) (n:=c) lV lV aa rfl
  by_cases hiv:i<v.length
  ·have t8:=dx hiv
   have kq:=zV (v.getD i (0,0)) (kO hv.2 i)
   have fq:=Dc (kO hv.2 i)
   generalize qV (v.getD i (0,0))=w at*
   have kx:=uA w V T (lV.trans lT.symm) aa (np lV lT fq sV sT rz)
   have n1:=lA (t:=w) lV lT
   have n2:=D1 (t:=w) lV lT kV hT
   have n3:=pZ lV lT fq sV sT
   clear kV sV sT hT hS hz sS
   (repeat((first|refine ae rfl rfl ?_|refine aq av ?_|refine aS (by assumption) ?_|refine ao t4 ?_|refine ao t8 ?_|refine ah Q8 ?_|refine ah Q5 ?_|refine ah X8 ?_|refine ah mP ?_|refine ah Q7 ?_|rw[t4]|rw[t5]|rw[t8]|rw[hV]);conv=>whnf))
   exact⟨L.length - (i+1),fun k=>k,[1,3,4,6,9,13,14],[],aa,av,i+1,_,rfl,lJ,n1,n2,n8 Qp n3,rfl,rfl⟩
  ·have t8:=dA hiv
   have kx:=uA (((i+1:Nat):Int):Rat) V T (lV.trans lT.symm) aa (np lV lT fi sV sT rz)
   have n1:=lA (t:=(((i+1:Nat):Int):Rat)) lV lT
   have n2:=D1 (t:=(((i+1:Nat):Int):Rat)) lV lT kV hT
   have n3:=pZ lV lT fi sV sT
   clear kV sV sT hT hS hz sS
   (repeat((first|refine ae rfl rfl ?_|refine aq av ?_|refine aS (by assumption) ?_|refine ao t4 ?_|refine ay t8 ?_|refine ah Q8 ?_|refine ah Q5 ?_|refine ah mP ?_|refine ah Q7 ?_|rw[t4]|rw[t5]|rw[t8]|rw[hV]);conv=>whnf))
   exact⟨L.length - (i+1),fun k=>k,[1,3,4,6,9,13,14],[],aa,av,i+1,_,rfl,lJ,n1,n2,n8 Qp n3,rfl,rfl⟩
 ·have t4:=dA lJ
  have ox:=nL 6 hX lT sX sT k6 aa
  rw[hT.app ly]at ox
  clear DZ Rb D0 hT sT sX
  (repeat((first|refine aS (by assumption) ?_|refine ay t4 ?_|refine ah Q8 ?_|refine ah Q5 ?_|rw[t4]);conv=>whnf))
  refine aj hE (fun k=>k) [1,4,6,13,17,19] [] (fun M fr hp=>∃k:Nat,M=c - k∧k≤c∧fr=[(1,aN y),(4,bE (mC r c X)),(6,bE [aN S,bF 1 aN L]),(13,aN T),(17,cO .i64 (pv.map cY)),(19,iv k)]∧hp=[]) c ?_ ?_ ?_
  ·kernel_rfl
  ·exact⟨0,rfl,Nat.zero_le _,rfl,rfl⟩
  rintro M _ _ ⟨k,rfl,hk,rfl,rfl⟩
  conv=>whnf
  by_cases aE:k<c
  ·have t2:=dx aE
   have t9:=br (i:=k) aa
   have hSk:k<S.length:=aa
   clear ox oz k2
   (repeat((first|refine ao t2 ?_|refine ah Q5 ?_|refine ah Q7 ?_|rw[t2]);conv=>whnf))
   refine aj hE (fun k=>k) [1,4,6,13,17,19,20,21] [] (fun M fr hp=>∃(u:Nat) (al:Bool),M=pv.length - u∧u≤pv.length∧al=decide (k∈pv.take u)∧
    fr=[(1,aN y),(4,bE (mC r c X)),(6,bE [aN S,bF 1 aN L]),(13,aN T),(17,cO .i64 (pv.map cY)),(19,iv k),(20,.val (.bool al)),(21,iv u)]∧hp=[]) pv.length ?_ ?_ ?_
   ·kernel_rfl
   ·exact⟨0,false,rfl,Nat.zero_le _,by simp,rfl,rfl⟩
   rintro M _ _ ⟨u,al,rfl,hu,gx,rfl,rfl⟩
   conv=>whnf
   by_cases qm:u<pv.length
   ·have s3:=dx (show u<(pv.map cY).length by omega)
    have s4:=br (i:=u) aa
    have g1:=uT qm
    have DN:=p0 (k:=k) qm
    cases al
    ·have DE:k∉pv.take u:=fun h=>by rw[decide_eq_true h]at gx;cases gx
     generalize pv.getD u 0=y at*
     by_cases hyk:y=k
     ·have s5:((y:Int)==(k:Int))=true:=by rw[hyk];exact beq_self_eq_true _
      (repeat((first|refine ag rfl rfl ?_|refine ah dP ?_|refine ao s3 ?_|refine ah Q8 ?_|refine ah Q5 ?_|refine ah jw ?_|rw[s3]|rw[g1]|rw[s5]|rw[s4]);conv=>whnf))
      exact⟨pv.length - (u+1),fun k=>k,[1,4,6,13,17,19,20,21],[],aa,av,u+1,true,rfl,qm,(decide_eq_true (DN.2 (.inr hyk))).symm,rfl,rfl⟩
     ·have s5:((y:Int)==(k:Int))=false:=beq_eq_false_iff_ne.2 aa
      (repeat((first|refine ag rfl rfl ?_|refine ah dP ?_|refine ao s3 ?_|refine ah Q8 ?_|refine ah Q5 ?_|refine ah jw ?_|rw[s3]|rw[g1]|rw[s5]|rw[s4]);conv=>whnf))
      exact⟨pv.length - (u+1),fun k=>k,[1,4,6,13,17,19,20,21],[],aa,av,u+1,false,rfl,qm,(decide_eq_false fun h=>(DN.1 h).elim DE hyk).symm,rfl,rfl⟩
    ·have FJ:k∈pv.take u:=of_decide_eq_true gx.symm
     (repeat((first|refine ae rfl rfl ?_|refine ah dO ?_|refine ao s3 ?_|refine ah Q8 ?_|rw[s3]|rw[s4]);conv=>whnf))
     exact⟨pv.length - (u+1),fun k=>k,[1,4,6,13,17,19,20,21],[],aa,av,u+1,true,rfl,qm,(decide_eq_true (DN.2 (.inl FJ))).symm,rfl,rfl⟩
   ·have t3:=dA (show ¬u<(pv.map cY).length by omega)
    rw[List.take_of_length_le aa]at gx
    by_cases hkp:k∈pv
    ·rw[decide_eq_true hkp]at gx
     subst gx
     (repeat((first|refine ae rfl rfl ?_|refine ah dP ?_|refine ay t3 ?_|refine ah Q8 ?_|rw[t3]|rw[t9]);conv=>whnf))
     exact⟨c - (k+1),fun k=>k,[1,4,6,13,17,19],[],aa,av,k+1,rfl,aE,rfl,rfl⟩
    ·rw[decide_eq_false hkp]at gx
     subst gx
     have yL:=hz k aE hkp
     (repeat((first|refine ag rfl rfl ?_|refine ae rfl rfl ?_|refine ah dO ?_|refine ay t3 ?_|refine ah Q8 ?_|refine ah og ?_|refine ah Q5 ?_|refine ah Q7 ?_|refine⟨_,cn aJ cy rfl (ak rfl) (ak rfl) rfl rfl rfl rfl (kX (yL)) cf, ?_⟩|rw[t3]|rw[t9]);conv=>whnf))
     exact⟨c - (k+1),fun k=>k,[1,4,6,13,17,19],[],aa,av,k+1,rfl,aE,rfl,rfl⟩
  ·have t2:=dA aE
   (repeat((first|refine ag rfl rfl ?_|refine aS (by assumption) ?_|refine ah dO ?_|refine ay t2 ?_|refine ah Q5 ?_|refine ah Q7 ?_);conv=>whnf));exact Q4
theorem D3 (a:MM) (b v c0:List (Int×Int)) (ha:Eb a) (hb:b.length≤maxLen∧∀q∈b,ue q) (hv:v.length≤maxLen∧∀q∈v,ue q) (hc:c0.length≤maxLen∧∀q∈c0,ue q):
  ab Tryz.prog 26 [mQ a,bF 2 qA b,bF 2 qA v,bF 2 qA c0] [] (.val (.bool true)) [] []:=by
 have kw:=eP
 have kf:=ln [a] (by simp) Q31
 cases hF:[a].all fun m=>decide (m.2.2.length≤40)
 ·rw[hF]at kf
  refine bT [4,37] Tryz.func26 ?_
  intro W0 w0 ρ0 hE
  conv=>whnf
  (repeat((first|refine ag rfl rfl ?_|refine ae rfl rfl ?_|refine aS (by assumption) ?_|refine ah dO ?_|refine ah Q5 ?_);conv=>whnf));exact Q4
 rw[hF]at kf
 by_cases hl:b.length>20
 ·have t1:decide ((b.length:Int)>20)=true:=decide_eq_true aa
  refine bT [4,37] Tryz.func26 ?_
  intro W0 w0 ρ0 hE
  conv=>whnf
  (repeat((first|refine ag rfl rfl ?_|refine ae rfl rfl ?_|refine aS (by assumption) ?_|refine ah dO ?_|refine ah dP ?_|refine ah Q8 ?_|refine ah Q5 ?_|rw[t1]);conv=>whnf));exact Q4
 have p1:decide ((b.length:Int)>20)=false:=decide_eq_false aa
 by_cases iC:v.length>20
 ·have t1:decide ((v.length:Int)>20)=true:=decide_eq_true aa
  refine bT [4,37] Tryz.func26 ?_
  intro W0 w0 ρ0 hE
  conv=>whnf
  (repeat((first|refine ag rfl rfl ?_|refine ae rfl rfl ?_|refine aS (by assumption) ?_|refine ah dO ?_|refine ah dP ?_|refine ah Q8 ?_|refine ah Q5 ?_|rw[p1]|rw[t1]);conv=>whnf));exact Q4
 have p2:decide ((v.length:Int)>20)=false:=decide_eq_false aa
 by_cases hl3:c0.length>8
 ·have t1:decide ((c0.length:Int)>8)=true:=decide_eq_true aa
  refine bT [4,37] Tryz.func26 ?_
  intro W0 w0 ρ0 hE
  conv=>whnf
  (repeat((first|refine ag rfl rfl ?_|refine aS (by assumption) ?_|refine ah dP ?_|refine ao t1 ?_|refine ah Q8 ?_|refine ah Q5 ?_|rw[p1]|rw[p2]);conv=>whnf));exact Q4
 have p3:decide ((c0.length:Int)>8)=false:=decide_eq_false aa
 have km:=GM a ha
 have n6:=iY a.1
 have k6:=iY a.2.1
 generalize (a.1 % 7).toNat=r at*
 generalize (a.2.1 % 7).toNat=c at*
 have hX:=fB a.2.2 (r:=r) (c:=c) aa aa
 have sX:=eT ha.2.2.2 (r*c)
 generalize cM a.2.2 (r*c)=X at*
 have v1:=B6 b hb.1 hb.2 (n:=r) aa
 have v2:=B6 v hv.1 hv.2 (n:=c) aa
 have ly:=eu b r
 have lx:=eu v c
 have sy:=eT hb.2 r
 have sx:=eT hv.2 c
 generalize cM b r=y at*
 generalize cM v c=x at*
 have o1:=nL 6 hX lx sX sx k6 aI
 have sM:Sm 1562 (cD r c X x):=Kz hX.n lx sX sx k6
 have lM:(cD r c X x).length=r:=dK
 have acE:oj r c X (cD r c X x) fun q=>x.getD q 0:=oj.of
 obtain⟨T,lT,sT,hT,zT,k2⟩:=yx hX aa aa (n8 aI sX) aI aI lM sM ⟨_,acE⟩
 replace sT:Sm 7000000 T:=n8 aI sT
 have k3:=D2 hX n6 k6 sX lM lT sT hT zT ⟨aa,hc.2⟩
 have k4:=eO hX aa aa sX aI aI
 have hU0:ua r c X (cD r c X x) x 0 T:=⟨lT,hT,fun q hq hn=>by rw[if_neg (Nat.not_lt_zero q)];exact zT q hq hn⟩
 have vC:=fun k U (h:ua r c X (cD r c X x) x k U)=>h.skip
 have ca:=fun k U w (h:ua r c X (cD r c X x) x k U)=>h.step (w:=w)
 have mw:=fun k U (h:ua r c X (cD r c X x) x k U)=>h.done lx acE
 have lfr:=nW r c X
 have cnt:=yv r c X
 have DZ:=fun i=>wA (r:=r) (c:=c) (a:=X) (i:=i)
 have D0:=fun i=>Me (i:=i) hX aa sX aI
 have hlp:((bV r c X).map cY).length=(bV r c X).length:=List.length_map _
 have IK:(bV r c X).length≤6:=by have:=ng r c (el X c);rw[←gq]at this;omega
 by_cases hs:∃z,oj r c X y z
 ·obtain⟨S,lS,sS,hS,zS,k5⟩:=yx hX aa aa sX aI aI ly sy hs
  have k6':=FF hX ly aa aa sX sy aI aI hs
  have k7:=D2 hX n6 k6 sX ly lS (n8 aI sS) hS zS ⟨aa,hc.2⟩
  clear lS sS hS zS hs hT zT sX sy
  generalize RL r c X=RX at*
  generalize KL r c X=L at*
  generalize bV r c X=pv at*
  generalize cD r c X x=MD at*
  refine bT [4,37] Tryz.func26 ?_
  intro W0 w0 ρ0 hE
  conv=>whnf
  (repeat((first|refine ag rfl rfl ?_|refine ae rfl rfl ?_|refine aS (by assumption) ?_|refine ah dO ?_|refine ah dP ?_|rw[beq_self_eq_true]|rw[bne_self_eq_false]|refine ay p3 ?_|refine ah Q8 ?_|refine ah Q5 ?_|rw[p1]|rw[p2]|rw[p3]|rw[Nat.zero_add]);conv=>whnf))
  refine aj hE (fun k=>k) [9,23,26,29,31,32,33] [9,26] (fun M fr hp=>∃(k:Nat) (U:List Rat),M=c - k∧k≤c∧ua r c X MD x k U∧Sm (7000000+k*700000) U∧
   fr=[(9,.ptr 9 0 0 0),(23,aN x),(26,.ptr 26 0 0 0),(29,cO .i64 (pv.map cY)),(31,aN U),(32,iv (aU pv k).length),(33,iv k)]∧hp=[(9,⟨38,true,.one (mC r c X)⟩),(26,⟨172,true,.one [aN T,bF 1 aN L]⟩)]) c ?_ ?_ ?_
  ·kernel_rfl
  ·exact⟨0,T,rfl,Nat.zero_le _,hU0,sT,rfl,rfl⟩
  clear k2 k3 k4 k5 k6' k7 o1 v1 v2 km kf sM lM hX hU0
  rintro M _ _ ⟨k,U,rfl,hk,hU,sU,rfl,rfl⟩
  conv=>whnf
  have lU:=hU.len
  have ZS:=pW pv k
  by_cases hkc:k<c
  ·have t2:=dx hkc
   have t9:=br (i:=k) aa
   by_cases hat:(aU pv k).length<L.length
   ·have t6:=dx hat
    have w6:=br (i:=(aU pv k).length) aa
    clear kw
    (repeat((first|refine ah dO ?_|refine ao t2 ?_|refine ao t6 ?_|refine ah Q8 ?_|rw[t2]|rw[t6]|rw[Nat.zero_add]);conv=>whnf))
    refine aj hE (fun k=>k) [9,23,26,29,31,32,33,34,35] [9,26] (fun M fr hp=>∃(u:Nat) (al:Bool),M=pv.length - u∧u≤pv.length∧al=decide (k∈pv.take u)∧
     fr=[(9,.ptr 9 0 0 0),(23,aN x),(26,.ptr 26 0 0 0),(29,cO .i64 (pv.map cY)),(31,aN U),(32,iv (aU pv k).length),(33,iv k),(34,.val (.bool al)),(35,iv u)]∧hp=[(9,⟨38,true,.one (mC r c X)⟩),(26,⟨172,true,.one [aN T,bF 1 aN L]⟩)]) pv.length ?_ ?_ ?_
    ·kernel_rfl
    ·exact⟨0,false,rfl,Nat.zero_le _,by simp,rfl,rfl⟩
    rintro M _ _ ⟨u,al,rfl,hu,gx,rfl,rfl⟩
    conv=>whnf
    by_cases qm:u<pv.length
    ·have s3:=dx (show u<(pv.map cY).length by omega)
     have s4:=br (i:=u) aa
     have g1:=uT qm
     have DN:=p0 (k:=k) qm
     cases al
     ·have DE:k∉pv.take u:=fun h=>by rw[decide_eq_true h]at gx;cases gx
      generalize pv.getD u 0=y at*
      by_cases hyk:y=k
      ·have s5:((y:Int)==(k:Int))=true:=by rw[hyk];exact beq_self_eq_true _
       (repeat((first|refine ag rfl rfl ?_|refine ah dP ?_|refine ao s3 ?_|refine ah Q8 ?_|refine ah Q5 ?_|refine ah jw ?_|rw[s3]|rw[g1]|rw[s5]|rw[s4]);conv=>whnf))
       exact⟨pv.length - (u+1),fun k=>k,[9,23,26,29,31,32,33,34,35],[9,26],aa,av,u+1,true,rfl,qm,(decide_eq_true (DN.2 (.inr hyk))).symm,rfl,rfl⟩
      ·have s5:((y:Int)==(k:Int))=false:=beq_eq_false_iff_ne.2 aa
       (repeat((first|refine ag rfl rfl ?_|refine ah dP ?_|refine ao s3 ?_|refine ah Q8 ?_|refine ah Q5 ?_|refine ah jw ?_|rw[s3]|rw[g1]|rw[s5]|rw[s4]);conv=>whnf))
       exact⟨pv.length - (u+1),fun k=>k,[9,23,26,29,31,32,33,34,35],[9,26],aa,av,u+1,false,rfl,qm,(decide_eq_false fun h=>(DN.1 h).elim DE hyk).symm,rfl,rfl⟩
     ·have FJ:k∈pv.take u:=of_decide_eq_true gx.symm
      (repeat((first|refine ae rfl rfl ?_|refine ah dO ?_|refine ao s3 ?_|refine ah Q8 ?_|rw[s3]|rw[s4]);conv=>whnf))
      exact⟨pv.length - (u+1),fun k=>k,[9,23,26,29,31,32,33,34,35],[9,26],aa,av,u+1,true,rfl,qm,(decide_eq_true (DN.2 (.inl FJ))).symm,rfl,rfl⟩
    ·have t3:=dA (show ¬u<(pv.map cY).length by omega)
     rw[List.take_of_length_le aa]at gx
     by_cases hkp:k∈pv
     ·rw[decide_eq_true hkp]at gx
      subst gx
      have e2:(aU pv (k+1)).length=(aU pv k).length:=by rw[dr,if_pos hkp,List.append_nil]
      have n1:=vC k U hU hkp
      (repeat((first|refine ae rfl rfl ?_|refine ay t3 ?_|refine ah Q8 ?_|rw[t3]|rw[t9]);conv=>whnf))
      exact⟨c - (k+1),fun k=>k,[9,23,26,29,31,32,33],[9,26],aa,av,k+1,U,rfl,hkc,n1,n8 Qp sU,by rw[e2];rfl,rfl⟩
     ·rw[decide_eq_false hkp]at gx
      subst gx
      have e2:(aU pv (k+1)).length=(aU pv k).length+1:=by rw[dr,if_neg hkp,List.length_append];rfl
      have lV:=DZ _ hat
      have sV:=D0 _ hat
      have fx:=sx k aa
      have n1:=ca k U (vl (x.getD k 0) (L.getD (aU pv k).length []) U) hU hkc hkp (lA lV lU) (fun q hq=>pk lV lU hq)
      have n3:=pZ lV lU fx sV sU
      have kx:=uA (x.getD k 0) (L.getD (aU pv k).length []) U (lV.trans lU.symm) aa (np lV lU fx sV sU (M:=1073741824) aa)
      have hxk:k<x.length:=aa
      clear hU sU sV lV DZ D0 vC ca mw
      (repeat((first|refine ag rfl rfl ?_|refine aq av ?_|refine aS (by assumption) ?_|refine ay t3 ?_|refine ah Q8 ?_|refine ah og ?_|refine ah Q5 ?_|refine ah mP ?_|rw[t3]|rw[t9]|rw[w6]|rw[Nat.zero_add]);conv=>whnf))
      exact⟨c - (k+1),fun k=>k,[9,23,26,29,31,32,33],[9,26],aa,av,k+1,_,rfl,hkc,n1,n8 Qp n3,by rw[e2];rfl,rfl⟩
   ·have t6:=dA hat
    obtain rfl:=mw k U hU hk aa
    have e0:(aU pv k).length=L.length:=by
     have:=p5 (sp:=pv) c hk
     omega
    have t7:(((aU pv k).length:Int)==(L.length:Int))=true:=by rw[e0];exact beq_self_eq_true _
    have t8:((U.length:Int)==(c:Int))=true:=by rw[lU];exact beq_self_eq_true _
    have oz:=mm (a:=U) (n:=c) lU lU aa rfl
    clear hU sU DZ D0 vC ca mw
    (repeat((first|refine ag rfl rfl ?_|refine aS (by assumption) ?_|refine ah dO ?_|refine ao t2 ?_|refine ay t6 ?_|refine ao t7 ?_|refine ao t8 ?_|refine ah Q8 ?_|rw[t2]|rw[t6]|rw[t7]|rw[t8]);conv=>whnf));exact Q4
  ·have t2:=dA hkc
   obtain rfl:k=c:=aa
   obtain rfl:=mw k U hU hk aa
   have t7:(((aU pv k).length:Int)==(L.length:Int))=true:=by rw[lfr];exact beq_self_eq_true _
   have t8:((U.length:Int)==(k:Int))=true:=by rw[lU];exact beq_self_eq_true _
   have oz:=mm (a:=U) (n:=k) lU lU aa rfl
   clear hU sU DZ D0 vC ca mw
   (repeat((first|refine ag rfl rfl ?_|refine ae rfl rfl ?_|refine aS (by assumption) ?_|refine ah dO ?_|refine ah dP ?_|refine ay t2 ?_|refine ao t7 ?_|refine ao t8 ?_|refine ah Q8 ?_|rw[t2]|rw[t7]|rw[t8]);conv=>whnf));exact Q4
 ·have k5:=Mg hX aa aa sX aI aI ly sy hs
  obtain⟨Y,lY,sY,h1,h2,k6'⟩:=FG hX ly aa aa sX sy aI aI hs
  have hlY:decide ((Y.length:Int)>0)=true∨True:=.inr trivial
  have o2:=xO hX
  have o3:=nL 6 (oW hX) lY (v7 hX.n sX) sY n6 aI
  have e1:cD c r (iG r c X) Y=List.replicate c 0:=qW fun i hi=>(ai r fun q hq=>by rw[sZ hi hq]).trans (h1 i hi)
  rw[e1]at o3
  have o4:=Kj c aa
  have oz0:=mm (a:=List.replicate c (0:Rat)) (n:=c) (by simp) (by simp) aa rfl
  have QD:vk (Bm Y y)≤_:=Bp (E3 eE sY sy (lY.trans ly.symm))
  rw[nH lY ly]at QD
  have hs3:=Nat.mul_le_mul_right (8192*130+130) n6
  have o5:=QE Y y (lY.trans ly.symm) aa (Kp sY sy (lY.trans ly.symm) aI) aa
  rw[Dd lY ly,h2]at o5
  have ki:ab Tryz.prog 18 [iv 1] [] (.frac 1) [] []:=dI 1 aI aI
  clear hs hT zT sX sy sY h1 h2 e1 QD hs3 hlY
  generalize RL r c X=RX at*
  generalize KL r c X=L at*
  generalize bV r c X=pv at*
  generalize cD r c X x=MD at*
  generalize iG r c X=TX at*
  refine bT [4,37] Tryz.func26 ?_
  intro W0 w0 ρ0 hE
  conv=>whnf
  (repeat((first|refine ag rfl rfl ?_|refine ae rfl rfl ?_|refine aq av ?_|refine aS (by assumption) ?_|refine ah dO ?_|refine ah dP ?_|rw[beq_self_eq_true]|rw[bne_self_eq_false]|refine ay p3 ?_|refine ah Q8 ?_|refine ah Q5 ?_|refine⟨_,cn aJ cy rfl (ak rfl) (ak rfl) rfl rfl rfl rfl (kX (rfl)) cf, ?_⟩|rw[p1]|rw[p2]|rw[p3]|rw[Nat.zero_add]);conv=>whnf))
  refine aj hE (fun k=>k) [9,23,26,29,31,32,33] [9,26] (fun M fr hp=>∃(k:Nat) (U:List Rat),M=c - k∧k≤c∧ua r c X MD x k U∧Sm (7000000+k*700000) U∧
   fr=[(9,.ptr 9 0 0 0),(23,aN x),(26,.ptr 26 0 0 0),(29,cO .i64 (pv.map cY)),(31,aN U),(32,iv (aU pv k).length),(33,iv k)]∧hp=[(9,⟨38,true,.one (mC r c X)⟩),(26,⟨172,true,.one [aN T,bF 1 aN L]⟩)]) c ?_ ?_ ?_
  ·kernel_rfl
  ·exact⟨0,T,rfl,Nat.zero_le _,hU0,sT,rfl,rfl⟩
  clear k2 k3 k4 k5 k6' o1 o2 o3 o4 o5 oz0 ki v1 v2 km kf sM lM hX hU0
  rintro M _ _ ⟨k,U,rfl,hk,hU,sU,rfl,rfl⟩
  conv=>whnf
  have lU:=hU.len
  have ZS:=pW pv k
  by_cases hkc:k<c
  ·have t2:=dx hkc
   have t9:=br (i:=k) aa
   by_cases hat:(aU pv k).length<L.length
   ·have t6:=dx hat
    have w6:=br (i:=(aU pv k).length) aa
    clear kw
    (repeat((first|refine ah dO ?_|refine ao t2 ?_|refine ao t6 ?_|refine ah Q8 ?_|rw[t2]|rw[t6]|rw[Nat.zero_add]);conv=>whnf))
    refine aj hE (fun k=>k) [9,23,26,29,31,32,33,34,35] [9,26] (fun M fr hp=>∃(u:Nat) (al:Bool),M=pv.length - u∧u≤pv.length∧al=decide (k∈pv.take u)∧
     fr=[(9,.ptr 9 0 0 0),(23,aN x),(26,.ptr 26 0 0 0),(29,cO .i64 (pv.map cY)),(31,aN U),(32,iv (aU pv k).length),(33,iv k),(34,.val (.bool al)),(35,iv u)]∧hp=[(9,⟨38,true,.one (mC r c X)⟩),(26,⟨172,true,.one [aN T,bF 1 aN L]⟩)]) pv.length ?_ ?_ ?_
    ·kernel_rfl
    ·exact⟨0,false,rfl,Nat.zero_le _,by simp,rfl,rfl⟩
    rintro M _ _ ⟨u,al,rfl,hu,gx,rfl,rfl⟩
    conv=>whnf
    by_cases qm:u<pv.length
    ·have s3:=dx (show u<(pv.map cY).length by omega)
     have s4:=br (i:=u) aa
     have g1:=uT qm
     have DN:=p0 (k:=k) qm
     cases al
     ·have DE:k∉pv.take u:=fun h=>by rw[decide_eq_true h]at gx;cases gx
      generalize pv.getD u 0=y at*
      by_cases hyk:y=k
      ·have s5:((y:Int)==(k:Int))=true:=by rw[hyk];exact beq_self_eq_true _
       (repeat((first|refine ag rfl rfl ?_|refine ah dP ?_|refine ao s3 ?_|refine ah Q8 ?_|refine ah Q5 ?_|refine ah jw ?_|rw[s3]|rw[g1]|rw[s5]|rw[s4]);conv=>whnf))
       exact⟨pv.length - (u+1),fun k=>k,[9,23,26,29,31,32,33,34,35],[9,26],aa,av,u+1,true,rfl,qm,(decide_eq_true (DN.2 (.inr hyk))).symm,rfl,rfl⟩
      ·have s5:((y:Int)==(k:Int))=false:=beq_eq_false_iff_ne.2 aa
       (repeat((first|refine ag rfl rfl ?_|refine ah dP ?_|refine ao s3 ?_|refine ah Q8 ?_|refine ah Q5 ?_|refine ah jw ?_|rw[s3]|rw[g1]|rw[s5]|rw[s4]);conv=>whnf))
       exact⟨pv.length - (u+1),fun k=>k,[9,23,26,29,31,32,33,34,35],[9,26],aa,av,u+1,false,rfl,qm,(decide_eq_false fun h=>(DN.1 h).elim DE hyk).symm,rfl,rfl⟩
     ·have FJ:k∈pv.take u:=of_decide_eq_true gx.symm
      (repeat((first|refine ae rfl rfl ?_|refine ah dO ?_|refine ao s3 ?_|refine ah Q8 ?_|rw[s3]|rw[s4]);conv=>whnf))
      exact⟨pv.length - (u+1),fun k=>k,[9,23,26,29,31,32,33,34,35],[9,26],aa,av,u+1,true,rfl,qm,(decide_eq_true (DN.2 (.inl FJ))).symm,rfl,rfl⟩
    ·have t3:=dA (show ¬u<(pv.map cY).length by omega)
     rw[List.take_of_length_le aa]at gx
     by_cases hkp:k∈pv
     ·rw[decide_eq_true hkp]at gx
      subst gx
      have e2:(aU pv (k+1)).length=(aU pv k).length:=by rw[dr,if_pos hkp,List.append_nil]
      have n1:=vC k U hU hkp
      (repeat((first|refine ae rfl rfl ?_|refine ay t3 ?_|refine ah Q8 ?_|rw[t3]|rw[t9]);conv=>whnf))
      exact⟨c - (k+1),fun k=>k,[9,23,26,29,31,32,33],[9,26],aa,av,k+1,U,rfl,hkc,n1,n8 Qp sU,by rw[e2];rfl,rfl⟩
     ·rw[decide_eq_false hkp]at gx
      subst gx
      have e2:(aU pv (k+1)).length=(aU pv k).length+1:=by rw[dr,if_neg hkp,List.length_append];rfl
      have lV:=DZ _ hat
      have sV:=D0 _ hat
      have fx:=sx k aa
      have n1:=ca k U (vl (x.getD k 0) (L.getD (aU pv k).length []) U) hU hkc hkp (lA lV lU) (fun q hq=>pk lV lU hq)
      have n3:=pZ lV lU fx sV sU
      have kx:=uA (x.getD k 0) (L.getD (aU pv k).length []) U (lV.trans lU.symm) aa (np lV lU fx sV sU (M:=1073741824) aa)
      have hxk:k<x.length:=aa
      clear hU sU sV lV DZ D0 vC ca mw
      (repeat((first|refine ag rfl rfl ?_|refine aq av ?_|refine aS (by assumption) ?_|refine ay t3 ?_|refine ah Q8 ?_|refine ah og ?_|refine ah Q5 ?_|refine ah mP ?_|rw[t3]|rw[t9]|rw[w6]|rw[Nat.zero_add]);conv=>whnf))
      exact⟨c - (k+1),fun k=>k,[9,23,26,29,31,32,33],[9,26],aa,av,k+1,_,rfl,hkc,n1,n8 Qp n3,by rw[e2];rfl,rfl⟩
   ·have t6:=dA hat
    obtain rfl:=mw k U hU hk aa
    have e0:(aU pv k).length=L.length:=by
     have:=p5 (sp:=pv) c hk
     omega
    have t7:(((aU pv k).length:Int)==(L.length:Int))=true:=by rw[e0];exact beq_self_eq_true _
    have t8:((U.length:Int)==(c:Int))=true:=by rw[lU];exact beq_self_eq_true _
    have oz:=mm (a:=U) (n:=c) lU lU aa rfl
    clear hU sU DZ D0 vC ca mw
    (repeat((first|refine ag rfl rfl ?_|refine aS (by assumption) ?_|refine ah dO ?_|refine ao t2 ?_|refine ay t6 ?_|refine ao t7 ?_|refine ao t8 ?_|refine ah Q8 ?_|rw[t2]|rw[t6]|rw[t7]|rw[t8]);conv=>whnf));exact Q4
  ·have t2:=dA hkc
   obtain rfl:k=c:=aa
   obtain rfl:=mw k U hU hk aa
   have t7:(((aU pv k).length:Int)==(L.length:Int))=true:=by rw[lfr];exact beq_self_eq_true _
   have t8:((U.length:Int)==(k:Int))=true:=by rw[lU];exact beq_self_eq_true _
   have oz:=mm (a:=U) (n:=k) lU lU aa rfl
   clear hU sU DZ D0 vC ca mw
   (repeat((first|refine ag rfl rfl ?_|refine ae rfl rfl ?_|refine aS (by assumption) ?_|refine ah dO ?_|refine ah dP ?_|refine ay t2 ?_|refine ao t7 ?_|refine ao t8 ?_|refine ah Q8 ?_|rw[t2]|rw[t7]|rw[t8]);conv=>whnf));exact Q4
theorem ub (a0:MM) (a1 a2 a3:List (Int×Int)) (w0:GL a0) (w1:Kq a1) (w2:Kq a2) (w3:Kq a3):
  ab Tryz.prog 26 [mQ a0,bF 2 qA a1,bF 2 qA a2,bF 2 qA a3] [] (.val (.bool true)) [] []:=D3 a0 a1 a2 a3 (mo w0) ⟨w1.1,qH w1⟩ ⟨w2.1,qH w2⟩ ⟨w3.1,qH w3⟩
end Go.Proofs.YtfpagioknjjacaaGreatDoor
