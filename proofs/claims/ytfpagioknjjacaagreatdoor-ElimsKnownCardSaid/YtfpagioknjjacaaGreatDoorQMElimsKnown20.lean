/- The texts Ba. -/
import Derived.Test.YtfpagioknjjacaaGreatDoorQMElimsKnown17
namespace Go.Proofs.YtfpagioknjjacaaGreatDoor
open Go.Sx
set_option linter.unusedSimpArgs false
set_option linter.unusedVariables false
set_option maxRecDepth 100000
set_option maxHeartbeats 40000000
theorem DX (i:Nat) (h:i≤8):fs (((i:Nat):Int):Rat)≤130:=by
 have:∀i,i<9→fs (((i:Nat):Int):Rat)≤130:=by decide+kernel
 exact this i aa
theorem lA {n:Nat} {t:Rat} {a b:List Rat} (ha:a.length=n) (hb:b.length=n):(vl t a b).length=n:=nH ha hb
theorem pk {n q:Nat} {t:Rat} {a b:List Rat} (ha:a.length=n) (hb:b.length=n) (hq:q<n):(vl t a b).getD q 0=t*a.getD q 0+b.getD q 0:=rV aa aa
theorem pZ {n A B C:Nat} {t:Rat} {a b:List Rat} (ha:a.length=n) (hb:b.length=n) (ht:fs t≤C) (sa:Sm A a) (sb:Sm B b):Sm (C+A+B) (vl t a b):=by
 intro q hq
 rw[lA ha hb]at hq
 rw[pk ha hb hq]
 have h1:=sa q aa
 have h2:=sb q aa
 have h3:=eE t (a.getD q 0)
 have h4:=xG (t*a.getD q 0) (b.getD q 0)
 omega
theorem DY {r c:Nat} {w:Mx} {t:Rat} {a b:List Rat} (ha:a.length=c) (hb:b.length=c) (h1:mf r c w fun q=>a.getD q 0) (h2:mf r c w fun q=>b.getD q 0):mf r c w fun q=>(vl t a b).getD q 0:=
 (B1 fun q hq=>pk ha hb hq).2 (L5 t h1 h2)
theorem np {n A B C M:Nat} {t:Rat} {a b:List Rat} (ha:a.length=n) (hb:b.length=n) (ht:fs t≤C) (sa:Sm A a) (sb:Sm B b) (h:C+A+B≤M):∀i,i<a.length→fs t+fs (a.getD i 0)+fs (b.getD i 0)≤M:=fun i hi=>by
 have h1:=sa i hi
 have h2:=sb i aa
 omega
theorem uT {sp:List Nat} {u:Nat} (hu:u<sp.length):(sp.map cY).getD u 0=((sp.getD u 0:Nat):Int):=by simp[List.getD_eq_getElem?_getD,hu]
theorem Ij {sp:List Nat} {k:Nat} (hk:k∉sp):(aU sp (k+1)).map cY=(aU sp k).map cY++[(k:Int)]:=by rw[dr,if_neg hk,List.map_append];rfl
theorem Ik {sp:List Nat} {k:Nat} (hk:k∈sp):(aU sp (k+1)).map cY=(aU sp k).map cY:=by rw[dr,if_pos hk,List.append_nil]
theorem p0 {l:List Nat} {u k:Nat} (hu:u<l.length):k∈l.take (u+1)↔k∈l.take u∨l.getD u 0=k:=by
 have e:l.getD u 0=l[u]:=by rw[List.getD_eq_getElem?_getD,List.getElem?_eq_getElem hu];rfl
 rw[e,List.take_add_one,List.getElem?_eq_getElem hu,List.mem_append,Option.toList_some,List.mem_singleton,eq_comm (a:=k)]
theorem Il (a:MM) (v:List (Int×Int)) (ha:Eb a) (hv:v.length≤maxLen∧∀q∈v,ue q):
  ab Tryz.prog 25 [mQ a,bF 2 qA v] [] (.val (.bool true)) [] []:=by
 have kw:=eP
 have kf:=ln [a] (by simp) Q31
 cases hF:[a].all fun m=>decide (m.2.2.length≤40)
 ·rw[hF]at kf
  refine bT [2,27] Tryz.func25 ?_
  intro W0 w0 ρ0 hE
  conv=>whnf
  (repeat((first|refine ag rfl rfl ?_|refine ae rfl rfl ?_|refine aS (by assumption) ?_|refine ah dO ?_|refine ah Q5 ?_);conv=>whnf));exact Q4
 rw[hF]at kf
 by_cases hl:v.length>8
 ·have t1:decide ((v.length:Int)>8)=true:=decide_eq_true aa
  refine bT [2,27] Tryz.func25 ?_
  intro W0 w0 ρ0 hE
  conv=>whnf
  (repeat((first|refine ag rfl rfl ?_|refine aS (by assumption) ?_|refine ah dP ?_|refine ao t1 ?_|refine ah Q8 ?_|refine ah Q5 ?_);conv=>whnf));exact Q4
 have t1:decide ((v.length:Int)>8)=false:=decide_eq_false aa
 have km:=GM a ha
 have n6:=iY a.1
 have k6:=iY a.2.1
 generalize (a.1 % 7).toNat=r at*
 generalize (a.2.1 % 7).toNat=c at*
 have hX:=fB a.2.2 (r:=r) (c:=c) aa aa
 have sX:=eT ha.2.2.2 (r*c)
 generalize cM a.2.2 (r*c)=X at*
 have k1:=pY hX aa aa sX aI aI
 have k2:=eO hX aa aa sX aI aI
 have cnt:=yv r c X
 have lfr:=nW r c X
 have DZ:=fun i=>wA (r:=r) (c:=c) (a:=X) (i:=i)
 have Rb:=fun i=>FD (r:=r) (c:=c) (a:=X) (i:=i)
 have hVf:=fun i k=>Pf (r:=r) (c:=c) (a:=X) (i:=i) (k:=k)
 have D0:=fun i=>Me (i:=i) hX aa sX aI
 have ZD:=fun i=>pj (sp:=bV r c X) (c:=c) (i:=i)
 have hlp:((bV r c X).map cY).length=(bV r c X).length:=List.length_map _
 have IK:(bV r c X).length≤6:=by have:=ng r c (el X c);rw[←gq]at this;omega
 generalize RL r c X=RX at*
 generalize KL r c X=L at*
 generalize bV r c X=pv at*
 have kz:=Kj r aa
 refine fZ [2,27,100021] Tryz.func25 ?_
 intro w0 ρ0 hE
 conv=>whnf
 (repeat((first|refine ag rfl rfl ?_|refine aS (by assumption) ?_|refine ah dP ?_|refine ay t1 ?_|refine ah Q8 ?_|refine ah Q5 ?_|rw[t1]);conv=>whnf))
 refine ct (t:=11) (k:=2001) (s:=1) (blk:=fH []) rfl rfl rfl ?_
 refine aj hE (fun k=>k) [1,5,6,7,9,10,11,12] [5,2001] (fun m fr hp=>∃k n:Nat,m=c - k∧k≤c∧n=(aU pv k).length∧
  fr=[(1,bF 2 qA v),(5,.ptr 5 0 0 0),(6,bF 1 aN L),(7,iv 0),(9,cO .i64 (pv.map cY)),(10,iv 0),(11,.aO 2001 1 0 n),(12,iv k)]∧hp=[(5,⟨38,true,.one (mC r c X)⟩),(2001,fH ((aU pv k).map cY))]) c ?_ ?_ ?_
 ·kernel_rfl
 ·exact⟨0,0,rfl,Nat.zero_le _,rfl,rfl,rfl⟩
 rintro m _ _ ⟨k,n,rfl,hk,hn,rfl,rfl⟩
 conv=>whnf
 by_cases aE:k<c
 ·have t2:=dx aE
  have t9:=br (i:=k) aa
  clear k1 k2 kz kf km DZ Rb hVf D0 ZD
  (repeat(first|(refine ao t2 ?_;conv=>whnf)|(rw[t2];conv=>whnf)|(rw[Nat.zero_add];conv=>whnf)))
  refine aj hE (fun k=>k) [1,5,6,7,9,10,11,12,13,14] [5,2001] (fun M fr hp=>∃(u:Nat) (al:Bool),M=pv.length - u∧u≤pv.length∧al=decide (k∈pv.take u)∧
   fr=[(1,bF 2 qA v),(5,.ptr 5 0 0 0),(6,bF 1 aN L),(7,iv 0),(9,cO .i64 (pv.map cY)),(10,iv 0),(11,.aO 2001 1 0 n),(12,iv k),(13,.val (.bool al)),(14,iv u)]∧hp=[(5,⟨38,true,.one (mC r c X)⟩),(2001,fH ((aU pv k).map cY))]) pv.length ?_ ?_ ?_
  ·kernel_rfl
  ·exact⟨0,false,rfl,Nat.zero_le _,by simp,rfl,rfl⟩
  rintro M _ _ ⟨u,al,rfl,hu,gx,rfl,rfl⟩
  conv=>whnf
  by_cases qm:u<pv.length
  ·have t3:=dx (show u<(pv.map cY).length by omega)
   have t4:=br (i:=u) aa
   have g1:=uT qm
   have DN:=p0 (k:=k) qm
   cases al
   ·have DE:k∉pv.take u:=fun h=>by rw[decide_eq_true h]at gx;cases gx
    generalize pv.getD u 0=y at*
    by_cases hyk:y=k
    ·have t5:((y:Int)==(k:Int))=true:=by rw[hyk];exact beq_self_eq_true _
     (repeat((first|refine ag rfl rfl ?_|refine ah dP ?_|refine ao t3 ?_|refine ah Q8 ?_|refine ah Q5 ?_|refine ah jw ?_|rw[t3]|rw[g1]|rw[t5]|rw[t4]);conv=>whnf))
     exact⟨pv.length - (u+1),fun k=>k,[1,5,6,7,9,10,11,12,13,14],[5,2001],aa,av,u+1,true,rfl,qm,(decide_eq_true (DN.2 (.inr hyk))).symm,rfl,rfl⟩
    ·have t5:((y:Int)==(k:Int))=false:=beq_eq_false_iff_ne.2 aa
     (repeat((first|refine ag rfl rfl ?_|refine ah dP ?_|refine ao t3 ?_|refine ah Q8 ?_|refine ah Q5 ?_|refine ah jw ?_|rw[t3]|rw[g1]|rw[t5]|rw[t4]);conv=>whnf))
     exact⟨pv.length - (u+1),fun k=>k,[1,5,6,7,9,10,11,12,13,14],[5,2001],aa,av,u+1,false,rfl,qm,(decide_eq_false fun h=>(DN.1 h).elim DE hyk).symm,rfl,rfl⟩
   ·have FJ:k∈pv.take u:=of_decide_eq_true gx.symm
    (repeat((first|refine ae rfl rfl ?_|refine ah dO ?_|refine ao t3 ?_|refine ah Q8 ?_|rw[t3]|rw[t4]);conv=>whnf))
    exact⟨pv.length - (u+1),fun k=>k,[1,5,6,7,9,10,11,12,13,14],[5,2001],aa,av,u+1,true,rfl,qm,(decide_eq_true (DN.2 (.inl FJ))).symm,rfl,rfl⟩
  ·have t3:=dA (show ¬u<(pv.map cY).length by omega)
   rw[List.take_of_length_le aa]at gx
   have lfm:((aU pv k).map cY).length=n:=by rw[List.length_map];exact hn.symm
   have ZS:=pW pv k
   by_cases hkp:k∈pv
   ·rw[decide_eq_true hkp]at gx
    subst gx
    have e1:=Ik hkp
    have e2:n=(aU pv (k+1)).length:=by rw[dr,if_pos hkp,List.append_nil];exact hn
    (repeat((first|refine ae rfl rfl ?_|refine ay t3 ?_|refine ah Q8 ?_|rw[t3]|rw[t9]);conv=>whnf))
    exact⟨c - (k+1),fun k=>k,[1,5,6,7,9,10,11,12],[5,2001],aa,av,k+1,n,rfl,aE,e2,rfl,by rw[e1];rfl⟩
   ·rw[decide_eq_false hkp]at gx
    subst gx
    have e7:=nV (l:=(aU pv k).map cY) (x:=(k:Int))
    rw[lfm,←Ij hkp]at e7
    have e2:n+1=(aU pv (k+1)).length:=by rw[dr,if_neg hkp,List.length_append,←hn];rfl
    (repeat((first|refine ag rfl rfl ?_|refine aC Q3 ?_|refine ay t3 ?_|refine ah Q8 ?_|rw[t3]|rw[t9]);conv=>whnf))
    refine⟨c - (k+1),cE [(75,2001)],[1,5,6,7,9,10,11,12],[5,75],aa,av,k+1,n+1,rfl,aE,e2,rfl, ?_⟩
    rw[e7];rfl
 ·have t2:=dA aE
  obtain rfl:k=c:=aa
  have Kc:n=L.length:=by rw[lfr];exact hn
  have t3:((L.length:Int) != (n:Int))=false:=by rw[Kc];exact bne_self_eq_false _
  have lfm:((aU pv k).map cY).length=n:=by rw[List.length_map];exact hn.symm
  have hlL:L.length≤6:=aa
  clear k1 k2 kf km
  (repeat((first|refine ag rfl rfl ?_|refine aC Q3 ?_|refine aS (by assumption) ?_|refine ah dP ?_|rw[bne_self_eq_false]|refine ay t2 ?_|refine ay t3 ?_|refine ah Q8 ?_|rw[t2]|rw[t3]|rw[Int.toNat_natCast]|rw[Nat.zero_add]);conv=>whnf))
  refine fv 17 97 (fun _ h=>h) rfl rfl (show k=(List.replicate k (0:Rat)).length by simp) ?_
  refine bA hE ?_
  conv=>whnf
  skip
  refine aj hE (fun k=>k) [1,5,6,11,15,17,18] [5,2001] (fun M fr hp=>∃(i:Nat) (S:List Rat),M=L.length - i∧i≤L.length∧S.length=k∧mf r k (el X k) (fun q=>S.getD q 0)∧Sm (2+i*600000) S∧
   fr=[(1,bF 2 qA v),(5,.ptr 5 0 0 0),(6,bF 1 aN L),(11,.aO 2001 1 0 n),(15,aN (List.replicate r 0)),(17,aN S),(18,iv i)]∧hp=[(5,⟨38,true,.one (mC r k X)⟩),(2001,fH ((aU pv k).map cY))]) L.length ?_ ?_ ?_
  ·kernel_rfl
  ·exact⟨0,List.replicate k 0,rfl,Nat.zero_le _,by simp,(B1 fun q hq=>De hq).2 Pc,si _,rfl,rfl⟩
  clear kz
  rintro M _ _ ⟨i,S,rfl,hi,lS,kS,sS,rfl,rfl⟩
  conv=>whnf
  by_cases lJ:i<L.length
  ·have t4:=dx lJ
   have t5:=br (i:=i) aa
   have lV:=DZ i lJ
   have kV:=Rb i lJ
   have sV:=D0 i lJ
   have hf:=fun q (hq:q<n)=>hVf i q lJ aa
   have t6:(((L.getD i []).length:Int) != (k:Int))=false:=by rw[lV];exact bne_self_eq_false _
   have hLi:i<L.length:=lJ
   have ox:=nL 6 hX lV sX sV k6 aI
   rw[qW kV]at ox
   have oz:=mm (a:=List.replicate r (0:Rat)) (n:=r) (by simp) (by simp) aa rfl
   have t10:(!decide (i<v.length))=(!decide (i<v.length)):=rfl
   clear t10 DZ Rb hVf D0
   (repeat((first|refine aq av ?_|refine ao t4 ?_|refine ay t6 ?_|refine ah Q8 ?_|refine ah Q5 ?_|refine ah mP ?_|rw[t4]|rw[t6]|rw[Nat.zero_add]);conv=>whnf))
   generalize hV:L.getD i []=V at*
   refine aj hE (fun k=>k) [1,5,6,11,15,17,18,19] [5,2001] (fun M fr hp=>∃q:Nat,M=n - q∧q≤n∧
    fr=[(1,bF 2 qA v),(5,.ptr 5 0 0 0),(6,bF 1 aN L),(11,.aO 2001 1 0 n),(15,aN (List.replicate r 0)),(17,aN S),(18,iv i),(19,iv q)]∧hp=[(5,⟨38,true,.one (mC r k X)⟩),(2001,fH ((aU pv k).map cY))]) n ?_ ?_ ?_
   ·kernel_rfl
   ·exact⟨0,rfl,Nat.zero_le _,rfl,rfl⟩
   rintro M _ _ ⟨q,rfl,hq,rfl,rfl⟩
   conv=>whnf
   by_cases hqn:q<n
   ·have t7:=dx hqn
    have t8:=br (i:=q) aa
    have NO:q<((aU pv k).map cY).length:=aa
    have g1:=uT (sp:=aU pv k) (u:=q) aa
    have g2:=(ZD q aa).1
    have g3:=hf q hqn
    have ki:ab Tryz.prog 18 [iv 1] [] (.frac 1) [] []:=dI 1 aI aI
    clear ox oz hf ZD kV sV kS sS
    generalize (aU pv k).map cY=FI at*
    generalize (aU pv k).getD q 0=y at*
    by_cases e:q=i
    ·have t9:((q:Int)==(i:Int))=true:=by rw[e];exact beq_self_eq_true _
     rw[if_pos e]at g3
     (repeat((first|refine ae rfl rfl ?_|refine aq av ?_|refine bg Q3 ?_|refine aC Q3 ?_|refine aS (by assumption) ?_|refine ao t7 ?_|refine ao t9 ?_|refine ah Q5 ?_|refine ah IG ?_|refine ah mP ?_|refine⟨_,cn aJ cy rfl (ak rfl) (ak rfl) rfl rfl rfl rfl (kX (g3)) cf, ?_⟩|rw[t7]|rw[t9]|rw[g1]|rw[hV]|rw[t8]|rw[Int.toNat_natCast]|rw[Nat.zero_add]);conv=>whnf))
     exact⟨n - (q+1),fun k=>k,[1,5,6,11,15,17,18,19],[5,2001],aa,av,q+1,rfl,hqn,rfl,rfl⟩
    ·have t9:((q:Int)==(i:Int))=false:=beq_eq_false_iff_ne.2 aa
     rw[if_neg e]at g3
     (repeat((first|refine ae rfl rfl ?_|refine aq av ?_|refine bg Q3 ?_|refine aC Q3 ?_|refine ao t7 ?_|refine ay t9 ?_|refine ah Q5 ?_|refine ah IG ?_|refine ah mP ?_|refine⟨_,cn aJ cy rfl (ak rfl) (ak rfl) rfl rfl rfl rfl (kX (g3)) cf, ?_⟩|rw[t7]|rw[t9]|rw[g1]|rw[hV]|rw[t8]|rw[Int.toNat_natCast]|rw[Nat.zero_add]);conv=>whnf))
     exact⟨n - (q+1),fun k=>k,[1,5,6,11,15,17,18,19],[5,2001],aa,av,q+1,rfl,hqn,rfl,rfl⟩
   ·have t7:=dA hqn
    have ki:=dI (i:Int) aa aa
    have fi:=DX i aa
    have rz:130+532480+(2+i*600000)≤1073741824:=aa
    by_cases hiv:i<v.length
    ·have t8:=dx hiv
     have kq:=zV (v.getD i (0,0)) (kO hv.2 i)
     have fq:=Dc (kO hv.2 i)
     generalize qV (v.getD i (0,0))=w at*
     have kx:=uA w V S (lV.trans lS.symm) aa (np lV lS fq sV sS rz)
     have n1:=lA (t:=w) lV lS
     have n2:=DY (t:=w) lV lS kV kS
     have n3:=pZ lV lS fq sV sS
     clear hf ZD kV kS sV sS
     (repeat((first|refine ag rfl rfl ?_|refine ae rfl rfl ?_|refine aq av ?_|refine aS (by assumption) ?_|refine ah dP ?_|rw[bne_self_eq_false]|refine ay t7 ?_|refine ao t8 ?_|refine ah Q8 ?_|refine ah Q5 ?_|refine ah X8 ?_|refine ah mP ?_|rw[t7]|rw[t8]|rw[hV]|rw[t5]);conv=>whnf))
     exact⟨L.length - (i+1),fun k=>k,[1,5,6,11,15,17,18],[5,2001],aa,av,i+1,_,rfl,lJ,n1,n2,n8 Qp n3,rfl,rfl⟩
    ·have t8:=dA hiv
     have kx:=uA ((i:Int):Rat) V S (lV.trans lS.symm) aa (np lV lS fi sV sS rz)
     have n1:=lA (t:=((i:Int):Rat)) lV lS
     have n2:=DY (t:=((i:Int):Rat)) lV lS kV kS
     have n3:=pZ lV lS fi sV sS
     clear hf ZD kV kS sV sS
     (repeat((first|refine ag rfl rfl ?_|refine ae rfl rfl ?_|refine aq av ?_|refine aS (by assumption) ?_|refine ah dP ?_|rw[bne_self_eq_false]|refine ay t7 ?_|refine ay t8 ?_|refine ah Q8 ?_|refine ah Q5 ?_|refine ah mP ?_|rw[t7]|rw[t8]|rw[hV]|rw[t5]);conv=>whnf))
     exact⟨L.length - (i+1),fun k=>k,[1,5,6,11,15,17,18],[5,2001],aa,av,i+1,_,rfl,lJ,n1,n2,n8 Qp n3,rfl,rfl⟩
  ·have t4:=dA lJ
   have ox:=nL 6 hX lS sX sS k6 aa
   rw[qW kS]at ox
   have oz:=mm (a:=List.replicate r (0:Rat)) (n:=r) (by simp) (by simp) aa rfl
   have t5:((S.length:Int)==(k:Int))=true:=by rw[lS];exact beq_self_eq_true _
   clear DZ Rb hVf D0 ZD kS sS
   (repeat((first|refine ag rfl rfl ?_|refine aS (by assumption) ?_|refine ah dO ?_|rw[beq_self_eq_true]|refine ay t4 ?_|refine ao t5 ?_|refine ah Q8 ?_|rw[t4]|rw[t5]);conv=>whnf));exact Q4
theorem vJ (a0:MM) (a1:List (Int×Int)) (w0:GL a0) (w1:Kq a1):
  ab Tryz.prog 25 [mQ a0,bF 2 qA a1] [] (.val (.bool true)) [] []:=Il a0 a1 (mo w0) ⟨w1.1,qH w1⟩
end Go.Proofs.YtfpagioknjjacaaGreatDoor
