/- The texts Bd. -/
import Derived.Test.YtfpagioknjjacaaGreatDoorQMElimsKnown23
namespace Go.Proofs.YtfpagioknjjacaaGreatDoor
open Go.Sx
set_option linter.unusedSimpArgs false
set_option linter.unusedVariables false
set_option maxRecDepth 100000
set_option maxHeartbeats 40000000
theorem Pk {r c n A:Nat} {a:List Rat} (ha:dV r c a) (sa:Sm A a) (ZW:n≤r) (hnc:n≤c):dV n n (oa c a (iB n) (iB n))∧Sm A (oa c a (iB n) (iB n))∧bL n (el (oa c a (iB n) (iB n)) n)=bL n (el a c):=by
 have lu:=mg n
 have hrr:=ha.r
 have Ck:∀i k,i<n→k<n→el (oa c a (iB n) (iB n)) n i k=el a c i k:=fun i k hi hk=>by
  have e:=ec (r:=(iB n).length) (c:=(iB n).length) (f:=fun i k=>el a c ((iB n).getD i 0).toNat ((iB n).getD k 0).toNat) (i:=i) (k:=k) aa aa
  rw[BZ hi,BZ hk]at e
  rw[lu]at e
  show el (mk (iB n).length (iB n).length _) n i k=_
  rw[lu]
  simpa using e
 have hl:(oa c a (iB n) (iB n)).length=n*n:=by rw[dJ,lu]
 refine⟨⟨aa,aa,hl⟩, ?_,aW Ck⟩
 intro p hp
 rw[hl]at hp
 obtain⟨d1,d2,d3⟩:=iQ hp
 have:=Ck _ _ d1 d2
 unfold el at this
 rw[d3]at this
 rw[this]
 exact eS sa ha.n aa aa
theorem Mn {n p q t B:Nat} {a:List Rat} (ha:dV n n a) (sa:Sm B a) (hq:q<n):Sm B (lj n a p q t):=zX fun i k hi hk=>by
 split
 ·exact eS sa ha.n hq hk
 ·exact eS sa ha.n hi hk
theorem D4 {n p q t:Nat} {a:List Rat} (hq:q<n) (ht:t<n) (h:p≠q):(lj n a p q t).getD (q*n+t) 0=el a n q t:=by
 have:=ec (r:=n) (c:=n) (f:=fun i k=>if i=p∧k<t then el a n q k else el a n i k) hq ht
 rw[if_neg fun g=>h g.1.symm]at this
 exact this
theorem Zh (a b:MM) (n i0 k0:Int) (c:Int×Int) (ha:Eb a) (hb:Eb b) (hn:0≤n∧n<256) (hi0:0≤i0∧i0<256) (hk0:0≤k0∧k0<256) (hc:ue c):
  ab Tryz.prog 28 [mQ a,mQ b,jv .u8 n,jv .u8 i0,jv .u8 k0,qA c] [] (.val (.bool true)) [] []:=by
 have kw:=eP
 have kf:=ln [a,b] (by simp) Q35
 cases hF:[a,b].all fun m=>decide (m.2.2.length≤40)
 ·rw[hF]at kf
  refine fZ [6,7,11,59,100035,100043] Tryz.func28 ?_
  intro w0 ρ0 hE
  conv=>whnf
  (repeat(first|(refine ag rfl rfl ?_;conv=>whnf)|(refine aS (by assumption) ?_;conv=>whnf)|(refine ah Q5 ?_;conv=>whnf)));exact Q4
 rw[hF]at kf
 obtain⟨e1,e2⟩:=jB n hn 6 aI
 have r5:(n % 6).toNat≤5:=aa
 generalize (n % 6).toNat=r at*
 have x1:=oT a ha (r:=r) (c:=r) aa aa
 have y1:=oT b hb (r:=r) (c:=r) aa aa
 have hx:=fB a.2.2 (r:=r) (c:=r) aa aa
 have hy:=fB b.2.2 (r:=r) (c:=r) aa aa
 have sx:=eT ha.2.2.2 (r*r)
 have sy:=eT hb.2.2.2 (r*r)
 generalize cM a.2.2 (r*r)=x at*
 generalize cM b.2.2 (r*r)=y at*
 have kD:=iA hx aa sx aI aI
 have kE:=iA hy aa sy aI aI
 have d1:=yE hx aa sx aI
 have d2:=yE hy aa sy aI
 have o2:=z6 5 hx hy sx sy r5 aI
 have EP:=v8 hx hy
 have MS:Sm 1302 (fA r r r x y):=E7 hx.n hy.n sx sy r5
 have kP:=iA EP aa MS aI aI
 rw[yu]at kP
 have o3:=xO hx
 have kT:=iA (oW hx) aa (v7 hx.n sx) aI aI
 rw[Ax]at kT
 have ki:ab Tryz.prog 18 [iv 1] [] (.frac 1) [] []:=dI 1 aI aI
 rcases Nat.eq_zero_or_pos r with h0|h0
 ·subst h0
  have f0:=vj (bL 0 (el x 0)) (bL 0 (el y 0)) aa
  have g0:∀A:Mx,bL 0 A=1:=fun _=>rfl
  rw[g0]at kD kE kT
  rw[g0,g0,Rat.mul_one]at kP f0
  clear g0
  refine fZ [6,7,11,59,100035,100043] Tryz.func28 ?_
  intro w0 ρ0 hE
  conv=>whnf
  (repeat((first|refine ag rfl rfl ?_|refine ae rfl rfl ?_|refine aq av ?_|refine bX Q3 ?_|refine aS (by assumption) ?_|refine ah dO ?_|refine ah dP ?_|rw[bne_self_eq_false]|refine ah Q5 ?_|refine⟨_,fh aJ cy rfl (ak rfl) (ak rfl) rfl rfl rfl rfl (kX (rfl)) cf, ?_⟩|refine⟨_,cn aJ cy rfl (ak rfl) (ak rfl) rfl rfl rfl rfl (kX (rfl)) cf, ?_⟩|rw[e2]);conv=>whnf));exact Q4
 obtain⟨p,hp,p1,p2,p3⟩:=Ca hi0 h0 aa
 obtain⟨q,hq,q1,q2,q3⟩:=Ca hk0 h0 aa
 have f0:=vj (bL r (el x r)) (bL r (el y r)) aa
 have ZE:=uU (x:=0) hx sx hp hq aa aa (by rw[fO];decide)
 have Pm:=iA (B8 (i:=p) (k:=q) (x:=0) hx) aa (B9 (x:=0) hx sx (Nat.le_of_eq fO) hp hq) aI aI
 rw[DT hp hq,if_pos rfl]at Pm
 have kQ:=zV c hc
 have fw:=Dc hc
 generalize qV c=w at*
 have ZF:=uU (x:=w) hx sx hp hq aa aa aa
 have Mo:=iA (B8 (i:=p) (k:=q) (x:=w) hx) aa (B9 (x:=w) hx sx fw hp hq) aI aI
 rw[DT hp hq]at Mo
 have kN:=Bh (bL r (el x r))
 have kM:=vj w (bL r (el x r)) aa
 have kS:=fM w
 obtain⟨a1,a2,a3⟩:=Pk hx sx (Nat.le_of_lt hp) (Nat.le_of_lt hp)
 have hu:∀z∈iB p,0≤z∧z<(r:Int):=by intro z hz;simp only[iB,List.mem_map,List.mem_range]at hz;obtain⟨i,hi,rfl⟩:=hz;omega
 have lu:=mg p
 have o4:=KA hx (iB p) (iB p) aa aa hu hu
 rw[lu]at o4
 have kL:=iA a1 aa a2 aI aI
 rw[a3]at kL
 have m1:=s9 (n:=p) hx aa aa aa sx aI aI
 have m2:=s9 (n:=r) hx aa (Nat.le_refl _) (Nat.le_refl _) sx aI aI
 have m3:=DV hx ((r+1:Nat):Int) aa
 have m4:=DV hx (-1) aa
 have m5:=s9 (n:=0) hx aa aa aa sx aI aI
 replace m5:ab Tryz.prog 131 [mA r r x,iv 0] [] (.ck [.frac 1,iv 0]) [] []:=m5
 have w3:=br (i:=r) aa
 have gx:=hx.n
 have hrr:r*r≤6*6:=Nat.mul_le_mul aa aa
 have c0:((r:Int)==0)=false:=beq_eq_false_iff_ne.2 aa
 have sTw:=fun t=>Mn (p:=p) (q:=q) (t:=t) hx sx hq
 have acF:=fun h:p≠q=>Ig (a:=x) hp hq h
 have okr:=hx.r
 clear hy sy MS EP d1 d2 a1 a2 a3 hu sx hx
 generalize oa r x (iB p) (iB p)=PM at*
 generalize fA r r r x y=XY at*
 generalize iG r r x=TX at*
 generalize bL p (el x r)=DP at*
 generalize bL r (el x r)=D at*
 generalize bL r (el y r)=E at*
 by_cases hpq:p=q
 ·subst hpq
  have c1:((p:Int)==(p:Int))=true:=beq_self_eq_true _
  have c2:((p:Int) != (p:Int))=false:=bne_self_eq_false _
  rw[if_pos rfl]at Pm
  by_cases hw:w=0
  ·subst hw
   have c3:((0:Rat).num.sign==0)=true:=rfl
   rw[if_pos rfl,if_pos rfl]at Mo
   refine fZ [6,7,11,59,100035,100043] Tryz.func28 ?_
   intro w0 ρ0 hE
   conv=>whnf
   (repeat((first|refine ag rfl rfl ?_|refine ae rfl rfl ?_|refine aq av ?_|refine bX Q3 ?_|refine aS (by assumption) ?_|refine ah dP ?_|rw[beq_self_eq_true]|rw[bne_self_eq_false]|refine ay c0 ?_|refine ah Q5 ?_|refine⟨_,cn aJ cy rfl (ak rfl) (ak rfl) rfl rfl rfl rfl (kX (rfl)) cf, ?_⟩|rw[e2]|rw[c0]|rw[p1]|rw[p2]|rw[q1]|rw[q2]|rw[c3]);conv=>whnf))
   refine ct (t:=41) (k:=2002) (s:=1) (blk:=fH []) rfl rfl rfl ?_
   refine aj hE (fun k=>k) [13,14,16,28,41,42] [14,16,2002] (fun m fr hp=>∃i:Nat,m=p - i∧i≤p∧fr=[(13,iv r),(14,.ptr 14 0 0 0),(16,.ptr 16 0 0 0),(28,iv p),(41,.aO 2002 1 0 i),(42,iv i)]∧
    hp=[(14,⟨38,true,.one (mC r r x)⟩),(16,⟨52,true,.one [.frac D]⟩),(2002,fH (iB i))]) p ?_ ?_ ?_
   ·kernel_rfl
   ·exact⟨0,rfl,Nat.zero_le _,rfl,rfl⟩
   rintro m _ _ ⟨i,rfl,hi,rfl,rfl⟩
   conv=>whnf
   by_cases aE:i<p
   ·have lq:=mg i
    have s4:=dx aE
    have s5:=br (i:=i) aa
    have e7:=nV (l:=iB i) (x:=(i:Int))
    rw[lq,←pe]at e7
    clear kw kf x1 y1 kD kE o2 kP o3 kT ZE ZF Pm Mo m1 m2 m3 m4 m5 o4 kL
    (repeat((first|refine aC Q3 ?_|refine ao s4 ?_|rw[s4]|rw[s5]);conv=>whnf))
    refine⟨p - (i+1),cE [(236,2002)],[13,14,16,28,41,42],[14,16,236],aa,av,i+1,rfl,aE,rfl, ?_⟩
    rw[e7];rfl
   ·have s4:=dA aE
    obtain rfl:i=p:=aa
    (repeat(first|(refine ay s4 ?_;conv=>whnf)|(rw[s4];conv=>whnf)))
    refine gT 41 2002 (fun _ h=>h) rfl rfl lu.symm ?_
    refine bA hE ?_
    conv=>whnf
    (repeat((first|refine ag rfl rfl ?_|refine aq av ?_|refine aS (by assumption) ?_|refine ah dO ?_|rw[beq_self_eq_true]|refine⟨_,fh aJ cy rfl (ak rfl) (ak rfl) rfl rfl rfl rfl (kX (rfl)) cf, ?_⟩|rw[w3]);conv=>whnf));exact Q4
  ·have c3:(w.num.sign==0)=false:=beq_eq_false_iff_ne.2 fun g=>hw (Rat.num_eq_zero.1 (Int.sign_eq_zero_iff_zero.1 g))
   rw[if_neg hw,if_pos rfl]at Mo
   refine fZ [6,7,11,59,100035,100043] Tryz.func28 ?_
   intro w0 ρ0 hE
   conv=>whnf
   (repeat((first|refine ag rfl rfl ?_|refine ae rfl rfl ?_|refine aq av ?_|refine bX Q3 ?_|refine aS (by assumption) ?_|refine ah dP ?_|rw[beq_self_eq_true]|rw[bne_self_eq_false]|refine ay c0 ?_|refine ay c3 ?_|refine ah Q5 ?_|refine⟨_,cn aJ cy rfl (ak rfl) (ak rfl) rfl rfl rfl rfl (kX (rfl)) cf, ?_⟩|rw[e2]|rw[c0]|rw[p1]|rw[p2]|rw[q1]|rw[q2]|rw[c3]);conv=>whnf))
   refine ct (t:=41) (k:=2002) (s:=1) (blk:=fH []) rfl rfl rfl ?_
   refine aj hE (fun k=>k) [13,14,16,28,41,42] [14,16,2002] (fun m fr hp=>∃i:Nat,m=p - i∧i≤p∧fr=[(13,iv r),(14,.ptr 14 0 0 0),(16,.ptr 16 0 0 0),(28,iv p),(41,.aO 2002 1 0 i),(42,iv i)]∧
    hp=[(14,⟨38,true,.one (mC r r x)⟩),(16,⟨52,true,.one [.frac D]⟩),(2002,fH (iB i))]) p ?_ ?_ ?_
   ·kernel_rfl
   ·exact⟨0,rfl,Nat.zero_le _,rfl,rfl⟩
   rintro m _ _ ⟨i,rfl,hi,rfl,rfl⟩
   conv=>whnf
   by_cases aE:i<p
   ·have lq:=mg i
    have s4:=dx aE
    have s5:=br (i:=i) aa
    have e7:=nV (l:=iB i) (x:=(i:Int))
    rw[lq,←pe]at e7
    clear kw kf x1 y1 kD kE o2 kP o3 kT ZE ZF Pm Mo m1 m2 m3 m4 m5 o4 kL
    (repeat((first|refine aC Q3 ?_|refine ao s4 ?_|rw[s4]|rw[s5]);conv=>whnf))
    refine⟨p - (i+1),cE [(236,2002)],[13,14,16,28,41,42],[14,16,236],aa,av,i+1,rfl,aE,rfl, ?_⟩
    rw[e7];rfl
   ·have s4:=dA aE
    obtain rfl:i=p:=aa
    (repeat(first|(refine ay s4 ?_;conv=>whnf)|(rw[s4];conv=>whnf)))
    refine gT 41 2002 (fun _ h=>h) rfl rfl lu.symm ?_
    refine bA hE ?_
    conv=>whnf
    (repeat((first|refine ag rfl rfl ?_|refine aq av ?_|refine aS (by assumption) ?_|refine ah dO ?_|rw[beq_self_eq_true]|refine⟨_,fh aJ cy rfl (ak rfl) (ak rfl) rfl rfl rfl rfl (kX (rfl)) cf, ?_⟩|rw[w3]);conv=>whnf));exact Q4
 ·have c1:((p:Int)==(q:Int))=false:=beq_eq_false_iff_ne.2 aa
  have c2:((p:Int) != (q:Int))=true:=bne_iff_ne.2 aa
  have kTw:=iA (a:=lj r x p q r) ⟨okr,okr,dJ ..⟩ aa (sTw r) aI aI
  rw[acF hpq]at kTw
  clear acF sTw
  rw[if_neg hpq]at Pm
  by_cases hw:w=0
  ·subst hw
   have c3:((0:Rat).num.sign==0)=true:=rfl
   rw[if_pos rfl,if_neg hpq]at Mo
   refine fZ [6,7,11,59,100035,100043] Tryz.func28 ?_
   intro w0 ρ0 hE
   conv=>whnf
   (repeat(first|(refine ag rfl rfl ?_;conv=>whnf)|(refine ae rfl rfl ?_;conv=>whnf)|(refine aq av ?_;conv=>whnf)|(refine bX Q3 ?_;conv=>whnf)|(refine aS (by assumption) ?_;conv=>whnf)|(refine ah dP ?_;conv=>whnf)|(rw[bne_self_eq_false];conv=>whnf)|(refine ay c0 ?_;conv=>whnf)|(refine ay c1 ?_;conv=>whnf)|(refine ao c2 ?_;conv=>whnf)|(refine ah Q5 ?_;conv=>whnf)|(refine⟨_,cn aJ cy rfl (ak rfl) (ak rfl) rfl rfl rfl rfl (kX (rfl)) cf, ?_⟩;conv=>whnf)|(refine⟨.aO 196 5 0 (r*r),[(193,cP [])],[(196,cP x)],[(193,⟨52,true,.dead⟩)],qY rfl rfl rfl (ak rfl) (ak rfl) (fG x) (aJ.get (t:=36) rfl) rfl (aJ.get (t:=36) rfl) rfl (aJ.get (t:=52) rfl) (List.mem_cons_self ..) rfl rfl (by simp[gx]) (by simp[en,gx]) (by simp[oC];exact List.take_of_length_le (Nat.le_of_eq gx)) (by show(0+_)*EF.bytes≤_;simp only[CX];omega) aa,dh rfl,c5 rfl,dd (List.mem_cons_self ..) rfl rfl rfl, ?_⟩;conv=>whnf)|(rw[e2];conv=>whnf)|(rw[c0];conv=>whnf)|(rw[p1];conv=>whnf)|(rw[p2];conv=>whnf)|(rw[q1];conv=>whnf)|(rw[q2];conv=>whnf)|(rw[c1];conv=>whnf)|(rw[c2];conv=>whnf)|(rw[c3];conv=>whnf)|(rw[Nat.zero_add];conv=>whnf)))
   refine aj hE (fun k=>k) [13,14,16,28,29,37,38] [14,16,37,196] (fun m fr hp=>∃t:Nat,m=r - t∧t≤r∧fr=[(13,iv r),(14,.ptr 14 0 0 0),(16,.ptr 16 0 0 0),(28,iv p),(29,iv q),(37,.ptr 37 0 0 0),(38,iv t)]∧
    hp=[(14,⟨38,true,.one (mC r r x)⟩),(16,⟨52,true,.one [.frac D]⟩),(37,⟨38,true,.one [iv r,iv r,.aO 196 5 0 (r*r)]⟩),(196,cP (lj r x p q t))]) r ?_ ?_ ?_
   ·kernel_rfl
   ·exact⟨0,rfl,Nat.zero_le _,rfl,by rw[yA gx];rfl⟩
   rintro m _ _ ⟨t,rfl,ht,rfl,rfl⟩
   have hL:(lj r x p q t).length=r*r:=dJ ..
   conv=>whnf
   by_cases htr:t<r
   ·have s1:=dx htr
    have s2:=br (i:=t) aa
    obtain⟨v1,v2⟩:=kK (i:=p) (k:=t) (c:=r) aa aa aa
    obtain⟨v3,v4⟩:=kK (i:=q) (k:=t) (c:=r) aa aa aa
    have b1:=gF hp htr
    have b2:=gF hq htr
    have e7:=yB (a:=x) (q:=q) hp htr
    rw[←D4 (p:=p) (a:=x) hq htr hpq]at e7
    clear kw kf x1 y1 kD kE o2 kP o3 kT ZE ZF Pm Mo m1 m2 m3 m4 m5 o4 kL kTw
    generalize lj r x p q t=L at*
    (repeat((first|refine aq av ?_|refine bg Q3 ?_|refine aC Q3 ?_|refine ao s1 ?_|rw[s1]|rw[s2]|rw[v1]|rw[v2]|rw[v3]|rw[v4]|rw[Int.toNat_natCast]|rw[Nat.zero_add]);conv=>whnf))
    exact⟨r - (t+1),fun k=>k,[13,14,16,28,29,37,38],[14,16,37,196],aa,av,t+1,rfl,htr,rfl,by rw[←e7];rfl⟩
   have s1:=dA htr
   obtain rfl:r=t:=aa
   (repeat(first|(refine ay s1 ?_;conv=>whnf)|(rw[s1];conv=>whnf)))
   refine uc 37 2 196 (fun _ h=>h) rfl aI rfl rfl hL.symm ?_
   refine bA hE ?_
   conv=>whnf
   (repeat(first|(refine ae rfl rfl ?_;conv=>whnf)|(refine aS (by assumption) ?_;conv=>whnf)|(refine⟨_,cn aJ cy rfl (ak rfl) (ak rfl) rfl rfl rfl rfl (kX (rfl)) cf, ?_⟩;conv=>whnf)))
   refine ct (t:=41) (k:=2002) (s:=1) (blk:=fH []) rfl rfl rfl ?_
   refine aj hE (fun k=>k) [13,14,16,28,41,42] [14,16,2002] (fun m fr hp=>∃i:Nat,m=p - i∧i≤p∧fr=[(13,iv r),(14,.ptr 14 0 0 0),(16,.ptr 16 0 0 0),(28,iv p),(41,.aO 2002 1 0 i),(42,iv i)]∧
    hp=[(14,⟨38,true,.one (mC r r x)⟩),(16,⟨52,true,.one [.frac D]⟩),(2002,fH (iB i))]) p ?_ ?_ ?_
   ·kernel_rfl
   ·exact⟨0,rfl,Nat.zero_le _,rfl,rfl⟩
   rintro m _ _ ⟨i,rfl,hi,rfl,rfl⟩
   conv=>whnf
   by_cases aE:i<p
   ·have lq:=mg i
    have s4:=dx aE
    have s5:=br (i:=i) aa
    have e7:=nV (l:=iB i) (x:=(i:Int))
    rw[lq,←pe]at e7
    clear kw kf x1 y1 kD kE o2 kP o3 kT ZE ZF Pm Mo m1 m2 m3 m4 m5 o4 kL
    (repeat((first|refine aC Q3 ?_|refine ao s4 ?_|rw[s4]|rw[s5]);conv=>whnf))
    refine⟨p - (i+1),cE [(236,2002)],[13,14,16,28,41,42],[14,16,236],aa,av,i+1,rfl,aE,rfl, ?_⟩
    rw[e7];rfl
   ·have s4:=dA aE
    obtain rfl:i=p:=aa
    (repeat(first|(refine ay s4 ?_;conv=>whnf)|(rw[s4];conv=>whnf)))
    refine gT 41 2002 (fun _ h=>h) rfl rfl lu.symm ?_
    refine bA hE ?_
    conv=>whnf
    (repeat((first|refine ag rfl rfl ?_|refine aq av ?_|refine aS (by assumption) ?_|refine ah dO ?_|rw[beq_self_eq_true]|refine⟨_,fh aJ cy rfl (ak rfl) (ak rfl) rfl rfl rfl rfl (kX (rfl)) cf, ?_⟩|rw[w3]);conv=>whnf));exact Q4
  ·have c3:(w.num.sign==0)=false:=beq_eq_false_iff_ne.2 fun g=>hw (Rat.num_eq_zero.1 (Int.sign_eq_zero_iff_zero.1 g))
   rw[if_neg hw,if_neg hpq]at Mo
   refine fZ [6,7,11,59,100035,100043] Tryz.func28 ?_
   intro w0 ρ0 hE
   conv=>whnf
   (repeat(first|(refine ag rfl rfl ?_;conv=>whnf)|(refine ae rfl rfl ?_;conv=>whnf)|(refine aq av ?_;conv=>whnf)|(refine bX Q3 ?_;conv=>whnf)|(refine aS (by assumption) ?_;conv=>whnf)|(refine ah dP ?_;conv=>whnf)|(rw[bne_self_eq_false];conv=>whnf)|(refine ay c0 ?_;conv=>whnf)|(refine ay c1 ?_;conv=>whnf)|(refine ao c2 ?_;conv=>whnf)|(refine ay c3 ?_;conv=>whnf)|(refine ah Q5 ?_;conv=>whnf)|(refine⟨_,cn aJ cy rfl (ak rfl) (ak rfl) rfl rfl rfl rfl (kX (rfl)) cf, ?_⟩;conv=>whnf)|(refine⟨.aO 196 5 0 (r*r),[(193,cP [])],[(196,cP x)],[(193,⟨52,true,.dead⟩)],qY rfl rfl rfl (ak rfl) (ak rfl) (fG x) (aJ.get (t:=36) rfl) rfl (aJ.get (t:=36) rfl) rfl (aJ.get (t:=52) rfl) (List.mem_cons_self ..) rfl rfl (by simp[gx]) (by simp[en,gx]) (by simp[oC];exact List.take_of_length_le (Nat.le_of_eq gx)) (by show(0+_)*EF.bytes≤_;simp only[CX];omega) aa,dh rfl,c5 rfl,dd (List.mem_cons_self ..) rfl rfl rfl, ?_⟩;conv=>whnf)|(rw[e2];conv=>whnf)|(rw[c0];conv=>whnf)|(rw[p1];conv=>whnf)|(rw[p2];conv=>whnf)|(rw[q1];conv=>whnf)|(rw[q2];conv=>whnf)|(rw[c1];conv=>whnf)|(rw[c2];conv=>whnf)|(rw[c3];conv=>whnf)|(rw[Nat.zero_add];conv=>whnf)))
   refine aj hE (fun k=>k) [13,14,16,28,29,37,38] [14,16,37,196] (fun m fr hp=>∃t:Nat,m=r - t∧t≤r∧fr=[(13,iv r),(14,.ptr 14 0 0 0),(16,.ptr 16 0 0 0),(28,iv p),(29,iv q),(37,.ptr 37 0 0 0),(38,iv t)]∧
    hp=[(14,⟨38,true,.one (mC r r x)⟩),(16,⟨52,true,.one [.frac D]⟩),(37,⟨38,true,.one [iv r,iv r,.aO 196 5 0 (r*r)]⟩),(196,cP (lj r x p q t))]) r ?_ ?_ ?_
   ·kernel_rfl
   ·exact⟨0,rfl,Nat.zero_le _,rfl,by rw[yA gx];rfl⟩
   rintro m _ _ ⟨t,rfl,ht,rfl,rfl⟩
   have hL:(lj r x p q t).length=r*r:=dJ ..
   conv=>whnf
   by_cases htr:t<r
   ·have s1:=dx htr
    have s2:=br (i:=t) aa
    obtain⟨v1,v2⟩:=kK (i:=p) (k:=t) (c:=r) aa aa aa
    obtain⟨v3,v4⟩:=kK (i:=q) (k:=t) (c:=r) aa aa aa
    have b1:=gF hp htr
    have b2:=gF hq htr
    have e7:=yB (a:=x) (q:=q) hp htr
    rw[←D4 (p:=p) (a:=x) hq htr hpq]at e7
    clear kw kf x1 y1 kD kE o2 kP o3 kT ZE ZF Pm Mo m1 m2 m3 m4 m5 o4 kL kTw
    generalize lj r x p q t=L at*
    (repeat((first|refine aq av ?_|refine bg Q3 ?_|refine aC Q3 ?_|refine ao s1 ?_|rw[s1]|rw[s2]|rw[v1]|rw[v2]|rw[v3]|rw[v4]|rw[Int.toNat_natCast]|rw[Nat.zero_add]);conv=>whnf))
    exact⟨r - (t+1),fun k=>k,[13,14,16,28,29,37,38],[14,16,37,196],aa,av,t+1,rfl,htr,rfl,by rw[←e7];rfl⟩
   have s1:=dA htr
   obtain rfl:r=t:=aa
   (repeat(first|(refine ay s1 ?_;conv=>whnf)|(rw[s1];conv=>whnf)))
   refine uc 37 2 196 (fun _ h=>h) rfl aI rfl rfl hL.symm ?_
   refine bA hE ?_
   conv=>whnf
   (repeat(first|(refine ae rfl rfl ?_;conv=>whnf)|(refine aS (by assumption) ?_;conv=>whnf)|(refine⟨_,cn aJ cy rfl (ak rfl) (ak rfl) rfl rfl rfl rfl (kX (rfl)) cf, ?_⟩;conv=>whnf)))
   refine ct (t:=41) (k:=2002) (s:=1) (blk:=fH []) rfl rfl rfl ?_
   refine aj hE (fun k=>k) [13,14,16,28,41,42] [14,16,2002] (fun m fr hp=>∃i:Nat,m=p - i∧i≤p∧fr=[(13,iv r),(14,.ptr 14 0 0 0),(16,.ptr 16 0 0 0),(28,iv p),(41,.aO 2002 1 0 i),(42,iv i)]∧
    hp=[(14,⟨38,true,.one (mC r r x)⟩),(16,⟨52,true,.one [.frac D]⟩),(2002,fH (iB i))]) p ?_ ?_ ?_
   ·kernel_rfl
   ·exact⟨0,rfl,Nat.zero_le _,rfl,rfl⟩
   rintro m _ _ ⟨i,rfl,hi,rfl,rfl⟩
   conv=>whnf
   by_cases aE:i<p
   ·have lq:=mg i
    have s4:=dx aE
    have s5:=br (i:=i) aa
    have e7:=nV (l:=iB i) (x:=(i:Int))
    rw[lq,←pe]at e7
    clear kw kf x1 y1 kD kE o2 kP o3 kT ZE ZF Pm Mo m1 m2 m3 m4 m5 o4 kL
    (repeat((first|refine aC Q3 ?_|refine ao s4 ?_|rw[s4]|rw[s5]);conv=>whnf))
    refine⟨p - (i+1),cE [(236,2002)],[13,14,16,28,41,42],[14,16,236],aa,av,i+1,rfl,aE,rfl, ?_⟩
    rw[e7];rfl
   ·have s4:=dA aE
    obtain rfl:i=p:=aa
    (repeat(first|(refine ay s4 ?_;conv=>whnf)|(rw[s4];conv=>whnf)))
    refine gT 41 2002 (fun _ h=>h) rfl rfl lu.symm ?_
    refine bA hE ?_
    conv=>whnf
    (repeat((first|refine ag rfl rfl ?_|refine aq av ?_|refine aS (by assumption) ?_|refine ah dO ?_|rw[beq_self_eq_true]|refine⟨_,fh aJ cy rfl (ak rfl) (ak rfl) rfl rfl rfl rfl (kX (rfl)) cf, ?_⟩|rw[w3]);conv=>whnf));exact Q4
theorem Cb (a0 a1:MM) (a2 a3 a4:Int) (a5:Int×Int) (w0:GL a0) (w1:GL a1) (w2:(Lit.int .u8 a2).wf=true) (w3:(Lit.int .u8 a3).wf=true) (w4:(Lit.int .u8 a4).wf=true) (w5:((Lit.int .i64 a5.1).wf=true)∧((Lit.int .u32 a5.2).wf=true)):
  ab Tryz.prog 28 [mQ a0,mQ a1,jv .u8 a2,jv .u8 a3,jv .u8 a4,qA a5] [] (.val (.bool true)) [] []:=Zh a0 a1 a2 a3 a4 a5 (mo w0) (mo w1) (wf_u8 w2) (wf_u8 w3) (wf_u8 w4) (N3 w5)
end Go.Proofs.YtfpagioknjjacaaGreatDoor
