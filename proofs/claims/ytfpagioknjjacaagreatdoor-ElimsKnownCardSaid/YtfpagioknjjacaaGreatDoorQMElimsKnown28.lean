/- The texts Be. -/
import Derived.Test.YtfpagioknjjacaaGreatDoorQMElimsKnown27
import Derived.Test.YtfpagioknjjacaaGreatDoorQMElimsKnown23
import Derived.Test.YtfpagioknjjacaaGreatDoorQMElimsKnown20
namespace Go.Proofs.YtfpagioknjjacaaGreatDoor
open Go.Sx
set_option linter.unusedSimpArgs false
set_option linter.unusedVariables false
set_option maxRecDepth 100000
set_option maxHeartbeats 40000000
def sB:Nat→Nat
 |0=>130
 |t+1=>130+2*sB t
theorem acH {t:Nat} (h:t≤12):sB t≤1100000:=by
 have:∀t,t<13→sB t≤1100000:=aI
 exact this t aa
theorem Mr:∀t,2≤sB t
 |0=>aI
 |t+1=>by rw[sB];omega
theorem Pn (a:MM) (rows:List Int) (uf:List (Int×Int)) (ha:Eb a) (bY:rows.length≤maxLen∧∀x∈rows,0≤x∧x<256) (hby:uf.length≤maxLen∧∀q∈uf,ue q):
  ab Tryz.prog 23 [mQ a,cO .u8 rows,bF 2 qA uf] [] (.val (.bool true)) [] []:=by
 have kw:=eP
 have kf:=ln [a] (by simp) Q31
 cases hF:[a].all fun m=>decide (m.2.2.length≤40)
 ·rw[hF]at kf
  refine bT [3,19] Tryz.func23 ?_
  intro W0 w0 ρ0 hE
  conv=>whnf
  (repeat((first|refine ag rfl rfl ?_|refine ae rfl rfl ?_|refine aS (by assumption) ?_|refine ah dO ?_|refine ah Q5 ?_);conv=>whnf));exact Q4
 rw[hF]at kf
 by_cases hl:rows.length>24
 ·have t1:decide ((rows.length:Int)>24)=true:=decide_eq_true aa
  refine bT [3,19] Tryz.func23 ?_
  intro W0 w0 ρ0 hE
  conv=>whnf
  (repeat((first|refine ag rfl rfl ?_|refine ae rfl rfl ?_|refine aS (by assumption) ?_|refine ah dO ?_|refine ah dP ?_|refine ah Q8 ?_|refine ah Q5 ?_|rw[t1]);conv=>whnf));exact Q4
 have t1:decide ((rows.length:Int)>24)=false:=decide_eq_false aa
 by_cases iC:uf.length>12
 ·have t2:decide ((uf.length:Int)>12)=true:=decide_eq_true aa
  refine bT [3,19] Tryz.func23 ?_
  intro W0 w0 ρ0 hE
  conv=>whnf
  (repeat((first|refine ag rfl rfl ?_|refine aS (by assumption) ?_|refine ah dP ?_|refine ao t2 ?_|refine ah Q8 ?_|refine ah Q5 ?_|rw[t1]);conv=>whnf));exact Q4
 have t2:decide ((uf.length:Int)>12)=false:=decide_eq_false aa
 have km:=GM a ha
 have n6:=iY a.1
 have k6:=iY a.2.1
 generalize (a.1 % 7).toNat=r at*
 generalize (a.2.1 % 7).toNat=c at*
 have hX:=fB a.2.2 (r:=r) (c:=c) aa aa
 have sX:=eT ha.2.2.2 (r*c)
 generalize cM a.2.2 (r*c)=X at*
 have k1:=eO hX aa aa sX aI aI
 have k2:=Ip (vx r c X) aa aa
 replace k2:ab Tryz.prog 120 [mA r c (RL r c X),cO .i64 ((bV r c X).map cY)] [] (.val (.bool true)) [] []:=k2
 have k3:=eO (A:=532480) (Mf hX aa) aa aa (Ra hX aa sX aI) aI aI
 rw[(DS r c X).1,(DS r c X).2]at k3
 have z1:=vZ (Mf hX aa) rfl
 have lp:((bV r c X).map cY).length≤6:=by rw[List.length_map];have:=ng r c (el X c);rw[←gq]at this;omega
 have z2:=yF ((bV r c X).map cY) ((bV r c X).map cY) aa aa
 rw[decide_eq_true rfl]at z2
 have hXs:X=X:=rfl
 refine bT [3,19] Tryz.func23 ?_
 intro W0 w0 ρ0 hE
 conv=>whnf
 (repeat((first|refine ag rfl rfl ?_|refine ae rfl rfl ?_|refine aS (by assumption) ?_|refine ah dP ?_|rw[bne_self_eq_false]|refine ay t2 ?_|refine ah Q8 ?_|refine ah Q5 ?_|rw[t1]|rw[t2]);conv=>whnf))
 refine aj hE (fun k=>k) [1,2,7,8,9,14] [7,8] (fun m fr hp=>∃(t:Nat) (a':List Rat),m=uf.length - t∧t≤uf.length∧dV r c a'∧Sm (sB t) a'∧(∀x,mf r c (el a' c) x↔mf r c (el X c) x)∧
  fr=[(1,cO .u8 rows),(2,bF 2 qA uf),(7,.ptr 7 0 0 0),(8,.ptr 8 0 0 0),(9,cO .i64 ((bV r c X).map cY)),(14,iv t)]∧hp=[(7,⟨38,true,.one (mC r c a')⟩),(8,⟨38,true,.one (mC r c (RL r c X))⟩)]) uf.length ?_ ?_ ?_
 ·kernel_rfl
 ·exact⟨0,X,rfl,Nat.zero_le _,hX,sX,fun _=>Iff.rfl,rfl,rfl⟩
 clear k1 k2 k3 km kf
 rintro m _ _ ⟨t,a',rfl,ht,ok',sm',hK,rfl,rfl⟩
 conv=>whnf
 have w1:IntKind.i64.wrap (2*(t:Int))=((2*t:Nat):Int):=by rw[wrap_i64 aa aa];omega
 have w2:IntKind.i64.wrap (((2*t:Nat):Int)+1)=((2*t+1:Nat):Int):=br aa
 have hs:=acH (t:=t) aa
 by_cases h1:2*t+1<rows.length
 ·have t3:=dx h1
  by_cases h2:t<uf.length
  ·have t4:=dx h2
   by_cases h3:0<r
   ·have t5:decide ((r:Int)>0)=true:=decide_eq_true aa
    obtain⟨p,hp,p1,p2,p3⟩:=Ca (bY.2 _ (eK (d:=0) (show 2*t<rows.length by omega))) h3 aa
    obtain⟨q,hq,q1,q2',q3⟩:=Ca (bY.2 _ (eK (d:=0) h1)) h3 aa
    have kq:=zV (uf.getD t (0,0)) (kO hby.2 t)
    have fq:=Dc (kO hby.2 t)
    have w3:=br (i:=t) aa
    generalize qV (uf.getD t (0,0))=x at*
    have kc:=uU (x:=x) ok' sm' hp hq aa aa aa
    have n1:=B8 (i:=p) (k:=q) (x:=x) ok'
    have n2:Sm (sB (t+1)) (yy r c a' p q x):=B9 (x:=x) ok' sm' fq hp hq
    have n3:∀z,mf r c (el (yy r c a' p q x) c) z↔mf r c (el X c) z:=fun z=>(Mk hp hq z).trans (hK z)
    have b1:2*t<rows.length:=aa
    clear hK sm' ok' hX sX kw z1 z2
    generalize yy r c a' p q x=a2 at*
    (repeat((first|refine aq av ?_|refine bX Q3 ?_|refine aS (by assumption) ?_|refine ah dO ?_|refine ao t3 ?_|refine ao t4 ?_|refine ao t5 ?_|refine ah Q8 ?_|refine ah Q5 ?_|refine ah Q32 ?_|refine ah X8 ?_|rw[w1]|rw[w2]|rw[t3]|rw[t4]|rw[t5]|rw[p1]|rw[p2]|rw[q1]|rw[q2']|rw[w3]|rw[Int.toNat_natCast]|rw[Nat.zero_add]);conv=>whnf))
    exact⟨uf.length - (t+1),fun k=>k,[1,2,7,8,9,14],[7,8],aa,av,t+1,a2,rfl,h2,n1,n2,n3,rfl,rfl⟩
   ·have t5:decide ((r:Int)>0)=false:=decide_eq_false aa
    have k4:=eO ok' aa aa sm' (Mr t) aa
    obtain⟨h1,h2⟩:=wz hK
    rw[h1,h2]at k4
    clear hK sm' ok' hXs hX sX h1 h2
    generalize RL r c X=R at*
    generalize (bV r c X).map cY=P at*
    (repeat((first|refine ag rfl rfl ?_|refine aS (by assumption) ?_|refine ah dO ?_|refine ao t3 ?_|refine ao t4 ?_|refine ay t5 ?_|refine ah Q8 ?_|rw[w1]|rw[w2]|rw[t3]|rw[t4]);conv=>whnf));exact Q4
  ·have t4:=dA h2
   have k4:=eO ok' aa aa sm' (Mr t) aa
   obtain⟨h1,h2⟩:=wz hK
   rw[h1,h2]at k4
   clear hK sm' ok' hXs hX sX h1 h2
   generalize RL r c X=R at*
   generalize (bV r c X).map cY=P at*
   (repeat((first|refine ag rfl rfl ?_|refine ae rfl rfl ?_|refine aS (by assumption) ?_|refine ah dO ?_|refine ah dP ?_|refine ao t3 ?_|refine ay t4 ?_|refine ah Q8 ?_|rw[w1]|rw[w2]|rw[t3]|rw[t4]);conv=>whnf));exact Q4
 ·have t3:=dA h1
  have k4:=eO ok' aa aa sm' (Mr t) aa
  obtain⟨h1,h2⟩:=wz hK
  rw[h1,h2]at k4
  clear hK sm' ok' hXs hX sX h1 h2
  generalize RL r c X=R at*
  generalize (bV r c X).map cY=P at*
  (repeat((first|refine ag rfl rfl ?_|refine ae rfl rfl ?_|refine aS (by assumption) ?_|refine ah dO ?_|refine ah dP ?_|refine ay t3 ?_|refine ah Q8 ?_|rw[w1]|rw[w2]|rw[t3]);conv=>whnf));exact Q4
theorem zf (a0:MM) (a1:List Int) (a2:List (Int×Int)) (w0:GL a0) (w1:a1.length≤maxLen∧∀x∈a1,(Lit.int .u8 x).wf=true) (w2:Kq a2):
  ab Tryz.prog 23 [mQ a0,cO .u8 a1,bF 2 qA a2] [] (.val (.bool true)) [] []:=Pn a0 a1 a2 (mo w0) ⟨w1.1,fun x hx=>wf_u8 (w1.2 x hx)⟩ ⟨w2.1,qH w2⟩
end Go.Proofs.YtfpagioknjjacaaGreatDoor
