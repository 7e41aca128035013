/- The texts Ap, Kx, Aq, Ar, Aw, As, Ay. -/
import Derived.Test.YtadphegfhgmgmaaGreatDoorQMModesKnown26
import Derived.Test.YtadphegfhgmgmaaGreatDoorQMModesKnown21
import Derived.Test.YtadphegfhgmgmaaGreatDoorQMModesKnown6
import Derived.Test.YtadphegfhgmgmaaGreatDoorQMModesKnown23
import Derived.Test.YtadphegfhgmgmaaGreatDoorQMModesKnown16
set_option linter.unusedSimpArgs false
set_option linter.unusedVariables false
set_option maxHeartbeats 40000000
set_option maxRecDepth 100000
open Go.IntKind renaming i64->ε
open Go.Lit renaming int->Ϸ
open List renaming getD_eq_getElem?_getD->δ,getElem?_eq_none->Ϙ,mem_cons->Λ,not_mem_nil->afT
open Nat renaming le_trans->Ι,mul_le_mul_right->ο
open Rat renaming div_def->Ϡ,intCast_le_intCast->ago,mul_inv_cancel->Ν,mul_nonneg->π,num_nonneg->ajn,pow_succ->ace
namespace Go.Proofs.YtadphegfhgmgmaaGreatDoor
open Go.Sx
theorem Mc (q:Rat):0<=jC q:=by
 unfold jC;split
 ·rename_i h;have h1:¬0<=q:=λg=>by have:=ajn.2 g;omega
  grind
 ·rename_i h;exact ajn.1 aa
section
variable {n B C D:Nat} {a m:List Rat} (h:nk n B C a m)
include h
theorem nk.other {b:List Rat} (hl:b.length=n*n) (hs:SymM n b) (hz:Sm D b):nk n D C b m:=⟨h.n5,hl,h.om,hs,h.sm,h.pos,hz,h.zm⟩
theorem nk.lK {X:Nat} {x:Rat} (hx:fs x<=X):nk n (B+(X+C)) C (Jw a (a7 x m)) m/\∀i k,i<n->k<n->el (Jw a (a7 x m)) n i k=el a n i k+x*el m n i k:=by
 have ls:(a7 x m).length=n*n:=fw h.om h.om;have e:∀i k,i<n->k<n->el (Jw a (a7 x m)) n i k=el a n i k+x*el m n i k:=λi k hi hk=>by
  show(Jw a (a7 x m)).getD (i*n+k) 0=_;rw[VO h.oa ls (dP hi hk),mz h.om (dP hi hk)]
 refine⟨h.other (fw h.oa ls) (λi k hi hk=> ?_) (AM fW h.za (mO hx h.zm) (by rw[h.oa,ls])),e⟩;rw[e i k hi hk,e k i hk hi,h.sa i k hi hk,h.sm i k hi hk]
theorem nk.Sy {X:Nat} {x:Rat} (hx:fs x<=X):nk n (X+B) C (a7 x a) m/\∀i k,i<n->k<n->el (a7 x a) n i k=x*el a n i k:=by
 have e:∀i k,i<n->k<n->el (a7 x a) n i k=x*el a n i k:=λi k hi hk=>by
  show(a7 x a).getD (i*n+k) 0=_;rw[mz h.oa (dP hi hk)]
 refine⟨h.other (fw h.oa h.oa) (λi k hi hk=> ?_) (mO hx h.za),e⟩;rw[e i k hi hk,e k i hk hi,h.sa i k hi hk]
end
theorem zr {l b:List (Int×Int)} (hl:l.length<=maxLen) (hb:b.length<=maxLen):∀x∈[l,b],x.length<=maxLen:=λx hx=>by
 simp only[Λ,afT,or_false]at hx;rcases hx with rfl|rfl<;>assumption
abbrev Kb (l:List (Int×Int)):Prop:=l.length<=maxLen/\∀q∈l,my q
theorem Sz (l b:List (Int×Int)) (n:Int) (t x y:Int×Int) (hl:Kb l) (hb:Kb b) (hn:0<=n/\n<256) (ht:my t) (hx:my x) (hy:my y):
  C0 6 [lQ l,lQ b,gB .u8 n,qA t,qA x,qA y] (.val (.bool true)):=by
 have kw:=gX;have kf:=nY [l,b] (by simp) (zr hl.1 hb.1);cases hF:[l,b].all λl=>decide (l.length<=40)
 ·rw[hF]at kf;refine bB [9,10,11,48] Tryz.func6 ?_;intro W0 w0 ρ0 hE;conv=>whnf
  (repeat(first|(refine ag rfl rfl ?_;conv=>whnf)|(refine aN aJ ?_;conv=>whnf)));exact Q4
 rw[hF]at kf;obtain⟨e1,e2⟩:=jW n hn 6 ax;have r5:(n % 6).toNat<=5:=aa;generalize (n % 6).toNat=r at*;have kp:=nm l b hl hb r5;have P:=nX hl.2 hb.2 r5;have qt:=rn t ht;have qx:=rn x hx;have qy:=rn y hy;have ft:=oR ht;have fx:=oR hx;have fy:=oR hy;generalize qz l r=a at*;generalize fH b r=m at*;generalize qV t=T at*;generalize qV x=X at*;generalize qV y=Y at*;have ya:=YV Y;have xa:=YV X;have c1:C0 35 [iv 1] (.frac 1):=dH 1 ax ax;have cm:C0 35 [iv (-1)] (.frac (-1)):=dH (-1) ax ax;have fya:fs (jC Y)<=130:=by rw[PR];exact fy
 have fxa:fs (jC X)<=130:=by rw[PR];exact fx
 have f1:=jv;have sc:=uq (jC Y) 1 aa;have fS:fs (jC Y+1)<=140:=by have:=fW (jC Y) 1;omega
 have hS:(0:Rat)<jC Y+1:=by have:=Mc Y;grind
 have hXa:=Mc X;have fm1:fs (-1:Rat)<=10:=by decide+kernel
 obtain⟨P2,l2⟩:=P.lK fx;obtain⟨P3,l3⟩:=P.Sy fS;obtain⟨P4,l4⟩:=P.Sy fm1;have o1:=wi P.km fx P.zm ax;have ov:fa r r (a7 X m):=E6 P.km P.km;have o2:=aeZ P.ka ov P.za (mO fx P.zm) ax;have o3:=wi P.ka fS P.za ax;have o4:=wi P.ka fm1 P.za ax;have a1:=uq T X aa;have a2:=pa T (jC Y+1) aa;have a3:=pK T;have a4:=uq T (jC X) aa;have k1:=P.count T ft ax ax;have k2:=P2.count (T:=260) (T+X) (by have:=fW T X;omega) ax ax;have k3:=P3.count (T:=270) (T*(jC Y+1)) (by have:=cH T (jC Y+1);omega) ax ax;have k4:=P4.count (T:=130) (-T) (by rw[ju];exact ft) ax ax;have k5:=P.count (T:=260) (T+jC X) (by have:=fW T (jC X);omega) ax ax;obtain⟨g1,g2,g3⟩:=(P.lM T).shift (P2.lM (T+X)) l2;obtain⟨g4,g5,g6⟩:=(P.lM T).times hS (P3.lM (T*(jC Y+1))) l3;obtain⟨g7,g8,g9⟩:=(P.lM T).aeW (P4.lM (-T)) l4;obtain⟨g10,g11⟩:=(P.lM T).up P.pos (show T<=T+jC X by grind) (P.lM (T+jC X));rw[g1,g2,g3]at k2;rw[g4,g5,g6]at k3;rw[g7,g8,g9]at k4;clear ov g1 g2 g3 g4 g5 g6 g7 g8 g9 P P2 P3 P4 l2 l3 l4 hS hXa f1 ft fx fy fya fxa fS fm1 hF ht hx hy hl hb hn;generalize aB r a m T=F at*;generalize aB r a m (T+jC X)=G at*;generalize T+jC X=TX at*;generalize T*(jC Y+1)=TS at*;generalize jC Y+1=SC at*;generalize Jw a (a7 X m)=M2 at*;generalize a7 X m=M1 at*;have t1:decide (((G.m:Nat):Int)>=((F.m:Nat):Int))=true:=decide_eq_true aa;have t2:decide (((G.p:Nat):Int)<=((F.p:Nat):Int))=true:=decide_eq_true aa;clear g10 g11;refine bB [9,10,11,48] Tryz.func6 ?_;intro W0 w0 ρ0 hE;conv=>whnf
 (repeat((first|refine ag rfl rfl ?_|refine ae rfl rfl ?_|refine aq aD ?_|refine bn Q3 ?_|refine aN aJ ?_|refine an er ?_|refine an dZ ?_|rw[beq_self_eq_true]|rw[bne_self_eq_false]|refine ay t1 ?_|refine ay t2 ?_|refine an Q6 ?_|rw[e2]|rw[t1]|rw[t2]);conv=>whnf));exact Q4
theorem rL (a0 a1:List (Int×Int)) (a2:Int) (a3 a4 a5:Int×Int) (w0:yg a0) (w1:yg a1) (w2:(Ϸ .u8 a2).wf=true) (w3:((Ϸ .i64 a3.1).wf=true)/\((Ϸ .u32 a3.2).wf=true)) (w4:((Ϸ .i64 a4.1).wf=true)/\((Ϸ .u32 a4.2).wf=true)) (w5:((Ϸ .i64 a5.1).wf=true)/\((Ϸ .u32 a5.2).wf=true)):
  C0 6 [bN 2 qA a0,bN 2 qA a1,gB .u8 a2,qA a3,qA a4,qA a5] (.val (.bool true)):=
 Sz a0 a1 a2 a3 a4 a5 ⟨w0.1,gF w0⟩ ⟨w1.1,gF w1⟩ (wf_u8 w2) (nS w3) (nS w4) (nS w5)
theorem Xq {k:Nat} {X:List Rat} {A B:List Int} {i j:Nat} (hi:i<A.length) (hj:j<B.length):el (qq k X A B) B.length i j=el X k (A.getD i 0).toNat (B.getD j 0).toNat:=mP hi hj
theorem Md {r c B:Nat} {X:List Rat} {A C:List Int} (hX:X.length=r*c) (sX:Sm B X) (hA:∀x∈A,0<=x/\x<(r:Int)) (hC:∀x∈C,0<=x/\x<(c:Int)):Sm B (qq c X A C):=C4 λi j hi hj=>by
 have h1:=hA _ (eX (d:=0) hi);have h2:=hC _ (eX (d:=0) hj);exact eM sX hX aa aa
def dM (k:Nat):List Int:=(List.range k).map yD
theorem xM (k:Nat):(dM k).length=k:=by simp[dM]
theorem DA {k i:Nat} (h:i<k):(dM k).getD i 0=(i:Int):=by simp[dM,δ,h]
theorem DB {k:Nat} {x:Int} (h:x∈dM k):0<=x/\x<(k:Int):=by
 obtain⟨i,hi,rfl⟩:=List.mem_map.1 h;rw[List.mem_range]at hi;show(0:Int)<=(i:Int)/\(i:Int)<k;omega
theorem Kc (k:Nat):dM (k+1)=dM k++[(k:Int)]:=by unfold dM;rw[List.range_succ,List.map_append];rfl
theorem nk.lead {k B C:Nat} {a m:List Rat} (h:nk (k+1) B C a m):nk k B C (qq (k+1) a (dM k) (dM k)) (qq (k+1) m (dM k) (dM k))/\
  (∀i j,i<k->j<k->el (qq (k+1) a (dM k) (dM k)) k i j=el a (k+1) i j)/\(∀i j,i<k->j<k->el (qq (k+1) m (dM k) (dM k)) k i j=el m (k+1) i j):=by
 have lk:=xM k;have e:∀(X:List Rat) i j,i<k->j<k->el (qq (k+1) X (dM k) (dM k)) k i j=el X (k+1) i j:=λX i j hi hj=>by
  have:=Xq (k:=k+1) (X:=X) (A:=dM k) (B:=dM k) (i:=i) (j:=j) aa aa;rw[lk,DA hi,DA hj]at this;exact this
 have hl:∀X:List Rat,(qq (k+1) X (dM k) (dM k)).length=k*k:=λX=>by rw[qq,eD,lk]
 have hk:∀x∈dM k,0<=x/\x<((k+1:Nat):Int):=λx hx=>by have:=DB hx;omega
 refine⟨⟨by have:=h.n5;omega,hl a,hl m,λi j hi hj=> ?_,λi j hi hj=> ?_,h.pos.cut.congr λi j hi hj=>(e m i j hi hj).symm,Md h.oa h.za hk hk,Md h.om h.zm hk hk⟩,e a,e m⟩
 ·rw[e a i j hi hj,e a j i hj hi,h.sa i j aa aa]
 ·rw[e m i j hi hj,e m j i hj hi,h.sm i j aa aa]
theorem SA (l b:List (Int×Int)) (n:Int) (t:Int×Int) (hl:Kb l) (hb:Kb b) (hn:0<=n/\n<256) (ht:my t):
  C0 10 [lQ l,lQ b,gB .u8 n,qA t] (.val (.bool true)):=by
 have kw:=gX;have kf:=nY [l,b] (by simp) (zr hl.1 hb.1);cases hF:[l,b].all λl=>decide (l.length<=40)
 ·rw[hF]at kf;refine bB [7,28] Tryz.func10 ?_;intro W0 w0 ρ0 hE;conv=>whnf
  (repeat(first|(refine ag rfl rfl ?_;conv=>whnf)|(refine aN aJ ?_;conv=>whnf)));exact Q4
 rw[hF]at kf;obtain⟨e1,e2⟩:=jW n hn 5 ax;have r4:(n % 5).toNat<=4:=aa;generalize (n % 5).toNat=r at*;have e3:ε.wrap (1+((r:Nat):Int))=((r+1:Nat):Int):=by rw[wrap_i64 aa aa];omega
 have kp:=nm l b hl hb (n:=r+1) aa;have P:=nX (n:=r+1) hl.2 hb.2 aa;have qt:=rn t ht;have ft:=oR ht;generalize qz l (r+1)=a at*;generalize fH b (r+1)=m at*;generalize qV t=T at*;obtain⟨P2,l2,l3⟩:=P.lead;have hk:∀x∈dM r,0<=x/\x<((r+1:Nat):Int):=λx hx=>by have:=DB hx;omega
 have lk:=xM r;have o1:=QP P.ka (dM r) (dM r) aa aa hk hk;have o2:=QP P.km (dM r) (dM r) aa aa hk hk;rw[lk]at o1 o2;have k1:=P.count T ft ax ax;have k2:=P2.count T ft ax ax;obtain⟨g1,g2,g3,g4⟩:=(P.lM T).inter ((P2.lM T).congr (B:=jb (el a (r+1)) (el m (r+1)) T) λi j hi hj=>by unfold jb;rw[l2 i j hi hj,l3 i j hi hj]);have s1:=P.sum T;clear P P2 l2 l3 ft hF ht hl hb hn hk;generalize qq (r+1) a (dM r) (dM r)=a' at*;generalize qq (r+1) m (dM r) (dM r)=m' at*;generalize aB (r+1) a m T=F at*;generalize aB r a' m' T=G at*;refine kg [7,28,100010] Tryz.func10 ?_;intro w0 ρ0 hE;conv=>whnf
 (repeat((first|refine ae rfl rfl ?_|refine bn Q3 ?_|refine aN aJ ?_|rw[e2]|rw[e3]);conv=>whnf))
 refine dD (t:=12) (k:=2001) (s:=1) (blk:=BC []) rfl rfl rfl ?_
 refine av hE (λk=>k) [7,9,10,11,12,13] [10,11,2001] (λM fr hp=>∃i:Nat,M=r - i/\i<=r/\fr=[(7,b9 [gB .i64 t.1,gB .u32 t.2]),(9,iv ((r+1:Nat))),(10,.ptr 10 0 0 0),(11,.ptr 11 0 0 0),(12,.aM 2001 1 0 i),(13,iv (i:Nat))]/\
  hp=[(10,⟨35,true,.one (mC ((r+1:Nat)) ((r+1:Nat)) a)⟩),(11,⟨35,true,.one (mC ((r+1:Nat)) ((r+1:Nat)) m)⟩),(2001,BC (dM i))]) r ?_ ?_ ?_
 ·kernel_rfl
 ·exact⟨0,rfl,Nat.zero_le _,rfl,rfl⟩
 rintro M _ _ ⟨i,rfl,hi,rfl,rfl⟩;have t2:=bW (i:=i) aa;by_cases aE:i<r
 ·have t1:=gZ (show i+1<r+1 by omega);have li:=xM i;have e7:=Xj (l:=dM i) (x:=(i:Int));rw[li,<-Kc]at e7;conv=>whnf
  (repeat((first|refine ao Q3 ?_|refine ay t1 ?_|rw[t2]|rw[t1]);conv=>whnf))
  refine⟨r - (i+1),dA [(52,2001)],[7,9,10,11,12,13],[10,11,52],aa,aD,i+1,rfl,aE,rfl, ?_⟩;rw[e7];rfl
 ·have t1:=iH (show ¬i+1<r+1 by omega);obtain rfl:i=r:=aa;conv=>whnf
  (repeat(first|(refine aG t1 ?_;conv=>whnf)|(rw[t2];conv=>whnf)|(rw[t1];conv=>whnf)))
  refine yr 12 2001 (λ_ h=>h) rfl rfl lk.symm ?_;refine cv hE ?_;conv=>whnf
  have w1:ε.wrap (((F.m:Nat):Int) - 1)=((F.m:Nat):Int) - 1:=wrap_i64 aa aa;have w2:ε.wrap (((F.p:Nat):Int) - 1)=((F.p:Nat):Int) - 1:=wrap_i64 aa aa;by_cases h1:G.m=F.m
  ·have u1:(((G.m:Nat):Int)==((F.m:Nat):Int))=true:=by rw[h1];exact beq_self_eq_true _
   by_cases h2:G.p=F.p
   ·have u2:(((G.p:Nat):Int)==((F.p:Nat):Int))=true:=by rw[h2];exact beq_self_eq_true _
    (repeat((first|refine ag rfl rfl ?_|refine ae rfl rfl ?_|refine aq aD ?_|refine aN aJ ?_|refine an er ?_|rw[beq_self_eq_true]|refine an Q6 ?_|rw[u1]|rw[u2]);conv=>whnf));exact Q4
   ·have u2:(((G.p:Nat):Int)==((F.p:Nat):Int))=false:=beq_eq_false_iff_ne.2 aa;have u3:(((G.p:Nat):Int)==((F.p:Nat):Int) - 1)=true:=by rw[show((G.p:Nat):Int)=((F.p:Nat):Int) - 1 by omega];exact beq_self_eq_true _
    (repeat((first|refine ag rfl rfl ?_|refine ae rfl rfl ?_|refine aq aD ?_|refine aN aJ ?_|refine an er ?_|refine an dZ ?_|rw[beq_self_eq_true]|refine ay u3 ?_|refine an Q6 ?_|rw[u1]|rw[u2]|rw[w2]|rw[u3]);conv=>whnf));exact Q4
  ·have u1:(((G.m:Nat):Int)==((F.m:Nat):Int))=false:=beq_eq_false_iff_ne.2 aa;have u4:(((G.m:Nat):Int)==((F.m:Nat):Int) - 1)=true:=by rw[show((G.m:Nat):Int)=((F.m:Nat):Int) - 1 by omega];exact beq_self_eq_true _
   by_cases h2:G.p=F.p
   ·have u2:(((G.p:Nat):Int)==((F.p:Nat):Int))=true:=by rw[h2];exact beq_self_eq_true _
    (repeat((first|refine ag rfl rfl ?_|refine ae rfl rfl ?_|refine aq aD ?_|refine aN aJ ?_|refine an er ?_|refine an dZ ?_|rw[beq_self_eq_true]|refine ay u4 ?_|refine an Q6 ?_|rw[u1]|rw[w1]|rw[u4]|rw[u2]);conv=>whnf));exact Q4
   ·have u2:(((G.p:Nat):Int)==((F.p:Nat):Int))=false:=beq_eq_false_iff_ne.2 aa;have u3:(((G.p:Nat):Int)==((F.p:Nat):Int) - 1)=true:=by rw[show((G.p:Nat):Int)=((F.p:Nat):Int) - 1 by omega];exact beq_self_eq_true _
    (repeat((first|refine ag rfl rfl ?_|refine aq aD ?_|refine aN aJ ?_|refine an er ?_|refine an dZ ?_|rw[beq_self_eq_true]|refine ay u4 ?_|refine ay u3 ?_|refine an Q6 ?_|rw[u1]|rw[w1]|rw[u4]|rw[u2]|rw[w2]|rw[u3]);conv=>whnf));exact Q4
theorem nq (a0 a1:List (Int×Int)) (a2:Int) (a3:Int×Int) (w0:yg a0) (w1:yg a1) (w2:(Ϸ .u8 a2).wf=true) (w3:((Ϸ .i64 a3.1).wf=true)/\((Ϸ .u32 a3.2).wf=true)):
  C0 10 [bN 2 qA a0,bN 2 qA a1,gB .u8 a2,qA a3] (.val (.bool true)):=
 SA a0 a1 a2 a3 ⟨w0.1,gF w0⟩ ⟨w1.1,gF w1⟩ (wf_u8 w2) (nS w3)
theorem Me {n:Nat} {A:Mx} (C:Mx) (h:dq n A):dq n (pr n (tr C) (pr n A C)):=by
 intro i k hi hk;show aj n (λp=>C p i*aj n λq=>A p q*C q k)=aj n (λp=>C p k*aj n λq=>A p q*C q i);rw[ah n (g:=λp=>aj n λq=>C p i*(A p q*C q k)) λp _=>by rw[bH],dX];refine ah n λq hq=> ?_
 rw[bH];exact ah n λp hp=>by rw[h p q hp hq];grind
abbrev Kd (n:Nat) (a c:List Rat):List Rat:=yy n n n (fZ n n c) (yy n n n a c)
theorem uZ {n:Nat} {a c:List Rat} {i k:Nat} (hi:i<n) (hk:k<n):el (Kd n a c) n i k=pr n (tr (el c n)) (pr n (el a n) (el c n)) i k:=by
 rw[Lo hi hk];exact ah n λp hp=>by rw[Lp hi hp,Lo hp hk];rfl
theorem nk.A6 {n B C D:Nat} {a m c:List Rat} (h:nk n B C a m) (hc:c.length=n*n) (sc:Sm D c) (hd:bz n (el c n)≠0) (t:Rat):
  nk n (2+5*(D+(2+5*(B+D)))) (2+5*(D+(2+5*(C+D)))) (Kd n a c) (Kd n m c)/\(aB n (Kd n a c) (Kd n m c) t).m=(aB n a m t).m/\(aB n (Kd n a c) (Kd n m c) t).left=(aB n a m t).left/\(aB n (Kd n a c) (Kd n m c) t).p=(aB n a m t).p:=by
 have n5:=h.n5;have lt:(fZ n n c).length=n*n:=eD ..;have sz:∀{x:List Rat} {X:Nat},x.length=n*n->Sm X x->Sm (2+5*(D+(2+5*(X+D)))) (Kd n x c):=λ{x X} hx sx=>EX lt (eD ..) (E5 hc sc) (EX hx hc sx sc n5) n5
 have P:nk n (2+5*(D+(2+5*(B+D)))) (2+5*(D+(2+5*(C+D)))) (Kd n a c) (Kd n m c):=⟨n5,eD ..,eD ..,
  λi k hi hk=>by rw[uZ hi hk,uZ hk hi];exact Me (el c n) h.sa i k hi hk,
  λi k hi hk=>by rw[uZ hi hk,uZ hk hi];exact Me (el c n) h.sm i k hi hk,
  (h.pos.cg (Qw (el m n) hd)).congr λi k hi hk=>(uZ hi hk).symm,sz h.oa h.za,sz h.om h.zm⟩
 refine⟨P,(P.lM t).unique (((h.lM t).cg (Qw _ hd)).congr λi k hi hk=> ?_)⟩;show pr n (tr (el c n)) (pr n (jb (el a n) (el m n) t) (el c n)) i k=el (Kd n a c) n i k - t*el (Kd n m c) n i k;rw[uZ hi hk,uZ hi hk];show aj n (λp=>el c n p i*aj n λq=>(el a n p q - t*el m n p q)*el c n q k)=aj n (λp=>el c n p i*aj n λq=>el a n p q*el c n q k) - t*aj n (λp=>el c n p i*aj n λq=>el m n p q*el c n q k);have e1:∀p,aj n (λq=>(el a n p q - t*el m n p q)*el c n q k)=aj n (λq=>el a n p q*el c n q k)+(-t)*aj n (λq=>el m n p q*el c n q k):=λp=>by
  rw[<-sum_smul,<-sum_add];exact ah n λq _=>by grind
 rw[ah n (g:=λp=>el c n p i*aj n (λq=>el a n p q*el c n q k)+(-t)*(el c n p i*aj n (λq=>el m n p q*el c n q k))) λp _=>by rw[e1];grind,sum_add,sum_smul];grind
theorem DC {l b c:List (Int×Int)} (hl:l.length<=maxLen) (hb:b.length<=maxLen) (hc:c.length<=maxLen):∀x∈[l,b,c],x.length<=maxLen:=λx hx=>by
 simp only[Λ,afT,or_false]at hx;rcases hx with rfl|rfl|rfl<;>assumption
theorem nk.diff {n B C T:Nat} {a m:List Rat} {t:Rat} (h:nk n B C a m) (ht:fs t<=T):(jk a (a7 t m)).length=n*n/\Sm (B+(T+C)) (jk a (a7 t m))/\(∀i k,i<n->k<n->el (jk a (a7 t m)) n i k=jb (el a n) (el m n) t i k)/\(aB n a m t).left+(eI n n (jk a (a7 t m))).length=n:=by
 have ls:(a7 t m).length=n*n:=fw h.om h.om;have e:∀i k,i<n->k<n->el (jk a (a7 t m)) n i k=jb (el a n) (el m n) t i k:=λi k hi hk=>by
  show(jk a (a7 t m)).getD (i*n+k) 0=_;rw[VP h.oa ls (dP hi hk),mz h.om (dP hi hk)];rfl
 refine⟨fw h.oa ls,AM rh h.za (mO ht h.zm) (by rw[h.oa,ls]),e, ?_⟩;exact cJ.aeT (λi k hi hk=>by rw[e i k hi hk,e k i hk hi];exact mc h.sa h.sm t i k hi hk) ((h.lM t).congr λi k hi hk=>(e i k hi hk).symm)
theorem Ke (l b c:List (Int×Int)) (n:Int) (t:Int×Int) (hl:Kb l) (hb:Kb b) (hc:Kb c) (hn:0<=n/\n<256) (ht:my t):
  C0 5 [lQ l,lQ b,lQ c,gB .u8 n,qA t] (.val (.bool true)):=by
 have kw:=gX;have kf:=nY [l,b,c] (by simp) (DC hl.1 hb.1 hc.1);cases hF:[l,b,c].all λl=>decide (l.length<=40)
 ·rw[hF]at kf;refine bB [9,44] Tryz.func5 ?_;intro W0 w0 ρ0 hE;conv=>whnf
  (repeat(first|(refine ag rfl rfl ?_;conv=>whnf)|(refine aN aJ ?_;conv=>whnf)));exact Q4
 rw[hF]at kf;obtain⟨e1,e2⟩:=jW n hn 6 ax;have r5:(n % 6).toNat<=5:=aa;generalize (n % 6).toNat=r at*;have kp:=nm l b hl hb r5;have P:=nX hl.2 hb.2 r5;have UH:(0:Int)<=0/\(0:Int)<256:=ax;have ks:=JN (0,0,c) ⟨UH,UH,hc.1,hc.2⟩ (r:=r) (c:=r) aa aa
 replace ks:C0 27 [mQ (0,0,c),iv r,iv r] (mA r r (eZ c (r*r))):=ks
 have Kf:=Hi c (r:=r) (c:=r) aa aa;have UI:=EY hc.2 (r*r);have qt:=rn t ht;have ft:=oR ht;generalize qz l r=a at*;generalize fH b r=m at*;generalize eZ c (r*r)=by' at*
 generalize qV t=T at*;have k1:=P.count T ft ax ax;have o1:=wi P.km ft P.zm ax;have ov:fa r r (a7 T m):=E6 P.km P.km;have o2:=Y6 P.ka ov P.za (mO ft P.zm) ax;obtain⟨d1,d2,d3,d4⟩:=P.diff ft;have hd:fa r r (jk a (a7 T m)):=⟨P.ka.r,P.ka.c,d1⟩;have k2:=L5 hd aa aa d2 ax ax;have k3:=L5 Kf aa aa UI ax ax;have s1:=P.sum T;have hrk:=Np (n:=r) (x:=by');have hle:=GX r r (el by' r);rw[<-G2]at hle;have o3:=QM Kf;have o4:=LC 5 P.ka Kf P.za UI r5 ax;have o5:=LC 5 P.km Kf P.zm UI r5 ax;have o6:=LC 5 (Hr Kf) (LK P.ka Kf) (E5 Kf.n UI) (EX P.oa Kf.n P.za UI r5) r5 ax;have o7:=LC 5 (Hr Kf) (LK P.km Kf) (E5 Kf.n UI) (EX P.om Kf.n P.zm UI r5) r5 ax;have w1:ε.wrap ((((aB r a m T).m:Nat):Int)+(((aB r a m T).left:Nat):Int))=(((aB r a m T).m+(aB r a m T).left:Nat):Int):=by rw[wrap_i64 aa aa];omega
 have w2:ε.wrap ((((aB r a m T).m+(aB r a m T).left:Nat):Int)+(((aB r a m T).p:Nat):Int))=((r:Nat):Int):=by rw[wrap_i64 aa aa];omega
 have w3:ε.wrap (((r:Nat):Int) - (((eI r r (jk a (a7 T m))).length:Nat):Int))=(((aB r a m T).left:Nat):Int):=by rw[wrap_i64 aa aa];omega
 have t1:decide ((((aB r a m T).m:Nat):Int)<0)=false:=decide_eq_false aa;have t2:decide ((((aB r a m T).left:Nat):Int)<0)=false:=decide_eq_false aa;have t3:decide ((((aB r a m T).p:Nat):Int)<0)=false:=decide_eq_false aa;by_cases vP:(eI r r by').length=r
 ·obtain⟨P2,g1,g2,g3⟩:=P.A6 Kf.n UI (hrk.1 vP) T;have k4:=P2.count T ft ax ax;rw[g1,g2,g3]at k4;unfold Kd at k4;have t4:decide ((((eI r r by').length:Nat):Int)<((r:Nat):Int))=false:=decide_eq_false aa;clear ov g1 g2 g3 P P2 hrk hle vP s1 d1 d2 d3 d4 hd Kf UI hF hl hb hc hn ht UH ft;generalize yy r r r (fZ r r by') (yy r r r a by')=X at*;generalize yy r r r (fZ r r by') (yy r r r m by')=Y at*;generalize yy r r r a by'=AB at*
  generalize yy r r r m by'=MB at*
  generalize fZ r r by'=TU at*
  generalize (eI r r by').length=R2 at*;generalize (eI r r (jk a (a7 T m))).length=R1 at*;generalize jk a (a7 T m)=DF at*;generalize a7 T m=TM at*;generalize aB r a m T=F at*;refine bB [9,44] Tryz.func5 ?_;intro W0 w0 ρ0 hE;conv=>whnf
  (repeat((first|refine ag rfl rfl ?_|refine ae rfl rfl ?_|refine aq aD ?_|refine bn Q3 ?_|refine aN aJ ?_|refine an er ?_|refine an dZ ?_|rw[beq_self_eq_true]|rw[bne_self_eq_false]|refine aG t4 ?_|refine an Q6 ?_|rw[e2]|rw[w1]|rw[w2]|rw[w3]);conv=>whnf));exact Q4
 ·have t4:decide ((((eI r r by').length:Nat):Int)<((r:Nat):Int))=true:=decide_eq_true aa;clear ov P hrk hle vP s1 d1 d2 d3 d4 hd Kf UI hF hl hb hc hn ht UH ft o4 o5 o6 o7;generalize (eI r r by').length=R2 at*;generalize (eI r r (jk a (a7 T m))).length=R1 at*;generalize jk a (a7 T m)=DF at*;generalize a7 T m=TM at*;generalize aB r a m T=F at*;refine bB [9,44] Tryz.func5 ?_;intro W0 w0 ρ0 hE;conv=>whnf
  (repeat((first|refine ag rfl rfl ?_|refine ae rfl rfl ?_|refine aq aD ?_|refine bn Q3 ?_|refine aN aJ ?_|refine an dZ ?_|rw[bne_self_eq_false]|refine ay t4 ?_|refine an Q6 ?_|rw[e2]|rw[w1]|rw[w2]|rw[w3]);conv=>whnf));exact Q4
theorem pc (a0 a1 a2:List (Int×Int)) (a3:Int) (a4:Int×Int) (w0:yg a0) (w1:yg a1) (w2:yg a2) (w3:(Ϸ .u8 a3).wf=true) (w4:((Ϸ .i64 a4.1).wf=true)/\((Ϸ .u32 a4.2).wf=true)):
  C0 5 [bN 2 qA a0,bN 2 qA a1,bN 2 qA a2,gB .u8 a3,qA a4] (.val (.bool true)):=
 Ke a0 a1 a2 a3 a4 ⟨w0.1,gF w0⟩ ⟨w1.1,gF w1⟩ ⟨w2.1,gF w2⟩ (wf_u8 w3) (nS w4)
theorem H2 {l:List (Int×Int)} {n i:Nat} {P:Rat->Prop} (hq:∀t,P (qV (l.getD t (0,0)))):∀m t (a:List Rat),(∀p,P (a.getD p 0))->∀p,P ((E7 l n i m t a).getD p 0)
 |0,_,a,h=>h
 |m+1,t,a,h=>by
  rw[E7];refine H2 hq m (t+1) _ ?_;have hs:∀(a:List Rat) (q:Nat) (x:Rat),P x->(∀p,P (a.getD p 0))->∀p,P ((a.set q x).getD p 0):=λa q x hx ha p=>by
   by_cases e:p=q
   ·subst e;by_cases hp:p<a.length
    ·rw[p0 hp];exact hx
    ·have:=ha p;rw[δ,Ϙ aa]at this;rw[δ,Ϙ (by rw[List.length_set];omega)];exact this
   ·rw[gT e];exact ha p
  split
  ·exact hs _ _ _ (hq t) (hs _ _ _ (hq t) h)
  ·exact h
theorem H3 {l:List (Int×Int)} {n:Nat} {P:Rat->Prop} (hq:∀t,P (qV (l.getD t (0,0)))):∀m t (a:List Rat),(∀p,P (a.getD p 0))->∀p,P ((Cm l n m t a).getD p 0)
 |0,_,a,h=>h
 |m+1,t,a,h=>by
  rw[Cm];exact H3 hq m _ _ (H2 hq (m+1) t a h)
theorem Zq {q:Int×Int} (h:my q): -(9223372036854775808:Rat)<=qV q/\qV q<=9223372036854775808:=by
 obtain⟨⟨h1,h2⟩,h3,h4⟩:=h;unfold qV;generalize hd:(if q.2<1 then 1 else q.2:Int)=d;have Ob:(1:Int)<=d:=by subst hd;split<;>omega
 have c1:((1:Int):Rat)<=(d:Rat):=ago.2 Ob;have c2:((-9223372036854775808:Int):Rat)<=(q.1:Rat):=ago.2 h1;have c3:(q.1:Rat)<=((9223372036854775808:Int):Rat):=ago.2 aa;have c4:(0:Rat)<(d:Rat):=by have:((1:Int):Rat)=1:=rfl;grind
 have c5:(d:Rat)*(d:Rat)⁻¹=1:=Ν _ (by grind);have c6:0<(d:Rat)⁻¹:=Rat.inv_pos.2 c4;have c7:(d:Rat)⁻¹<=1:=by
  have:=π (show(0:Rat)<=(d:Rat) - 1 by have:((1:Int):Rat)=1:=rfl;grind) (show(0:Rat)<=(d:Rat)⁻¹ by grind);grind
 have e1:((-9223372036854775808:Int):Rat)= -9223372036854775808:=rfl;have e2:((9223372036854775808:Int):Rat)=9223372036854775808:=rfl;rw[Ϡ];have a1:=π (show(0:Rat)<=9223372036854775808 - (q.1:Rat) by grind) (show(0:Rat)<=(d:Rat)⁻¹ by grind);have a2:=π (show(0:Rat)<=9223372036854775808+(q.1:Rat) by grind) (show(0:Rat)<=(d:Rat)⁻¹ by grind);constructor<;>grind
theorem H4 {l b:List (Int×Int)} {n:Nat} (hl:∀q∈l,my q) (hb:∀q∈b,my q) (hn:n<=5):∃e,e<=66/\fg n (qz l n) (fH b n) (2^e)/\∀k,k<e->¬fg n (qz l n) (fH b n) (2^k):=by
 refine least (P:=λe=>fg n (qz l n) (fH b n) (2^e)) ?_;have P:=nX hl hb hn;have MS:∀p, -(9223372036854775808:Rat)<=(qz l n).getD p 0/\(qz l n).getD p 0<=9223372036854775808:=by
  refine H3 (P:=λx=> -(9223372036854775808:Rat)<=x/\x<=9223372036854775808) (λt=>Zq (oo hl t)) n 0 _ λp=> ?_
  have:(List.replicate (n*n) (0:Rat)).getD p 0=0:=by
   by_cases hp:p<n*n
   ·exact ru hp
   ·rw[δ,Ϙ (by simp;omega)];rfl
  rw[this];decide
 have hn5:(n:Rat)*9223372036854775808<=2^66:=by
  have:((n:Nat):Rat)<=((5:Nat):Rat):=Rat.natCast_le_natCast.2 hn;have e2:(2:Rat)^66=73786976294838206464:=by decide+kernel
  have e3:((5:Nat):Rat)=5:=rfl;grind
 exact far (λi k _ _=>MS (i*n+k)) (wy b n) hn5 (by have:=two_pos 66;grind) (P.lM (-(2^66))) (P.lM (2^66))
theorem SB (j:Nat):(2:Rat)^(j+1)/2=2^j:=by
 rw[ace,Ϡ,Rat.mul_assoc,Ν 2 ax,Rat.mul_one]
theorem SD (j:Nat):(1:Rat)<=2^j:=by
 induction j with
 |zero=>decide
 |succ j ih=>rw[ace];grind
theorem SE (l b:List (Int×Int)) (n:Int) (hl:Kb l) (hb:Kb b) (hn:0<=n/\n<256):
  C0 8 [lQ l,lQ b,gB .u8 n] (.val (.bool true)):=by
 have kw:=gX;have kf:=nY [l,b] (by simp) (zr hl.1 hb.1);cases hF:[l,b].all λl=>decide (l.length<=40)
 ·rw[hF]at kf;refine bB [33] Tryz.func8 ?_;intro W0 w0 ρ0 hE;conv=>whnf
  (repeat(first|(refine ag rfl rfl ?_;conv=>whnf)|(refine aN aJ ?_;conv=>whnf)));exact Q4
 rw[hF]at kf;obtain⟨e1,e2⟩:=jW n hn 6 ax;have r5:(n % 6).toNat<=5:=aa;generalize (n % 6).toNat=r at*;have kp:=nm l b hl hb r5;have P:=nX hl.2 hb.2 r5;obtain⟨e,he,h1,h0⟩:=H4 hl.2 hb.2 r5;generalize qz l r=a at*;generalize fH b r=m at*;have k1:=sM (P.ok ax ax) (P.reach ax ax aa h1 h0);have f2:=mi e;have kn:=pK ((2:Rat)^e);have k2:=P.count (T:=70) (-(2^e)) (by rw[ju];omega) ax ax;have k3:=P.count (T:=70) (2^e) aa ax ax;rw[h1.1]at k2;rw[h1.2]at k3;have c1:C0 35 [iv 1] (.frac 1):=dH 1 ax ax;have c2:C0 35 [iv 2] (.frac 2):=dH 2 ax ax;have g2:fs (2:Rat)<=10:=by decide+kernel
 have g1:=jv;have kd:∀j,j<=66->C0 45 [.frac (2^(j+1)),.frac 2] (.bQ [.frac (2^j),iv 0]):=λj hj=>by
  have:=Dv ((2:Rat)^(j+1)) 2 ax (by have:=mi (j+1);omega);rwa [SB]at this
 have kc:∀j,j<=66->C0 42 [.frac (2^j),.frac 1] (iv (((2:Rat)^j - 1).num.sign)):=λj hj=>yc _ _ (by have:=mi j;omega)
 have wx:e≠0->∃f,e=f+1/\0<(aB r a m (-(2^f))).m+(aB r a m (2^f)).p/\C0 23 [mA r r a,mA r r m,.frac (-(2^f))] (.bQ [iv (aB r a m (-(2^f))).m,iv (aB r a m (-(2^f))).left,iv (aB r a m (-(2^f))).p,iv 0])/\
   C0 23 [mA r r a,mA r r m,.frac (2^f)] (.bQ [iv (aB r a m (2^f)).m,iv (aB r a m (2^f)).left,iv (aB r a m (2^f)).p,iv 0])/\(aB r a m (-(2^f))).m<=r/\(aB r a m (2^f)).p<=r:=λa8=>by
  obtain⟨f,rfl⟩:∃f,e=f+1:=⟨e - 1,aa⟩;have hf:=h0 f aa;have g3:=mi f;refine⟨f,rfl, ?_,P.count (T:=70) (-(2^f)) (by rw[ju];omega) ax ax,P.count (T:=70) (2^f) aa ax ax,by have:=P.sum (-(2^f));omega,by have:=P.sum (2^f);omega⟩;refine Nat.pos_of_ne_zero λh=>hf ⟨aa,aa⟩
 clear P h1 h0 f2 hF hl hb hn;generalize (aB r a m (-(2^e))).left=z1 at*;generalize (aB r a m (-(2^e))).p=z2 at*;generalize (aB r a m (2^e)).m=z3 at*;generalize (aB r a m (2^e)).left=z4 at*;refine bB [33] Tryz.func8 ?_;intro W0 w0 ρ0 hE;conv=>whnf
 (repeat((first|refine ag rfl rfl ?_|refine ae rfl rfl ?_|refine aq aD ?_|refine bn Q3 ?_|refine aN aJ ?_|refine an dZ ?_|rw[bne_self_eq_false]|rw[e2]);conv=>whnf))
 refine av hE (λk=>k) [7,8,9,19,20] [7,8,9,19] (λM fr hp=>∃i j:Nat,M=j/\i+j=e/\fr=[(7,.ptr 7 0 0 0),(8,.ptr 8 0 0 0),(9,.ptr 9 0 0 0),(19,.ptr 19 0 0 0),(20,iv (i:Nat))]/\
  hp=[(7,⟨35,true,.one (mC r r a)⟩),(8,⟨35,true,.one (mC r r m)⟩),(9,⟨49,true,.one [.frac (2^e)]⟩),(19,⟨49,true,.one [.frac (2^j)]⟩)]) e ?_ ?_ ?_
 ·kernel_rfl
 ·exact⟨0,e,rfl,aa,rfl,rfl⟩
 rintro j _ _ ⟨i,_,rfl,KG,rfl,rfl⟩;have t1:decide ((i:Int)<400)=true:=decide_eq_true aa;have k4:=kc j aa;by_cases hj:j=0
 ·subst hj;have hi:i=e:=aa;have t2:decide ((((2:Rat)^0 - 1).num.sign)>0)=false:=by decide+kernel
  have q0:(2:Rat)^0=1:=by decide+kernel
  have t3:(!decide (((2:Rat)^0)=1))=false:=by rw[q0];decide
  by_cases Xr:e=0
  ·have t4:decide (((2:Rat)^e)=1)=true:=by rw[Xr];exact decide_eq_true q0
   clear kc kd wx;conv=>whnf
   (repeat((first|refine ae rfl rfl ?_|refine aq aD ?_|refine aN aJ ?_|refine an er ?_|refine ay t1 ?_|refine aG t2 ?_|refine ay t4 ?_|refine⟨_,bV aH cd rfl (ai rfl) (ai rfl) rfl rfl rfl rfl (cQ _ _) b8, ?_⟩|refine⟨_,fE aH cd rfl (ai rfl) (ai rfl) rfl rfl rfl rfl (cQ _ _) b8, ?_⟩|rw[t1]);conv=>whnf));exact Q4
  ·obtain⟨f,hef,jh,k5,k6,s1,s2⟩:=wx Xr;have k7:=kd f aa;rw[<-hef]at k7;have k8:=pK ((2:Rat)^f);have t4:decide (((2:Rat)^e)=1)=false:=decide_eq_false λh=>by
    rw[hef,ace]at h;have:=SD f;grind
   clear kc kd wx;generalize aB r a m (-(2^f))=F1 at*;generalize aB r a m (2^f)=F2 at*;have w1:ε.wrap (((F1.m:Nat):Int)+((F2.p:Nat):Int))=((F1.m+F2.p:Nat):Int):=by rw[wrap_i64 aa aa];omega
   have t5:decide (((F1.m+F2.p:Nat):Int)>0)=true:=decide_eq_true aa;conv=>whnf
   (repeat((first|refine ae rfl rfl ?_|refine aq aD ?_|refine aN aJ ?_|refine an er ?_|refine ay t1 ?_|refine aG t2 ?_|refine aG t4 ?_|refine ay t5 ?_|refine⟨_,bV aH cd rfl (ai rfl) (ai rfl) rfl rfl rfl rfl (cQ _ _) b8, ?_⟩|refine⟨_,fE aH cd rfl (ai rfl) (ai rfl) rfl rfl rfl rfl (cQ _ _) b8, ?_⟩|rw[t1]|rw[t2]|rw[t3]|rw[t4]|rw[w1]|rw[t5]);conv=>whnf));exact Q4
 ·obtain⟨q,rfl⟩:∃q,j=q+1:=⟨j - 1,aa⟩;have k5:=kd q aa;have t2:decide ((((2:Rat)^(q+1) - 1).num.sign)>0)=true:=by
   have h1:(0:Rat)<2^(q+1) - 1:=by
    rw[ace];have:=SD q;grind
   rw[HE h1];rfl
  have t3:=bW (i:=i) aa;clear kc kd wx;conv=>whnf
  (repeat((first|refine aq aD ?_|refine aN aJ ?_|refine an er ?_|refine ay t1 ?_|refine ay t2 ?_|rw[t1]|rw[t2]|rw[t3]);conv=>whnf))
  exact⟨q,λk=>k,[7,8,9,19,20],[7,8,9,19],aa,aD,i+1,q,rfl,aa,rfl,rfl⟩
theorem rM (a0 a1:List (Int×Int)) (a2:Int) (w0:yg a0) (w1:yg a1) (w2:(Ϸ .u8 a2).wf=true):
  C0 8 [bN 2 qA a0,bN 2 qA a1,gB .u8 a2] (.val (.bool true)):=
 SE a0 a1 a2 ⟨w0.1,gF w0⟩ ⟨w1.1,gF w1⟩ (wf_u8 w2)
theorem p9 {n:Nat} {a v:List Rat} (hv:v.length=n):gH n n a v v=qf n (el a n) λi=>v.getD i 0:=Qy hv
theorem zt {n A D:Nat} {a v:List Rat} (hn:n<=5) (ha:a.length=n*n) (hv:v.length=n) (sa:Sm A a) (sv:Sm D v):fs (gH n n a v v)<=2+5*(2+5*(2*D+A)):=by
 rw[p9 hv];have h1:=pQ (f:=λi=>aj n λk=>v.getD i 0*el a n i k*v.getD k 0) (B:=2+5*(2*D+A)) n λi hi=>by
  have h2:=pQ (f:=λk=>v.getD i 0*el a n i k*v.getD k 0) (B:=2*D+A) n λk hk=>by
   have g1:=cH (v.getD i 0*el a n i k) (v.getD k 0);have g2:=cH (v.getD i 0) (el a n i k);have g3:=eM sa ha hi hk;have g4:=sv i aa;have g5:=sv k aa;omega
  have h3:=ο (2*D+A) hn;exact Ι h2 aa
 have h3:=ο (2+5*(2*D+A)) hn;exact Ι h1 aa
section
variable {n B C D:Nat} {a m v:List Rat} (h:nk n B C a m) (h2:2<=C) (hC:C<=80000) (hv:v.length=n) (sv:Sm D v) (hB:B<=80000) (hD:D<=10000000)
include h h2 hC hv sv hB hD
theorem nk.Zr:C0 58 [mA n n a,bx v,bx v] (.bQ [.frac (gH n n a v v),iv 0])/\C0 58 [mA n n m,bx v,bx v] (.bQ [.frac (gH n n m v v),iv 0]):=
 ⟨xq 5 h.ka hv hv h.za sv sv h.n5 h.n5 aa aa,xq 5 h.km hv hv h.zm sv sv h.n5 h.n5 aa aa⟩
theorem nk.quot (a8:∃i,i<n/\v.getD i 0≠0):C0 15 [mA n n a,mA n n m,bx v] (.bQ [.frac (gH n n a v v/gH n n m v v),iv 0]):=by
 obtain⟨k1,k2⟩:=h.Zr h2 hC hv sv hB hD;refine HK (h.ok h2 hC) k1 k2 (λe=> ?_) ?_
 ·have:=h.pos _ a8;rw[<-p9 hv,e]at this;exact absurd this ax
 ·have g1:=zt h.n5 h.oa hv h.za sv;have g2:=zt h.n5 h.om hv h.zm sv;omega
theorem nk.Zs (hz:∀i,i<n->v.getD i 0=0):C0 15 [mA n n a,mA n n m,bx v] (.bQ [.frac 0,iv 5]):=by
 obtain⟨k1,k2⟩:=h.Zr h2 hC hv sv hB hD;rw[show gH n n m v v=0 from by rw[p9 hv];exact we hz]at k2;exact LU (h.ok h2 hC) k1 k2
end
