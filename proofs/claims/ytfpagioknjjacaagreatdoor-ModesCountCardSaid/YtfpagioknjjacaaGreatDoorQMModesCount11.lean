/- The texts Xt. -/
import Derived.Test.YtfpagioknjjacaaGreatDoorQMModesCount8
import Derived.Test.YtfpagioknjjacaaGreatDoorQMModesCount9
import Derived.Test.YtfpagioknjjacaaGreatDoorQMModesCount10
import Derived.Test.YtfpagioknjjacaaGreatDoorQMModesCount7
namespace Go.Proofs.YtfpagioknjjacaaGreatDoor
open Go.Sx
set_option linter.unusedSimpArgs false
set_option linter.unusedVariables false
set_option maxRecDepth 100000
set_option maxHeartbeats 40000000
theorem RA {r c i k:Nat} (hr:r≤6) (hc:c≤6) (hi:i<r) (hk:k<c):IntKind.i64.wrap ((i:Int)*(c:Int))=((i*c:Nat):Int)∧IntKind.i64.wrap (((i*c:Nat):Int)+(k:Int))=((i*c+k:Nat):Int):=by
 exact pe (i:=i) (k:=k) (c:=c) aa aa aa
theorem A9 {n B:Nat} {a:List Rat} (ha:ot n n a) (sa:Sm B a) (hn:n≤6) (hB:B≤4000):af Tryz.prog 34 [mA n n a] [] (bX 1 lG (bs n n a)) [] []:=by
 have lz:=iQ n n a
 refine qU [1] Tryz.func34 ?_
 intro w0 ρ0 hE
 conv=>whnf
 skip
 refine dU (t:=3) (k:=2001) (s:=1) (blk:=EX []) rfl rfl rfl ?_
 refine cn hE (fun k=>k) [1,3,4] [2001] (fun m fr hp=>∃i:Nat,m=n - i∧i≤n∧fr=[(1,cx (mC n n a)),(3,.aK 2001 1 0 i),(4,iv (i:Nat))]∧hp=[(2001,EX ((bs n n a).take i))]) n ?_ ?_ ?_
 ·kernel_rfl
 ·exact⟨0,rfl,Nat.zero_le _,rfl,rfl⟩
 rintro m _ _ ⟨i,rfl,hi,rfl,rfl⟩
 have Rz:(((bs n n a).take i).map lG).length=i:=by rw[List.length_map,List.length_take];omega
 by_cases aI:i<n
 ·have t1:=jD aI
  have t2:=cp (i:=i) aa
  have hrl:=fg (c:=n) aI ha.n
  have aca:=hrl
  rw[List.length_take]at aca
  have e3:=A8 (l:=bs n n a) (i:=i) aa
  rw[mU aI]at e3
  refine dG.of hE ?_
  conv=>whnf
  (repeat((first|refine aN t1 ?_|refine aC Q6 ?_|refine aC Q9 ?_|rw[t1]);conv=>whnf))
  refine dU (t:=5) (k:=2002) (s:=3) (blk:=fS []) rfl rfl rfl ?_
  refine cn hE (fun k=>k) [1,3,4,5,6] [2001,2002] (fun m fr hp=>∃k:Nat,m=n - k∧k≤n∧fr=[(1,cx (mC n n a)),(3,.aK 2001 1 0 i),(4,iv (i:Nat)),(5,.aK 2002 3 0 k),(6,iv (k:Nat))]∧
   hp=[(2001,EX ((bs n n a).take i)),(2002,fS ((mT a n i).take k))]) n ?_ ?_ ?_
  ·kernel_rfl
  ·exact⟨0,rfl,Nat.zero_le _,rfl,rfl⟩
  rintro m _ _ ⟨k,rfl,hk,rfl,rfl⟩
  have ah3:(((mT a n i).take k).map fF).length=k:=by rw[List.length_map,List.length_take];omega
  by_cases hlk:k<n
  ·have t4:=jD hlk
   have t5:=cp (i:=k) aa
   obtain⟨w1,w2⟩:=RA hn hn aI hlk
   have hx:i*n+k<a.length:=by rw[ha.n];exact eH aI hlk
   have hq:=jE sa ha.n aI hlk
   have e4:=qk (z:=mT a n i) (i:=k) aa
   rw[jx hlk,el]at e4
   unfold el at hq
   have o1:=CH (a.getD (i*n+k) 0) aa
   have o2:=NK (a.getD (i*n+k) 0) aa
   generalize tQ (a.getD (i*n+k) 0)=s at*
   refine dG.of hE ?_
   conv=>whnf
   (repeat((first|refine av Q3 ?_|refine a8 (by assumption) ?_|refine aN t4 ?_|refine aC Q6 ?_|refine aC Q18 ?_|refine aC Q9 ?_|rw[w1]|rw[w2]|rw[t4]|rw[t5]|rw[Int.toNat_natCast]);conv=>whnf))
   refine⟨n - (k+1),dc [(39,2002)],[1,3,4,5,6],[2001,39],aa,aF,k+1,rfl,hlk,rfl, ?_⟩
   rw[e4];rfl
  ·have t4:=jP hlk
   obtain rfl:k=n:=aa
   rw[List.take_of_length_le (l:=mT a k i) aa]
   refine gC 5 2002 (fun _ h=>h) (fun _=>rfl) rfl rfl hrl.symm ?_
   refine dG.of hE ?_
   conv=>whnf
   (repeat((first|refine av Q3 ?_|refine aW t4 ?_|refine aC Q6 ?_|refine aC Q9 ?_|rw[t4]|rw[t2]);conv=>whnf))
   refine⟨k - (i+1),dc [(43,2001)],[1,3,4],[43],aa,aF,i+1,rfl,aI,rfl, ?_⟩
   rw[e3];rfl
 ·have t1:=jP aI
  obtain rfl:i=n:=aa
  rw[List.take_of_length_le aa]
  refine dG.of hE ?_
  conv=>whnf
  (repeat(first|(refine aW t1 ?_;conv=>whnf)|(refine aC Q6 ?_;conv=>whnf)|(refine aC Q9 ?_;conv=>whnf)))
  (first|exact aq.refl _|exact ov.nx (aq.refl _) rfl|(refine ov.one rfl rfl ?_;(repeat(first|(refine dM.seq rfl (by first|rfl|(apply bT;intro _;rfl)) ?_;(first|rfl|omega|(simp<;>fail)|(simp<;>omega))))))|(refine ov.cC ?_;skip))
def xK (n:Nat) (a m:List Rat) (k:Nat):List Rat:=mk n n fun i j=>el a n i j+qI k*el m n i j
def dK (n:Nat) (a m:List Rat) (k:Nat):Rat:=bD n (el (xK n a m k) n)
theorem U3 {n B C:Nat} {a m:List Rat} (ha:a.length=n*n) (hm:m.length=n*n) (sa:Sm B a) (sm:Sm C m) {k:Nat} (hk:k≤8):Sm (B+(130+C)) (xK n a m k):=Mb fun i j hi hj=>by
 have h1:=jE sa ha hi hj
 have h2:=jE sm hm hi hj
 have h3:=iH (el a n i j) (qI k*el m n i j)
 have h4:=cT (qI k) (el m n i j)
 have h5:∀k:Nat,k<9→fs (qI k)≤130:=by decide+kernel
 have h6:=h5 k aa
 omega
theorem pS4 {n B:Nat} (hn:n≤4) (hB:B≤1600):pS n B n≤544682:=by
 have h1:pS n B n≤pS 4 1600 4:=by
  have mono:∀m,pS n B m≤pS 4 1600 m:=fun m=>by
   induction m with
   |zero=>exact Nat.le_refl _
   |succ m ih=>exact Nat.add_le_add_left (Nat.mul_le_mul hn (Nat.add_le_add hB ih)) 2
  refine Nat.le_trans (mono n) ?_
  obtain rfl|rfl|rfl|rfl|rfl:n=0∨n=1∨n=2∨n=3∨n=4:=aa
  all_goals decide
 exact Nat.le_trans h1 aH
theorem U4 {n B C:Nat} {a m:List Rat} (ha:a.length=n*n) (hm:m.length=n*n) (sa:Sm B a) (sm:Sm C m) {k:Nat} (hk:k≤8) (hn:n≤4) (hB:B+(130+C)≤1600):fs (dK n a m k)≤544682:=by
 have h:=sY (n:=n) (a:=xK n a m k) (kU ..) (U3 ha hm sa sm hk) n 0 [] (Nat.zero_add n)
 rw[AF]at h
 exact Nat.le_trans h (pS4 hn hB)
theorem U5 {j k:Nat} (hj:j<5) (hk:k<5):fs (qI j/qI ((j:Int) - k))≤130∧fs (qI 1/qI ((j:Int) - k))≤130:=by
 have:∀j:Nat,j<5→∀k:Nat,k<5→fs (qI j/qI ((j:Int) - k))≤130∧fs (qI 1/qI ((j:Int) - k))≤130:=by decide+kernel
 exact this j hj k hk
theorem G1 {k:Nat} {d:Rat} {T:Nat} (hk:k<5) (hd:fs d+262≤T):∀j,j≤5→Sm (2^(if k<j then j - 1 else j)*T - 262) (uE k d j)
 |0,_=>fun i hi=>by
  have:i=0:=by simpa [uE]using hi
  subst this
  rw[uE,if_neg (Nat.not_lt_zero _)]
  show fs d≤_
  omega
 |j+1,h=>by
  have ih:=G1 hk hd j aa
  rw[uE]
  by_cases e:j=k
  ·subst e
   rw[if_neg (Nat.lt_irrefl _)]at ih
   rw[if_pos rfl,if_pos (Nat.lt_succ_self _),Nat.add_sub_cancel]
   exact ih
  ·rw[if_neg e]
   obtain⟨f1,f2⟩:=U5 (j:=j) (k:=k) aa hk
   have s1:=GS ih f1 f2
   have hT:262≤T:=aa
   have hp:∀x:Nat,2*(2^x*T - 262)+2*130+2≤2^(x+1)*T - 262:=fun x=>by
    have:T≤2^x*T:=Nat.le_mul_of_pos_left _ (Nat.pow_pos aH)
    rw[Nat.pow_succ,Nat.mul_comm _ 2,Nat.mul_assoc]
    omega
   by_cases g:k<j
   ·rw[if_pos g]at s1
    rw[if_pos aa]
    obtain⟨x,rfl⟩:∃x,j=x+1:=⟨j - 1,aa⟩
    exact HF (hp x) s1
   ·rw[if_neg g]at s1
    rw[if_neg aa]
    exact HF (hp j) s1
theorem wH (o p:List Rat):∀i j,i≤o.length→(AT o p i).getD j 0=if j<i then o.getD j 0+p.getD j 0 else o.getD j 0
 |0,j,_=>by rw[AT,if_neg (Nat.not_lt_zero _)]
 |i+1,j,h=>by
  rw[AT,eu,sN,wH o p i i aa,if_neg (Nat.lt_irrefl _),wH o p i j aa]
  by_cases e:i=j
  ·subst e
   rw[if_pos ⟨rfl,aa⟩,if_pos (Nat.lt_succ_self _)]
  ·rw[if_neg fun g=>e g.1]
   by_cases g:j<i
   ·rw[if_pos g,if_pos aa]
   ·rw[if_neg g,if_neg aa]
theorem G2 {n T:Nat} {D:Nat→Rat} (hn:n≤4) (hD:∀k,k<n+1→fs (D k)+262≤T):∀k,k≤n+1→Sm (2+k*(16*T)) (vN n D k)
 |0,_=>fun j _=>by rw[vN,iO,eh];omega
 |k+1,h=>fun j hj=>by
  have ih:=G2 hn hD k aa
  have hl:=nS n D k
  rw[nS]at hj
  have sg:=G1 (k:=k) aa (hD k aa) (n+1) aa
  rw[if_pos aa,Nat.add_sub_cancel]at sg
  have l2:(uE k (D k) (n+1)).length=n+1:=by rw[sM,if_pos aa]
  rw[vN,wH _ _ _ _ aa,if_pos hj]
  have g1:=ih j aa
  have g2:=sg j aa
  have g3:=iH ((vN n D k).getD j 0) ((uE k (D k) (n+1)).getD j 0)
  have g4:2^n*T≤16*T:=Nat.mul_le_mul_right T (Nat.pow_le_pow_right aH hn)
  rw[Nat.succ_mul]
  omega
theorem NY {n B C:Nat} {a m:List Rat} (ha:ot n n a) (hm:ot n n m) (sa:Sm B a) (sm:Sm C m) (hn:n≤4) (hB:B+(130+C)≤1600):
  af Tryz.prog 36 [bX 1 lG (bs n n a),bX 1 lG (bs n n m)] [] (lG (vN n (dK n a m) (n+1))) [] []:=by
 have la:=iQ n n a
 have lm:=iQ n n m
 have t0:IntKind.i64.wrap ((n:Int)+1)=((n+1:Nat):Int):=by rw[wrap_i64 aa aa];omega
 have lL:=nS n (dK n a m)
 have hDs:=fun k (hk:k<n+1)=>U4 ha.n hm.n sa sm (k:=k) aa hn hB
 have sL:=G2 (T:=544944) (D:=dK n a m) hn (fun k hk=>Nat.add_le_add_right (hDs k hk) 262)
 have kx:=fun k (hk:k<n+1)=>afW (a:=xK n a m k) (kU ..) (U3 ha.n hm.n sa sm (k:=k) aa) (show n≤5 by omega) aa
 have sG:=fun k (hk:k<n+1)=>G1 (k:=k) (d:=dK n a m k) (T:=544944) aa (Nat.add_le_add_right (hDs k hk) 262)
 have e0:=iQ n n
 refine qU [63] Tryz.func36 ?_
 intro w0 ρ0 hE
 conv=>whnf
 (repeat((first|refine av Q3 ?_|refine aC Q7 ?_|rw[la]|rw[t0]|rw[Int.toNat_natCast]);conv=>whnf))
 refine qO 20 ((List.replicate (n+1) (0:Rat)).map fF) rfl (CI _) (fun x hx=>by rw[List.map_replicate]at hx;rw[(List.mem_replicate.1 hx).2];rfl) (fun h=>by cases h) ?_
 refine cn hE (dc [(20,2001)]) [0,1,5,6,7] [20] (fun q fr hp=>∃k:Nat,q=n+1 - k∧k≤n+1∧fr=[(0,bX 1 lG (bs n n a)),(1,bX 1 lG (bs n n m)),(5,iv (n:Nat)),(6,.aK 2001 3 0 (n+1)),(7,iv (k:Nat))]∧
  hp=[(2001,fS (vN n (dK n a m) k))]) (n+1) ?_ ?_ ?_
 ·kernel_rfl
 ·exact⟨0,rfl,Nat.zero_le _,rfl,rfl⟩
 rintro q _ _ ⟨k,rfl,hk,rfl,rfl⟩
 by_cases p9:k<n+1
 ·have t1:decide ((k:Int)≤(n:Int))=true:=decide_eq_true aa
  have t2:=cp (i:=k) aa
  have kI:=nW (k:Int) aa aa
  have kD:=kx k p9
  rw[show bD n (el (xK n a m k) n)=dK n a m k from rfl]at kD
  have sD:=hDs k p9
  have sg:=sG k p9
  have sLk:=sL k hk
  have lLk:=lL k
  have lX:=iQ n n (xK n a m k)
  have hXl:(xK n a m k).length=n*n:=kU ..
  have mj:fs (qI k)≤130:=by
   have h5:∀k:Nat,k<9→fs (qI k)≤130:=by decide+kernel
   exact h5 k aa
  have cb:vN n (dK n a m) (k+1)=AT (vN n (dK n a m) k) (uE k (dK n a m k) (n+1)) (n+1):=rfl
  clear kx hDs sG sL lL
  refine dG.of hE ?_
  conv=>whnf
  (repeat(first|(refine aN t1 ?_;conv=>whnf)|(rw[t1];conv=>whnf)))
  refine dU (t:=8) (k:=2002) (s:=1) (blk:=EX []) rfl rfl rfl ?_
  refine cn hE (fun k=>k) [0,1,5,6,7,8,9] [2001,2002] (fun q fr hp=>∃i:Nat,q=n - i∧i≤n∧fr=[(0,bX 1 lG (bs n n a)),(1,bX 1 lG (bs n n m)),(5,iv (n:Nat)),(6,.aK 2001 3 0 (n+1)),(7,iv (k:Nat)),(8,.aK 2002 1 0 i),(9,iv (i:Nat))]∧
   hp=[(2001,fS (vN n (dK n a m) k)),(2002,EX ((bs n n (xK n a m k)).take i))]) n ?_ ?_ ?_
  ·kernel_rfl
  ·exact⟨0,rfl,Nat.zero_le _,rfl,rfl⟩
  rintro q _ _ ⟨i,rfl,hi,rfl,rfl⟩
  have Rz:(((bs n n (xK n a m k)).take i).map lG).length=i:=by rw[List.length_map,List.length_take];omega
  by_cases oJ:i<n
  ·have t3:=jD oJ
   have t4:=cp (i:=i) aa
   have hrl:=fg (c:=n) oJ hXl
   have aca:=hrl
   rw[List.length_take]at aca
   have e3:=A8 (l:=bs n n (xK n a m k)) (i:=i) aa
   rw[mU oJ]at e3
   have ea:=mU (c:=n) (a:=a) oJ
   have em:=mU (c:=n) (a:=m) oJ
   have lra:=fg (c:=n) oJ ha.n
   have lrm:=fg (c:=n) oJ hm.n
   refine dG.of hE ?_
   conv=>whnf
   (repeat(first|(refine aN t3 ?_;conv=>whnf)|(rw[t3];conv=>whnf)))
   refine dU (t:=10) (k:=2003) (s:=3) (blk:=fS []) rfl rfl rfl ?_
   refine cn hE (fun k=>k) [0,1,5,6,7,8,9,10,11] [2001,2002,2003] (fun q fr hp=>∃j:Nat,q=n - j∧j≤n∧fr=[(0,bX 1 lG (bs n n a)),(1,bX 1 lG (bs n n m)),(5,iv (n:Nat)),(6,.aK 2001 3 0 (n+1)),(7,iv (k:Nat)),(8,.aK 2002 1 0 i),(9,iv (i:Nat)),(10,.aK 2003 3 0 j),(11,iv (j:Nat))]∧
    hp=[(2001,fS (vN n (dK n a m) k)),(2002,EX ((bs n n (xK n a m k)).take i)),(2003,fS ((mT (xK n a m k) n i).take j))]) n ?_ ?_ ?_
   ·kernel_rfl
   ·exact⟨0,rfl,Nat.zero_le _,rfl,rfl⟩
   rintro q _ _ ⟨j,rfl,hj,rfl,rfl⟩
   have ah3:(((mT (xK n a m k) n i).take j).map fF).length=j:=by rw[List.length_map,List.length_take];omega
   by_cases FF:j<n
   ·have t5:=jD FF
    have t6:=cp (i:=j) aa
    have ga:((bs n n a).getD i []).getD j 0=el a n i j:=by rw[ea];exact jx FF
    have gm:((bs n n m).getD i []).getD j 0=el m n i j:=by rw[em];exact jx FF
    have gla:((bs n n a).getD i []).length=n:=by rw[ea,lra]
    have glm:((bs n n m).getD i []).length=n:=by rw[em,lrm]
    have f1:=jE sa ha.n oJ FF
    have f2:=jE sm hm.n oJ FF
    have f3:=cT (qI k) (el m n i j)
    have o1:=wE (qI k) (el m n i j) aa
    have o2:=pT (el a n i j) (qI k*el m n i j) aa
    rw[show el a n i j+qI k*el m n i j=el (xK n a m k) n i j from by rw[xK,r8 oJ FF]]at o2
    rw[←ga]at o2
    rw[←gm]at o1 o2
    have e4:=qk (z:=mT (xK n a m k) n i) (i:=j) aa
    rw[jx FF]at e4
    have QE:i<(bs n n a).length:=aa
    have him:i<(bs n n m).length:=aa
    refine dG.of hE ?_
    conv=>whnf
    (repeat((first|refine aB aF ?_|refine av Q3 ?_|refine a8 (by assumption) ?_|refine aN t5 ?_|refine aC An ?_|refine aC Q6 ?_|refine aC Kk ?_|rw[t5]|rw[t6]);conv=>whnf))
    refine⟨n - (j+1),dc [(56,2003)],[0,1,5,6,7,8,9,10,11],[2001,2002,56],aa,aF,j+1,rfl,FF,rfl, ?_⟩
    rw[e4];rfl
   ·have t5:=jP FF
    obtain rfl:j=n:=aa
    rw[List.take_of_length_le (l:=mT (xK j a m k) j i) aa]
    refine gC 10 2003 (fun _ h=>h) (fun _=>rfl) rfl rfl hrl.symm ?_
    refine dG.of hE ?_
    conv=>whnf
    (repeat((first|refine av Q3 ?_|refine aW t5 ?_|rw[t5]|rw[t4]);conv=>whnf))
    refine⟨j - (i+1),dc [(60,2002)],[0,1,5,6,7,8,9],[2001,60],aa,aF,i+1,rfl,oJ,rfl, ?_⟩
    rw[e3];rfl
  ·have t3:=jP oJ
   obtain rfl:i=n:=aa
   rw[List.take_of_length_le (l:=bs i i (xK i a m k)) aa]
   refine gC 8 2002 (fun _ h=>h) (fun _=>rfl) rfl rfl lX.symm ?_
   refine dG.of hE ?_
   conv=>whnf
   (repeat(first|(refine a8 (by assumption) ?_;conv=>whnf)|(refine aW t3 ?_;conv=>whnf)|(rw[t3];conv=>whnf)))
   clear kD Rz hi t3 oJ hXl lX
   refine cn hE (fun k=>k) [0,1,5,6,7,12,13] [2001] (fun q fr hp=>∃j:Nat,q=i+1 - j∧j≤i+1∧fr=[(0,bX 1 lG (bs i i a)),(1,bX 1 lG (bs i i m)),(5,iv (i:Nat)),(6,.aK 2001 3 0 (i+1)),(7,iv (k:Nat)),(12,lG (uE k (dK i a m k) j)),(13,iv (j:Nat))]∧
    hp=[(2001,fS (vN i (dK i a m) k))]) (i+1) ?_ ?_ ?_
   ·kernel_rfl
   ·exact⟨0,rfl,Nat.zero_le _,rfl,rfl⟩
   rintro q _ _ ⟨j,rfl,hj,rfl,rfl⟩
   by_cases vH:j<i+1
   ·have t3:decide ((j:Int)≤(i:Int))=true:=decide_eq_true aa
    have t4:=cp (i:=j) aa
    by_cases C8:j=k
    ·have t5:((j:Int) != (k:Int))=false:=by rw[C8];exact bne_self_eq_false _
     have hg:uE k (dK i a m k) (j+1)=uE k (dK i a m k) j:=by rw[uE,if_pos C8]
     refine dG.of hE ?_
     conv=>whnf
     (repeat((first|refine aN t3 ?_|refine aW t5 ?_|rw[t3]|rw[t5]|rw[t4]);conv=>whnf))
     refine⟨i+1 - (j+1),fun k=>k,[0,1,5,6,7,12,13],[2001],aa,aF,j+1,rfl,vH, ?_,rfl⟩
     rw[hg];rfl
    ·have t5:((j:Int) != (k:Int))=true:=bne_iff_ne.2 aa
     have w1:IntKind.i64.wrap ((j:Int) - (k:Int))=(j:Int) - k:=wrap_i64 aa aa
     have hg:uE k (dK i a m k) (j+1)=GI (uE k (dK i a m k) j) (qI j/qI ((j:Int) - k)) (qI 1/qI ((j:Int) - k)):=by rw[uE,if_neg C8]
     obtain⟨f1,f2⟩:=U5 (j:=j) (k:=k) aa aa
     have a7:qI ((j:Int) - k)≠0:=by rw[GJ];exact nat_ne C8
     have ou:fs (qI ((j:Int) - k))≤130:=by
      have h5:∀j:Nat,j<5→∀k:Nat,k<5→fs (qI ((j:Int) - k))≤130:=by decide+kernel
      exact h5 j aa k aa
     have hfj:fs (qI j)≤130:=by
      have h5:∀k:Nat,k<9→fs (qI k)≤130:=by decide+kernel
      exact h5 j aa
     have hf1:fs (qI 1)≤130:=by decide+kernel
     have o1:=nW ((j:Int) - k) aa aa
     have o2:=nW (j:Int) aa aa
     have o3:=nW 1 aH aH
     have o4:=GO (qI j) (qI ((j:Int) - k)) a7 aa
     have o5:=GO (qI 1) (qI ((j:Int) - k)) a7 aa
     have sj:=sg j aa
     have BK:2^(if k<j then j - 1 else j)*544944≤16*544944:=Nat.mul_le_mul_right _ (Nat.pow_le_pow_right (n:=2) aH (show(if k<j then j - 1 else j)≤4 by split<;>omega))
     have o6:=A3 (a:=qI j/qI ((j:Int) - k)) (b:=qI 1/qI ((j:Int) - k)) (by rw[sM];split<;>omega) sj f1 f2 aa
     rw[←hg]at o6
     clear BK sj f1 f2 ou hfj hf1
     refine dG.of hE ?_
     conv=>whnf
     (repeat((first|refine aB aF ?_|refine a8 (by assumption) ?_|refine aN t3 ?_|refine aN t5 ?_|rw[t3]|rw[t5]|rw[w1]|rw[t4]);conv=>whnf))
     exact⟨i+1 - (j+1),fun k=>k,[0,1,5,6,7,12,13],[2001],aa,aF,j+1,rfl,vH,rfl,rfl⟩
   ·obtain rfl:j=i+1:=aa
    have t3:decide (((i+1:Nat):Int)≤(i:Int))=false:=decide_eq_false aa
    have lP:(uE k (dK i a m k) (i+1)).length=i+1:=by rw[sM,if_pos p9]
    have sP:=sg (i+1) aa
    rw[if_pos p9,Nat.add_sub_cancel]at sP
    have BK:2^i*544944≤16*544944:=Nat.mul_le_mul_right _ (Nat.pow_le_pow_right (n:=2) aH hn)
    generalize uE k (dK i a m k) (i+1)=Pl at*
    generalize vN i (dK i a m) k=Q at*
    refine dG.of hE ?_
    conv=>whnf
    (repeat(first|(refine aW t3 ?_;conv=>whnf)|(rw[t3];conv=>whnf)))
    refine cn hE (fun k=>k) [0,1,5,6,7,12,15] [2001] (fun q fr hp=>∃j:Nat,q=i+1 - j∧j≤i+1∧fr=[(0,bX 1 lG (bs i i a)),(1,bX 1 lG (bs i i m)),(5,iv (i:Nat)),(6,.aK 2001 3 0 (i+1)),(7,iv (k:Nat)),(12,lG Pl),(15,iv (j:Nat))]∧
     hp=[(2001,fS (AT Q Pl j))]) (i+1) ?_ ?_ ?_
    ·kernel_rfl
    ·exact⟨0,rfl,Nat.zero_le _,rfl,rfl⟩
    rintro q _ _ ⟨j,rfl,UT,rfl,rfl⟩
    have lA:=sN Q Pl j
    by_cases hji2:j<i+1
    ·have t4:decide ((j:Int)≤(i:Int))=true:=decide_eq_true aa
     have t6:=cp (i:=j) aa
     have g0:=wH Q Pl j j aa
     rw[if_neg (Nat.lt_irrefl _)]at g0
     have g1:=sLk j aa
     have g2:=sP j aa
     have o1:=pT ((AT Q Pl j).getD j 0) (Pl.getD j 0) (by rw[g0];omega)
     have e1:=Rp (l:=AT Q Pl j) (i:=j) aa
     have lm2:((AT Q Pl j).map fF).length=i+1:=by rw[List.length_map];omega
     have u1:0+(j:Int).toNat=j:=aa
     have hjP:j<Pl.length:=aa
     have Km:fS (AT Q Pl (j+1))=⟨81,true,.seq 3 (((AT Q Pl j).map fF).set j (fF ((AT Q Pl j).getD j 0+Pl.getD j 0)))⟩:=by rw[fS,AT,List.map_set]
     refine dG.of hE ?_
     conv=>whnf
     (repeat((first|refine aB aF ?_|refine bg Q3 ?_|refine av Q3 ?_|refine a8 (by assumption) ?_|refine aN t4 ?_|refine aC An ?_|refine aC Q6 ?_|refine sU rfl (ak rfl) (ak rfl) rfl (dJ rfl) (congrArg (fun c=>some (some _,[c])) e1) aa rfl (Nat.le_refl _) rfl rfl ?_|rw[t4]|rw[u1]|rw[e1]|rw[t6]);conv=>whnf))
     refine⟨i+1 - (j+1),fun k=>k,[0,1,5,6,7,12,15],[2001],aa,aF,j+1,rfl,hji2,rfl, ?_⟩
     rw[Km];rfl
    ·obtain rfl:j=i+1:=aa
     have t4:decide (((i+1:Nat):Int)≤(i:Int))=false:=decide_eq_false aa
     refine dG.of hE ?_
     conv=>whnf
     (repeat(first|(refine aW t4 ?_;conv=>whnf)|(rw[t4];conv=>whnf)|(rw[t2];conv=>whnf)))
     refine⟨i+1 - (k+1),fun k=>k,[0,1,5,6,7],[2001],aa,aF,k+1,rfl,p9,rfl, ?_⟩
     rw[cb];rfl
 ·obtain rfl:k=n+1:=aa
  have t1:decide (((n+1:Nat):Int)≤(n:Int))=false:=decide_eq_false aa
  refine gC 6 2001 (fun _ h=>h) (fun _=>rfl) rfl rfl (lL _).symm ?_
  refine dG.of hE ?_
  conv=>whnf
  (repeat(first|(refine aW t1 ?_;conv=>whnf)));exact Q4
end Go.Proofs.YtfpagioknjjacaaGreatDoor
