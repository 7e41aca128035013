/- The texts Xt. -/
import Derived.Test.YtadphegfhgmgmaaGreatDoorQMModesKnown33
import Derived.Test.YtadphegfhgmgmaaGreatDoorQMModesKnown34
import Derived.Test.YtadphegfhgmgmaaGreatDoorQMModesKnown22
import Derived.Test.YtadphegfhgmgmaaGreatDoorQMModesKnown6
set_option linter.unusedSimpArgs false
set_option linter.unusedVariables false
set_option maxHeartbeats 40000000
set_option maxRecDepth 100000
open Go.IntKind renaming i64->ε
open Int renaming toNat_natCast->ι
open List renaming length_map->Χ,length_take->ψ,take_of_length_le->ϛ
open Nat renaming add_le_add_right->akM,add_sub_cancel->aeN,le_refl->ζ,le_trans->Ι,lt_irrefl->afU,lt_succ_self->gq,mul_le_mul_right->ο,not_lt_zero->abe,pow_le_pow_right->ύ,zero_le->Γ
namespace Go.Proofs.YtadphegfhgmgmaaGreatDoor
open Go.Sx
theorem XL {r c i k:Nat} (hr:r<=6) (hc:c<=6) (hi:i<r) (hk:k<c):ε.wrap ((i:Int)*(c:Int))=((i*c:Nat):Int)/\ε.wrap (((i*c:Nat):Int)+(k:Int))=((i*c+k:Nat):Int):=by
 exact rD (i:=i) (k:=k) (c:=c) aa aa aa
theorem DL {n B:Nat} {a:List Rat} (ha:fa n n a) (sa:Sm B a) (hn:n<=6) (hB:B<=4000):C0 19 [mA n n a] (bN 1 nC (bD n n a)):=by
 have lz:=jU n n a;refine kg [1] Tryz.func19 ?_;intro w0 ρ0 hE;conv=>whnf
 skip
 refine dD (t:=3) (k:=2001) (s:=1) (blk:=Hq []) rfl rfl rfl ?_;refine cG hE (λk=>k) [1,3,4] [2001] (λm fr hp=>∃i:Nat,m=n - i/\i<=n/\fr=[(1,b9 (mC n n a)),(3,.aM 2001 1 0 i),(4,iv (i:Nat))]/\hp=[(2001,Hq ((bD n n a).take i))]) n ?_ ?_ ?_
 ·kernel_rfl
 ·exact⟨0,rfl,Γ _,rfl,rfl⟩
 rintro m _ _ ⟨i,rfl,hi,rfl,rfl⟩;have Wt:(((bD n n a).take i).map nC).length=i:=by rw[Χ,ψ];omega
 by_cases aE:i<n
 ·have t1:=gZ aE;have t2:=bW (i:=i) aa;have YP:=gI (c:=n) aE ha.n;have acH:=YP;rw[ψ]at acH;have e3:=Dr (l:=bD n n a) (i:=i) aa;rw[oY aE]at e3;refine dY.of hE ?_;conv=>whnf
  (repeat((first|refine ay t1 ?_|refine an Q6 ?_|refine an Q9 ?_|rw[t1]);conv=>whnf))
  refine dD (t:=5) (k:=2002) (s:=3) (blk:=iA []) rfl rfl rfl ?_
  refine cG hE (λk=>k) [1,3,4,5,6] [2001,2002] (λm fr hp=>∃k:Nat,m=n - k/\k<=n/\fr=[(1,b9 (mC n n a)),(3,.aM 2001 1 0 i),(4,iv (i:Nat)),(5,.aM 2002 3 0 k),(6,iv (k:Nat))]/\
   hp=[(2001,Hq ((bD n n a).take i)),(2002,iA ((oX a n i).take k))]) n ?_ ?_ ?_
  ·kernel_rfl
  ·exact⟨0,rfl,Γ _,rfl,rfl⟩
  rintro m _ _ ⟨k,rfl,hk,rfl,rfl⟩;have ahX:(((oX a n i).take k).map fF).length=k:=by rw[Χ,ψ];omega
  by_cases hlk:k<n
  ·have t4:=gZ hlk;have t5:=bW (i:=k) aa;obtain⟨w1,w2⟩:=XL hn hn aE hlk;have hx:i*n+k<a.length:=by rw[ha.n];exact dP aE hlk
   have hq:=eM sa ha.n aE hlk;have e4:=uo (z:=oX a n i) (i:=k) aa;rw[lD hlk,el]at e4;unfold el at hq;have o1:=ET (a.getD (i*n+k) 0) aa;have o2:=Uh (a.getD (i*n+k) 0) aa;generalize tQ (a.getD (i*n+k) 0)=s at*;refine dY.of hE ?_;conv=>whnf
   (repeat((first|refine ao Q3 ?_|refine aN aJ ?_|refine ay t4 ?_|refine an Q6 ?_|refine an Q22 ?_|refine an Q9 ?_|rw[w1]|rw[w2]|rw[t4]|rw[t5]|rw[ι]);conv=>whnf))
   refine⟨n - (k+1),dA [(39,2002)],[1,3,4,5,6],[2001,39],aa,aD,k+1,rfl,hlk,rfl, ?_⟩;rw[e4];rfl
  ·have t4:=iH hlk;obtain rfl:k=n:=aa;rw[ϛ (l:=oX a k i) aa];refine ec 5 2002 (λ_ h=>h) (λ_=>rfl) rfl rfl YP.symm ?_;refine dY.of hE ?_;conv=>whnf
   (repeat((first|refine ao Q3 ?_|refine aG t4 ?_|refine an Q6 ?_|refine an Q9 ?_|rw[t4]|rw[t2]);conv=>whnf))
   refine⟨k - (i+1),dA [(43,2001)],[1,3,4],[43],aa,aD,i+1,rfl,aE,rfl, ?_⟩;rw[e3];rfl
 ·have t1:=iH aE;obtain rfl:i=n:=aa;rw[ϛ aa];refine dY.of hE ?_;conv=>whnf
  (repeat(first|(refine aG t1 ?_;conv=>whnf)|(refine an Q6 ?_;conv=>whnf)|(refine an Q9 ?_;conv=>whnf)))
  exact Q29
def xK (n:Nat) (a m:List Rat) (k:Nat):List Rat:=mk n n λi j=>el a n i j+qI k*el m n i j
def dK (n:Nat) (a m:List Rat) (k:Nat):Rat:=bz n (el (xK n a m k) n)
theorem Zy {n B C:Nat} {a m:List Rat} (ha:a.length=n*n) (hm:m.length=n*n) (sa:Sm B a) (sm:Sm C m) {k:Nat} (hk:k<=8):Sm (B+(130+C)) (xK n a m k):=C4 λi j hi hj=>by
 have h1:=eM sa ha hi hj;have h2:=eM sm hm hi hj;have h3:=fW (el a n i j) (qI k*el m n i j);have h4:=cH (qI k) (el m n i j);have h5:∀k:Nat,k<9->fs (qI k)<=130:=by decide+kernel
 have h6:=h5 k aa;omega
theorem pS4 {n B:Nat} (hn:n<=4) (hB:B<=1600):pS n B n<=544682:=by
 have h1:pS n B n<=pS 4 1600 4:=by
  have mono:∀m,pS n B m<=pS 4 1600 m:=λm=>by
   induction m with
   |zero=>exact ζ _
   |succ m ih=>exact Nat.add_le_add_left (Nat.mul_le_mul hn (Nat.add_le_add hB ih)) 2
  refine Ι (mono n) ?_;obtain rfl|rfl|rfl|rfl|rfl:n=0\/n=1\/n=2\/n=3\/n=4:=aa
  all_goals decide
 exact Ι h1 ax
theorem Zz {n B C:Nat} {a m:List Rat} (ha:a.length=n*n) (hm:m.length=n*n) (sa:Sm B a) (sm:Sm C m) {k:Nat} (hk:k<=8) (hn:n<=4) (hB:B+(130+C)<=1600):fs (dK n a m k)<=544682:=by
 have h:=wG (n:=n) (a:=xK n a m k) (eD ..) (Zy ha hm sa sm hk) n 0 [] (Nat.zero_add n);rw[C9]at h;exact Ι h (pS4 hn hB)
theorem ZA {j k:Nat} (hj:j<5) (hk:k<5):fs (qI j/qI ((j:Int) - k))<=130/\fs (qI 1/qI ((j:Int) - k))<=130:=by
 have:∀j:Nat,j<5->∀k:Nat,k<5->fs (qI j/qI ((j:Int) - k))<=130/\fs (qI 1/qI ((j:Int) - k))<=130:=by decide+kernel
 exact this j hj k hk
theorem Ks {k:Nat} {d:Rat} {T:Nat} (hk:k<5) (hd:fs d+262<=T):∀j,j<=5->Sm (2^(if k<j then j - 1 else j)*T - 262) (xP k d j)
 |0,_=>λi hi=>by
  have:i=0:=by simpa [xP]using hi
  subst this;rw[xP,if_neg (abe _)];show fs d<=_;omega
 |j+1,h=>by
  have ih:=Ks hk hd j aa;rw[xP];by_cases e:j=k
  ·subst e;rw[if_neg (afU _)]at ih;rw[if_pos rfl,if_pos (gq _),aeN];exact ih
  ·rw[if_neg e];obtain⟨f1,f2⟩:=ZA (j:=j) (k:=k) aa hk;have s1:=Ko ih f1 f2;have hT:262<=T:=aa;have hp:∀x:Nat,2*(2^x*T - 262)+2*130+2<=2^(x+1)*T - 262:=λx=>by
    have:T<=2^x*T:=Nat.le_mul_of_pos_left _ (Nat.pow_pos ax);rw[Nat.pow_succ,Nat.mul_comm _ 2,Nat.mul_assoc];omega
   by_cases g:k<j
   ·rw[if_pos g]at s1;rw[if_pos aa];obtain⟨x,rfl⟩:∃x,j=x+1:=⟨j - 1,aa⟩;exact Ld (hp x) s1
   ·rw[if_neg g]at s1;rw[if_neg aa];exact Ld (hp j) s1
theorem zy (o p:List Rat):∀i j,i<=o.length->(DI o p i).getD j 0=if j<i then o.getD j 0+p.getD j 0 else o.getD j 0
 |0,j,_=>by rw[DI,if_neg (abe _)]
 |i+1,j,h=>by
  rw[DI,fI,wS,zy o p i i aa,if_neg (afU _),zy o p i j aa];by_cases e:i=j
  ·subst e;rw[if_pos ⟨rfl,aa⟩,if_pos (gq _)]
  ·rw[if_neg λg=>e g.1];by_cases g:j<i
   ·rw[if_pos g,if_pos aa]
   ·rw[if_neg g,if_neg aa]
theorem Kt {n T:Nat} {D:Nat->Rat} (hn:n<=4) (hD:∀k,k<n+1->fs (D k)+262<=T):∀k,k<=n+1->Sm (2+k*(16*T)) (yE n D k)
 |0,_=>λj _=>by rw[yE,ke,et];omega
 |k+1,h=>λj hj=>by
  have ih:=Kt hn hD k aa;have hl:=qj n D k;rw[qj]at hj;have sg:=Ks (k:=k) aa (hD k aa) (n+1) aa;rw[if_pos aa,aeN]at sg;have l2:(xP k (D k) (n+1)).length=n+1:=by rw[wR,if_pos aa]
  rw[yE,zy _ _ _ _ aa,if_pos hj];have g1:=ih j aa;have g2:=sg j aa;have g3:=fW ((yE n D k).getD j 0) ((xP k (D k) (n+1)).getD j 0);have g4:2^n*T<=16*T:=ο T (ύ ax hn);rw[Nat.succ_mul];omega
theorem Ui {n B C:Nat} {a m:List Rat} (ha:fa n n a) (hm:fa n n m) (sa:Sm B a) (sm:Sm C m) (hn:n<=4) (hB:B+(130+C)<=1600):
  C0 21 [bN 1 nC (bD n n a),bN 1 nC (bD n n m)] (nC (yE n (dK n a m) (n+1))):=by
 have la:=jU n n a;have lm:=jU n n m;have t0:ε.wrap ((n:Int)+1)=((n+1:Nat):Int):=by rw[wrap_i64 aa aa];omega
 have lL:=qj n (dK n a m);have hDs:=λk (hk:k<n+1)=>Zz ha.n hm.n sa sm (k:=k) aa hn hB
 have sL:=Kt (T:=544944) (D:=dK n a m) hn (λk hk=>akM (hDs k hk) 262);have kx:=λk (hk:k<n+1)=>afq (a:=xK n a m k) (eD ..) (Zy ha.n hm.n sa sm (k:=k) aa) (show n<=5 by omega) aa
 have sG:=λk (hk:k<n+1)=>Ks (k:=k) (d:=dK n a m k) (T:=544944) aa (akM (hDs k hk) 262)
 have e0:=jU n n;refine kg [63] Tryz.func21 ?_;intro w0 ρ0 hE;conv=>whnf
 (repeat((first|refine ao Q3 ?_|refine an Q8 ?_|rw[la]|rw[t0]|rw[ι]);conv=>whnf))
 refine qk 20 ((List.replicate (n+1) (0:Rat)).map fF) rfl (FE _) (λx hx=>by rw[List.map_replicate]at hx;rw[(List.mem_replicate.1 hx).2];rfl) (λh=>by cases h) ?_
 refine cG hE (dA [(20,2001)]) [0,1,5,6,7] [20] (λq fr hp=>∃k:Nat,q=n+1 - k/\k<=n+1/\fr=[(0,bN 1 nC (bD n n a)),(1,bN 1 nC (bD n n m)),(5,iv (n:Nat)),(6,.aM 2001 3 0 (n+1)),(7,iv (k:Nat))]/\
  hp=[(2001,iA (yE n (dK n a m) k))]) (n+1) ?_ ?_ ?_
 ·kernel_rfl
 ·exact⟨0,rfl,Γ _,rfl,rfl⟩
 rintro q _ _ ⟨k,rfl,hk,rfl,rfl⟩;by_cases ua:k<n+1
 ·have t1:decide ((k:Int)<=(n:Int))=true:=decide_eq_true aa;have t2:=bW (i:=k) aa;have kI:=pZ (k:Int) aa aa;have kD:=kx k ua;rw[show bz n (el (xK n a m k) n)=dK n a m k from rfl]at kD;have sD:=hDs k ua;have sg:=sG k ua;have sLk:=sL k hk;have lLk:=lL k;have lX:=jU n n (xK n a m k);have hXl:(xK n a m k).length=n*n:=eD ..;have oq:fs (qI k)<=130:=by
   have h5:∀k:Nat,k<9->fs (qI k)<=130:=by decide+kernel
   exact h5 k aa
  have cE:yE n (dK n a m) (k+1)=DI (yE n (dK n a m) k) (xP k (dK n a m k) (n+1)) (n+1):=rfl;clear kx hDs sG sL lL;refine dY.of hE ?_;conv=>whnf
  (repeat(first|(refine ay t1 ?_;conv=>whnf)|(rw[t1];conv=>whnf)))
  refine dD (t:=8) (k:=2002) (s:=1) (blk:=Hq []) rfl rfl rfl ?_
  refine cG hE (λk=>k) [0,1,5,6,7,8,9] [2001,2002] (λq fr hp=>∃i:Nat,q=n - i/\i<=n/\fr=[(0,bN 1 nC (bD n n a)),(1,bN 1 nC (bD n n m)),(5,iv (n:Nat)),(6,.aM 2001 3 0 (n+1)),(7,iv (k:Nat)),(8,.aM 2002 1 0 i),(9,iv (i:Nat))]/\
   hp=[(2001,iA (yE n (dK n a m) k)),(2002,Hq ((bD n n (xK n a m k)).take i))]) n ?_ ?_ ?_
  ·kernel_rfl
  ·exact⟨0,rfl,Γ _,rfl,rfl⟩
  rintro q _ _ ⟨i,rfl,hi,rfl,rfl⟩;have Wt:(((bD n n (xK n a m k)).take i).map nC).length=i:=by rw[Χ,ψ];omega
  by_cases oy:i<n
  ·have t3:=gZ oy;have t4:=bW (i:=i) aa;have YP:=gI (c:=n) oy hXl;have acH:=YP;rw[ψ]at acH;have e3:=Dr (l:=bD n n (xK n a m k)) (i:=i) aa;rw[oY oy]at e3;have ea:=oY (c:=n) (a:=a) oy;have em:=oY (c:=n) (a:=m) oy;have lra:=gI (c:=n) oy ha.n;have lrm:=gI (c:=n) oy hm.n;refine dY.of hE ?_;conv=>whnf
   (repeat(first|(refine ay t3 ?_;conv=>whnf)|(rw[t3];conv=>whnf)))
   refine dD (t:=10) (k:=2003) (s:=3) (blk:=iA []) rfl rfl rfl ?_
   refine cG hE (λk=>k) [0,1,5,6,7,8,9,10,11] [2001,2002,2003] (λq fr hp=>∃j:Nat,q=n - j/\j<=n/\fr=[(0,bN 1 nC (bD n n a)),(1,bN 1 nC (bD n n m)),(5,iv (n:Nat)),(6,.aM 2001 3 0 (n+1)),(7,iv (k:Nat)),(8,.aM 2002 1 0 i),(9,iv (i:Nat)),(10,.aM 2003 3 0 j),(11,iv (j:Nat))]/\
    hp=[(2001,iA (yE n (dK n a m) k)),(2002,Hq ((bD n n (xK n a m k)).take i)),(2003,iA ((oX (xK n a m k) n i).take j))]) n ?_ ?_ ?_
   ·kernel_rfl
   ·exact⟨0,rfl,Γ _,rfl,rfl⟩
   rintro q _ _ ⟨j,rfl,hj,rfl,rfl⟩;have ahX:(((oX (xK n a m k) n i).take j).map fF).length=j:=by rw[Χ,ψ];omega
   by_cases IL:j<n
   ·have t5:=gZ IL;have t6:=bW (i:=j) aa;have ga:((bD n n a).getD i []).getD j 0=el a n i j:=by rw[ea];exact lD IL
    have gm:((bD n n m).getD i []).getD j 0=el m n i j:=by rw[em];exact lD IL
    have gla:((bD n n a).getD i []).length=n:=by rw[ea,lra]
    have glm:((bD n n m).getD i []).length=n:=by rw[em,lrm]
    have f1:=eM sa ha.n oy IL;have f2:=eM sm hm.n oy IL;have f3:=cH (qI k) (el m n i j);have o1:=ze (qI k) (el m n i j) aa;have o2:=sH (el a n i j) (qI k*el m n i j) aa;rw[show el a n i j+qI k*el m n i j=el (xK n a m k) n i j from by rw[xK,mP oy IL]]at o2;rw[<-ga]at o2;rw[<-gm]at o1 o2;have e4:=uo (z:=oX (xK n a m k) n i) (i:=j) aa;rw[lD IL]at e4;have V6:i<(bD n n a).length:=aa;have him:i<(bD n n m).length:=aa;refine dY.of hE ?_;conv=>whnf
    (repeat((first|refine aq aD ?_|refine ao Q3 ?_|refine aN aJ ?_|refine ay t5 ?_|refine an Ar ?_|refine an Q6 ?_|refine an IG ?_|rw[t5]|rw[t6]);conv=>whnf))
    refine⟨n - (j+1),dA [(56,2003)],[0,1,5,6,7,8,9,10,11],[2001,2002,56],aa,aD,j+1,rfl,IL,rfl, ?_⟩;rw[e4];rfl
   ·have t5:=iH IL;obtain rfl:j=n:=aa;rw[ϛ (l:=oX (xK j a m k) j i) aa];refine ec 10 2003 (λ_ h=>h) (λ_=>rfl) rfl rfl YP.symm ?_;refine dY.of hE ?_;conv=>whnf
    (repeat((first|refine ao Q3 ?_|refine aG t5 ?_|rw[t5]|rw[t4]);conv=>whnf))
    refine⟨j - (i+1),dA [(60,2002)],[0,1,5,6,7,8,9],[2001,60],aa,aD,i+1,rfl,oy,rfl, ?_⟩;rw[e3];rfl
  ·have t3:=iH oy;obtain rfl:i=n:=aa;rw[ϛ (l:=bD i i (xK i a m k)) aa];refine ec 8 2002 (λ_ h=>h) (λ_=>rfl) rfl rfl lX.symm ?_;refine dY.of hE ?_;conv=>whnf
   (repeat(first|(refine aN aJ ?_;conv=>whnf)|(refine aG t3 ?_;conv=>whnf)|(rw[t3];conv=>whnf)))
   clear kD Wt hi t3 oy hXl lX
   refine cG hE (λk=>k) [0,1,5,6,7,12,13] [2001] (λq fr hp=>∃j:Nat,q=i+1 - j/\j<=i+1/\fr=[(0,bN 1 nC (bD i i a)),(1,bN 1 nC (bD i i m)),(5,iv (i:Nat)),(6,.aM 2001 3 0 (i+1)),(7,iv (k:Nat)),(12,nC (xP k (dK i a m k) j)),(13,iv (j:Nat))]/\
    hp=[(2001,iA (yE i (dK i a m) k))]) (i+1) ?_ ?_ ?_
   ·kernel_rfl
   ·exact⟨0,rfl,Γ _,rfl,rfl⟩
   rintro q _ _ ⟨j,rfl,hj,rfl,rfl⟩;by_cases w6:j<i+1
   ·have t3:decide ((j:Int)<=(i:Int))=true:=decide_eq_true aa;have t4:=bW (i:=j) aa;by_cases Dg:j=k
    ·have t5:((j:Int) != (k:Int))=false:=by rw[Dg];exact bne_self_eq_false _
     have hg:xP k (dK i a m k) (j+1)=xP k (dK i a m k) j:=by rw[xP,if_pos Dg]
     refine dY.of hE ?_;conv=>whnf
     (repeat((first|refine ay t3 ?_|refine aG t5 ?_|rw[t3]|rw[t5]|rw[t4]);conv=>whnf))
     refine⟨i+1 - (j+1),λk=>k,[0,1,5,6,7,12,13],[2001],aa,aD,j+1,rfl,w6, ?_,rfl⟩;rw[hg];rfl
    ·have t5:((j:Int) != (k:Int))=true:=bne_iff_ne.2 aa;have w1:ε.wrap ((j:Int) - (k:Int))=(j:Int) - k:=wrap_i64 aa aa;have hg:xP k (dK i a m k) (j+1)=Kl (xP k (dK i a m k) j) (qI j/qI ((j:Int) - k)) (qI 1/qI ((j:Int) - k)):=by rw[xP,if_neg Dg]
     obtain⟨f1,f2⟩:=ZA (j:=j) (k:=k) aa aa;have a8:qI ((j:Int) - k)≠0:=by rw[Km];exact nat_ne Dg
     have qE:fs (qI ((j:Int) - k))<=130:=by
      have h5:∀j:Nat,j<5->∀k:Nat,k<5->fs (qI ((j:Int) - k))<=130:=by decide+kernel
      exact h5 j aa k aa
     have hfj:fs (qI j)<=130:=by
      have h5:∀k:Nat,k<9->fs (qI k)<=130:=by decide+kernel
      exact h5 j aa
     have hf1:fs (qI 1)<=130:=by decide+kernel
     have o1:=pZ ((j:Int) - k) aa aa;have o2:=pZ (j:Int) aa aa;have o3:=pZ 1 ax ax;have o4:=JU (qI j) (qI ((j:Int) - k)) a8 aa;have o5:=JU (qI 1) (qI ((j:Int) - k)) a8 aa;have sj:=sg j aa;have Ei:2^(if k<j then j - 1 else j)*544944<=16*544944:=ο _ (ύ (n:=2) ax (show(if k<j then j - 1 else j)<=4 by split<;>omega));have o6:=DJ (a:=qI j/qI ((j:Int) - k)) (b:=qI 1/qI ((j:Int) - k)) (by rw[wR];split<;>omega) sj f1 f2 aa;rw[<-hg]at o6;clear Ei sj f1 f2 qE hfj hf1;refine dY.of hE ?_;conv=>whnf
     (repeat((first|refine aq aD ?_|refine aN aJ ?_|refine ay t3 ?_|refine ay t5 ?_|rw[t3]|rw[t5]|rw[w1]|rw[t4]);conv=>whnf))
     exact⟨i+1 - (j+1),λk=>k,[0,1,5,6,7,12,13],[2001],aa,aD,j+1,rfl,w6,rfl,rfl⟩
   ·obtain rfl:j=i+1:=aa;have t3:decide (((i+1:Nat):Int)<=(i:Int))=false:=decide_eq_false aa;have lP:(xP k (dK i a m k) (i+1)).length=i+1:=by rw[wR,if_pos ua]
    have sP:=sg (i+1) aa;rw[if_pos ua,aeN]at sP;have Ei:2^i*544944<=16*544944:=ο _ (ύ (n:=2) ax hn);generalize xP k (dK i a m k) (i+1)=Pl at*;generalize yE i (dK i a m) k=Q at*;refine dY.of hE ?_;conv=>whnf
    (repeat(first|(refine aG t3 ?_;conv=>whnf)|(rw[t3];conv=>whnf)))
    refine cG hE (λk=>k) [0,1,5,6,7,12,15] [2001] (λq fr hp=>∃j:Nat,q=i+1 - j/\j<=i+1/\fr=[(0,bN 1 nC (bD i i a)),(1,bN 1 nC (bD i i m)),(5,iv (i:Nat)),(6,.aM 2001 3 0 (i+1)),(7,iv (k:Nat)),(12,nC Pl),(15,iv (j:Nat))]/\
     hp=[(2001,iA (DI Q Pl j))]) (i+1) ?_ ?_ ?_
    ·kernel_rfl
    ·exact⟨0,rfl,Γ _,rfl,rfl⟩
    rintro q _ _ ⟨j,rfl,RL,rfl,rfl⟩;have lA:=wS Q Pl j;by_cases hji2:j<i+1
    ·have t4:decide ((j:Int)<=(i:Int))=true:=decide_eq_true aa;have t6:=bW (i:=j) aa;have g0:=zy Q Pl j j aa;rw[if_neg (afU _)]at g0;have g1:=sLk j aa;have g2:=sP j aa;have o1:=sH ((DI Q Pl j).getD j 0) (Pl.getD j 0) (by rw[g0];omega);have e1:=XH (l:=DI Q Pl j) (i:=j) aa;have lm2:((DI Q Pl j).map fF).length=i+1:=by rw[Χ];omega
     have u1:0+(j:Int).toNat=j:=aa;have hjP:j<Pl.length:=aa;have La:iA (DI Q Pl (j+1))=⟨69,true,.seq 3 (((DI Q Pl j).map fF).set j (fF ((DI Q Pl j).getD j 0+Pl.getD j 0)))⟩:=by rw[iA,DI,List.map_set]
     refine dY.of hE ?_;conv=>whnf
     (repeat((first|refine aq aD ?_|refine aX Q3 ?_|refine ao Q3 ?_|refine aN aJ ?_|refine ay t4 ?_|refine an Ar ?_|refine an Q6 ?_|refine pg rfl (ai rfl) (ai rfl) rfl (ez rfl) (congrArg (λc=>some (some _,[c])) e1) aa rfl (ζ _) rfl rfl ?_|rw[t4]|rw[u1]|rw[e1]|rw[t6]);conv=>whnf))
     refine⟨i+1 - (j+1),λk=>k,[0,1,5,6,7,12,15],[2001],aa,aD,j+1,rfl,hji2,rfl, ?_⟩;rw[La];rfl
    ·obtain rfl:j=i+1:=aa;have t4:decide (((i+1:Nat):Int)<=(i:Int))=false:=decide_eq_false aa;refine dY.of hE ?_;conv=>whnf
     (repeat(first|(refine aG t4 ?_;conv=>whnf)|(rw[t4];conv=>whnf)|(rw[t2];conv=>whnf)))
     refine⟨i+1 - (k+1),λk=>k,[0,1,5,6,7],[2001],aa,aD,k+1,rfl,ua,rfl, ?_⟩;rw[cE];rfl
 ·obtain rfl:k=n+1:=aa;have t1:decide (((n+1:Nat):Int)<=(n:Int))=false:=decide_eq_false aa;refine ec 6 2001 (λ_ h=>h) (λ_=>rfl) rfl rfl (lL _).symm ?_;refine dY.of hE ?_;conv=>whnf
  (repeat(first|(refine aG t1 ?_;conv=>whnf)));exact Q4
