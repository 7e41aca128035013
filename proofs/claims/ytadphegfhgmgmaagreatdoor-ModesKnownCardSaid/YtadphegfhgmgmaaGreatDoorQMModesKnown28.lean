/- The texts At. -/
import Derived.Test.YtadphegfhgmgmaaGreatDoorQMModesKnown27
set_option linter.unusedSimpArgs false
set_option linter.unusedVariables false
set_option maxHeartbeats 40000000
set_option maxRecDepth 100000
open Classical renaming byContradiction->Ο
open Go.IntKind renaming i64->ε
open Go.Lit renaming int->Ϸ
open Int renaming toNat_natCast->ι
open List renaming getD_eq_getElem?_getD->δ,length_take->ψ,replicate->θ
open Nat renaming zero_add->υ,zero_le->Γ
namespace Go.Proofs.YtadphegfhgmgmaaGreatDoor
open Go.Sx
def FR (n:Nat) (a m v:List Rat):Rat:=gH n n a v v/gH n n m v v
theorem Kg {n:Nat} {a m v:List Rat} (hv:v.length=n):FR n a m v=qf n (el a n) (λi=>v.getD i 0)/qf n (el m n) λi=>v.getD i 0:=by unfold FR;rw[p9 hv,p9 hv]
theorem SF {n:Nat} {a m v:List Rat} {c:Rat} (hv:v.length=n) (hc:c≠0):FR n a m (a7 c v)=FR n a m v:=by
 have lz:(a7 c v).length=n:=fw hv hv;rw[Kg hv,Kg lz,<-Nr (x:=λi=>v.getD i 0) hc];rw[dB (A:=el a n) (y:=λi=>c*v.getD i 0) λi hi=>mz hv hi,dB (A:=el m n) (y:=λi=>c*v.getD i 0) λi hi=>mz hv hi]
abbrev aQ (t:Int×Int):SV:=b9 [gB .i64 t.1,gB .u32 t.2]
abbrev mBk (n:Nat) (a:List Rat):aC:=⟨35,true,.one (mC n n a)⟩
theorem Xs (l b v:List (Int×Int)) (n:Int) (t c:Int×Int) (hl:Kb l) (hb:Kb b) (hv:Kb v) (hn:0<=n/\n<256) (ht:my t) (hc:my c):
  C0 9 [lQ l,lQ b,lQ v,gB .u8 n,qA t,qA c] (.val (.bool true)):=by
 have kw:=gX;have kf:=nY [l,b,v] (by simp) (DC hl.1 hb.1 hv.1);cases hF:[l,b,v].all λl=>decide (l.length<=40)
 ·rw[hF]at kf;refine bB [10,11,41] Tryz.func9 ?_;intro W0 w0 ρ0 hE;conv=>whnf
  (repeat(first|(refine ag rfl rfl ?_;conv=>whnf)|(refine aN aJ ?_;conv=>whnf)));exact Q4
 rw[hF]at kf;obtain⟨e1,e2⟩:=jW n hn 5 ax;have r4:(n % 5).toNat<=4:=aa;obtain⟨r,hr⟩:∃r,r=(n % 5).toNat+1:=⟨_,rfl⟩;have e3:ε.wrap (1+(((n % 5).toNat:Nat):Int))=((r:Nat):Int):=by rw[wrap_i64 aa aa];omega
 generalize (n % 5).toNat=r0 at*;have r5:r<=5:=aa;have kp:=nm l b hl hb r5;have P:=nX hl.2 hb.2 r5;have qt:=rn t ht;have qc:=rn c hc;have ft:=oR ht;have fc:=oR hc;have lW:=gS v r;have sW:=EY hv.2 r;have gW:∀i,i<r->(eZ v r).getD i 0=qV (v.getD i (0,0)):=λi hi=>oZ hi
 have hWz:∀i,v.length<=i->eZ v r=(eZ v r).take i++θ (r - i) 0:=λi hi=>JO hi
 generalize qz l r=a at*;generalize fH b r=m at*;generalize qV t=T at*;generalize qV c=CC at*;generalize eZ v r=W at*;have hvl:=hv.1;refine kg [10,11,41,100012] Tryz.func9 ?_;intro w0 ρ0 hE;conv=>whnf
 (repeat((first|refine ae rfl rfl ?_|refine ao Q3 ?_|refine bn Q3 ?_|refine aN aJ ?_|rw[e2]|rw[e3]|rw[ι]);conv=>whnf))
 refine av hE (λk=>k) [2,10,11,13,14,15,16,17,18] [14,15,57] (λM fr hp=>∃(i:Nat) (al:Bool),M=r - i/\i<=r/\(al=true↔∀j,j<i->W.getD j 0=0)/\
  fr=[(2,lQ v),(10,aQ t),(11,aQ c),(13,iv (r:Nat)),(14,.ptr 14 0 0 0),(15,.ptr 15 0 0 0),(16,.aM 57 5 0 r),(17,.val (.bool al)),(18,iv (i:Nat))]/\hp=[(14,mBk r a),(15,mBk r m),(57,eJ (W.take i++θ (r - i) 0))]) r ?_ ?_ ?_
 ·kernel_rfl
 ·exact⟨0,true,rfl,Γ _,⟨λ_ j hj=>aa,λ_=>rfl⟩,rfl,rfl⟩
 rintro M _ _ ⟨i,al,rfl,hi,FJ,rfl,rfl⟩;have hlen:=dW (d:=(0:Rat)) hi lW;by_cases aE:i<r/\i<v.length
 ·have t1:=gZ aE.1;have t2:=gZ aE.2;have t3:=bW (i:=i) aa;have o1:=rn (v.getD i (0,0)) (oo hv.2 i);rw[<-gW i aE.1]at o1;have o2:=iI (W.getD i 0);have n8:=fG (d:=(0:Rat)) (e:=0) aE.1 lW;have oc:(W.take (i+1)++θ (r - (i+1)) 0).getD i 0=W.getD i 0:=by
   rw[<-n8];exact p0 (by rw[hlen];exact aE.1)
  have eg:=dW (d:=(0:Rat)) (show i+1<=r from aE.1) lW;have Pt:(∀j,j<i+1->W.getD j 0=0)↔(∀j,j<i->W.getD j 0=0)/\W.getD i 0=0:=
   ⟨λg=>⟨λj hj=>g j aa,g i aa⟩,λg j hj=>by
    by_cases e:j=i
    ·rw[e];exact g.2
    ·exact g.1 j aa⟩
  clear P;conv=>whnf
  cases al
  ·(repeat((first|refine ae rfl rfl ?_|refine aX Q3 ?_|refine ao Q3 ?_|refine aN aJ ?_|refine an er ?_|refine an dZ ?_|refine ay t1 ?_|refine ay t2 ?_|refine an Q8 ?_|refine an Q6 ?_|refine an Q21 ?_|rw[t1]|rw[t2]|rw[t3]|rw[ι]|rw[υ]);conv=>whnf))
   refine⟨r - (i+1),λk=>k,[2,10,11,13,14,15,16,17,18],[14,15,57],aa,aD,i+1,false,rfl,aE.1, ?_,rfl,by rw[eJ,<-n8];rfl⟩;rw[Pt];exact⟨(λg=>by cases g),λg=>FJ.2 g.1⟩
  ·by_cases hz:W.getD i 0=0
   ·have t4:((W.getD i 0).num.sign==0)=true:=by rw[ym];exact decide_eq_true hz
    (repeat((first|refine ag rfl rfl ?_|refine aX Q3 ?_|refine ao Q3 ?_|refine aN aJ ?_|refine an er ?_|refine ay t1 ?_|refine ay t2 ?_|refine an Q8 ?_|refine an Q6 ?_|refine an Q21 ?_|rw[t1]|rw[t2]|rw[n8]|rw[oc]|rw[t4]|rw[t3]|rw[ι]|rw[υ]);conv=>whnf))
    refine⟨r - (i+1),λk=>k,[2,10,11,13,14,15,16,17,18],[14,15,57],aa,aD,i+1,true,rfl,aE.1, ?_,rfl,by rw[eJ,<-n8];rfl⟩;rw[Pt];exact⟨λ_=>⟨FJ.1 rfl,hz⟩,λ_=>rfl⟩
   ·have t4:((W.getD i 0).num.sign==0)=false:=by rw[ym];exact decide_eq_false hz
    (repeat((first|refine ag rfl rfl ?_|refine aX Q3 ?_|refine ao Q3 ?_|refine aN aJ ?_|refine an er ?_|refine ay t1 ?_|refine ay t2 ?_|refine an Q8 ?_|refine an Q6 ?_|refine an Q21 ?_|rw[t1]|rw[t2]|rw[n8]|rw[oc]|rw[t4]|rw[t3]|rw[ι]|rw[υ]);conv=>whnf))
    refine⟨r - (i+1),λk=>k,[2,10,11,13,14,15,16,17,18],[14,15,57],aa,aD,i+1,false,rfl,aE.1, ?_,rfl,by rw[eJ,<-n8];rfl⟩;rw[Pt];exact⟨(λg=>by cases g),λg=>absurd g.2 hz⟩
 ·have hWi:W.take i++θ (r - i) 0=W:=by
   by_cases g:i<r
   ·exact(hWz i aa).symm
   ·obtain rfl:i=r:=aa;exact gD lW
  rw[hWi];have hz:al=true↔∀j,j<r->W.getD j 0=0:=by
   rw[FJ];refine⟨λg j hj=> ?_,λg j hj=>g j aa⟩;by_cases e:j<i
   ·exact g j e
   ·rw[<-hWi,δ,List.getElem?_append_right (by rw[ψ];omega),ψ,<-δ];exact ru aa
  have q1:=P.quot (v:=W) (D:=130) ax ax lW sW ax ax;have q0:=P.Zs (v:=W) (D:=130) ax ax lW sW ax ax;have Zt:(decide ((i:Int)<(r:Int))=true/\decide ((i:Int)<(v.length:Int))=false)\/decide ((i:Int)<(r:Int))=false:=by
   by_cases g:i<r
   ·exact .inl ⟨gZ g,iH λg2=>aE ⟨g,g2⟩⟩
   ·exact .inr (iH g)
  cases al
  ·have a8:∃i,i<r/\W.getD i 0≠0:=Ο λBY=>by
    have:=hz.2 λj hj=>Ο λg=>BY ⟨j,hj,g⟩
    cases this
   have k1:=q1 a8;have fq:fs (FR r a m W)<=50000:=by
    have g1:=zt r5 P.oa lW P.za sW;have g2:=zt r5 P.om lW P.zm sW;have g3:=rl (gH r r a W W) (gH r r m W W);unfold FR;omega
   have akV:1<=(aB r a m (FR r a m W)).m+(aB r a m (FR r a m W)).left/\1<=(aB r a m (FR r a m W)).left+(aB r a m (FR r a m W)).p:=by
    have hi:=P.lM (FR r a m W);generalize aB r a m (FR r a m W)=F at*;rw[Kg lW]at hi;exact hi.ray P.pos a8
   have k2:=P.count (T:=50000) (FR r a m W) fq ax ax;have mN:=P.sum (FR r a m W);have kS:=VG CC W aa (λi hi=>by have:=sW i hi;omega);have lS:(a7 CC W).length=r:=fw lW lW;have sS:Sm 260 (a7 CC W):=mO fc sW;have qS:=P.quot (v:=a7 CC W) (D:=260) ax ax lS sS ax ax;have kC:=iI CC;obtain⟨d1,d2,d3,d4⟩:=P.diff ft;have o1:=wi P.km ft P.zm ax;have ov:fa r r (a7 T m):=E6 P.km P.km;have o2:=Y6 P.ka ov P.za (mO ft P.zm) ax;have hd:fa r r (jk a (a7 T m)):=⟨P.ka.r,P.ka.c,d1⟩;have kK:=NN hd aa aa d2 ax ax;have hVq:∀i,i<(KL r r (jk a (a7 T m))).length->C0 15 [mA r r a,mA r r m,bx ((KL r r (jk a (a7 T m))).getD i [])] (.bQ [.frac T,iv 0]):=λi hi=>by
    have lV:=Lq (r:=r) (c:=r) (a:=jk a (a7 T m)) hi;have kV:=EI (r:=r) (c:=r) (a:=jk a (a7 T m)) hi;have fV:=yY (r:=r) (c:=r) (a:=jk a (a7 T m)) hi hi;have sV:=aft (i:=i) hd aa d2 ax hi;have hfr:=(mU (sp:=eI r r (jk a (a7 T m))) (c:=r) (i:=i) (by rw[<-mV];exact hi)).1;have afv:∃j,j<r/\((KL r r (jk a (a7 T m))).getD i []).getD j 0≠0:=⟨_,hfr,by rw[fV,if_pos rfl];decide⟩;have q:=P.quot ax ax lV sV ax ax afv
    rw[show gH r r a ((KL r r (jk a (a7 T m))).getD i []) ((KL r r (jk a (a7 T m))).getD i [])/gH r r m ((KL r r (jk a (a7 T m))).getD i []) ((KL r r (jk a (a7 T m))).getD i [])=T from by
     rw[p9 lV,p9 lV];refine Wb P.pos afv λj hj=> ?_
     exact(ah r λq hq=>by rw[<-d3 j q hj hq]).trans (kV j hj)]at q
    exact q
   have hKl:(KL r r (jk a (a7 T m))).length<=r:=by have:=JJ r r (jk a (a7 T m));omega
   rw[show gH r r a W W/gH r r m W W=FR r a m W from rfl]at k1;have hqS:CC≠0->C0 15 [mA r r a,mA r r m,bx (a7 CC W)] (.bQ [.frac (FR r a m W),iv 0]):=λJk=>by
    obtain⟨j,hj,hjne⟩:=a8;have:=qS ⟨j,hj,by rw[mz lW hj];exact λe=>(Rat.mul_eq_zero.1 e).elim Jk hjne⟩;rwa [show gH r r a (a7 CC W) (a7 CC W)/gH r r m (a7 CC W) (a7 CC W)=FR r a m W from SF lW Jk]at this
   clear ov q1 q0 qS hz FJ gW hWz P d1 d2 d3 d4 hd fq ft fc sW sS a8 aE hF hl hb hv hn ht hc;generalize KL r r (jk a (a7 T m))=L at*;generalize jk a (a7 T m)=DF at*;generalize a7 T m=TM at*;generalize a7 CC W=SW at*;generalize FR r a m W=Q at*;generalize aB r a m Q=F at*;have w1:ε.wrap (((F.m:Nat):Int)+((F.left:Nat):Int))=((F.m+F.left:Nat):Int):=by rw[wrap_i64 aa aa];omega
   have w2:ε.wrap (((F.left:Nat):Int)+((F.p:Nat):Int))=((F.left+F.p:Nat):Int):=by rw[wrap_i64 aa aa];omega
   have t5:decide (((F.m+F.left:Nat):Int)<1)=false:=decide_eq_false aa;have t6:decide (((F.left+F.p:Nat):Int)<1)=false:=decide_eq_false aa;have q5:(!decide (Q=Q))=false:=by rw[decide_eq_true rfl];rfl
   have q6:(!decide (T=T))=false:=by rw[decide_eq_true rfl];rfl
   rcases Zt with⟨x1,x2⟩|x1
   all_goals
    conv=>whnf
    first|((repeat((first|refine ae rfl rfl ?_|refine an er ?_|refine an dZ ?_|refine ay x1 ?_|refine aG x1 ?_|refine aG x2 ?_|refine an Q8 ?_|rw[x1]|rw[x2]);conv=>whnf)))|(skip)
    refine cu 16 57 (λ_ h=>h) rfl rfl lW.symm ?_;refine cv hE ?_;conv=>whnf
    by_cases Jk:CC=0
    ·have t7:(CC.num.sign != 0)=false:=by rw[Jk];rfl
     (repeat((first|refine ag rfl rfl ?_|refine ae rfl rfl ?_|refine aq aD ?_|refine aN aJ ?_|refine an dZ ?_|rw[bne_self_eq_false]|refine aG t6 ?_|refine aG t7 ?_|refine an Q6 ?_|rw[w1]|rw[w2]|rw[t5]|rw[t6]|rw[t7]);conv=>whnf))
     refine av hE (λk=>k) [10,14,15,33,35] [14,15] (λM fr hp=>∃j:Nat,M=L.length - j/\j<=L.length/\fr=[(10,aQ t),(14,.ptr 14 0 0 0),(15,.ptr 15 0 0 0),(33,bN 1 bx L),(35,iv (j:Nat))]/\hp=[(14,mBk r a),(15,mBk r m)]) L.length ?_ ?_ ?_
     ·kernel_rfl
     ·exact⟨0,rfl,Γ _,rfl,rfl⟩
     rintro M _ _ ⟨j,rfl,hj,rfl,rfl⟩;by_cases FU:j<L.length
     ·have t8:=gZ FU;have t9:=bW (i:=j) aa;have kq:=hVq j FU;conv=>whnf
      (repeat((first|refine ag rfl rfl ?_|refine aq aD ?_|refine aN aJ ?_|refine an dZ ?_|rw[bne_self_eq_false]|refine ay t8 ?_|refine aG q6 ?_|refine an Q8 ?_|refine an Q6 ?_|refine an IG ?_|refine⟨_,fE aH cd rfl (ai rfl) (ai rfl) rfl rfl rfl rfl (cQ _ _) b8, ?_⟩|rw[t8]|rw[q6]|rw[t9]);conv=>whnf))
      exact⟨L.length - (j+1),λk=>k,[10,14,15,33,35],[14,15],aa,aD,j+1,rfl,FU,rfl,rfl⟩
     ·have t8:=iH FU;conv=>whnf
      (repeat(first|(refine aN aJ ?_;conv=>whnf)|(refine aG t8 ?_;conv=>whnf)|(refine an Q8 ?_;conv=>whnf)));exact Q4
    ·have t7:(CC.num.sign != 0)=true:=bne_iff_ne.2 λg=>Jk (Rat.num_eq_zero.1 (Int.sign_eq_zero_iff_zero.1 g))
     have k3:=hqS Jk
     (repeat((first|refine ag rfl rfl ?_|refine ae rfl rfl ?_|refine aq aD ?_|refine aN aJ ?_|refine an dZ ?_|rw[bne_self_eq_false]|refine aG t6 ?_|refine ay t7 ?_|refine aG q5 ?_|refine an Q6 ?_|refine⟨_,fE aH cd rfl (ai rfl) (ai rfl) rfl rfl rfl rfl (cQ _ _) b8, ?_⟩|rw[w1]|rw[w2]|rw[t5]|rw[t6]|rw[t7]|rw[q5]);conv=>whnf))
     refine av hE (λk=>k) [10,14,15,33,35] [14,15] (λM fr hp=>∃j:Nat,M=L.length - j/\j<=L.length/\fr=[(10,aQ t),(14,.ptr 14 0 0 0),(15,.ptr 15 0 0 0),(33,bN 1 bx L),(35,iv (j:Nat))]/\hp=[(14,mBk r a),(15,mBk r m)]) L.length ?_ ?_ ?_
     ·kernel_rfl
     ·exact⟨0,rfl,Γ _,rfl,rfl⟩
     rintro M _ _ ⟨j,rfl,hj,rfl,rfl⟩;by_cases FU:j<L.length
     ·have t8:=gZ FU;have t9:=bW (i:=j) aa;have kq:=hVq j FU;conv=>whnf
      (repeat((first|refine ag rfl rfl ?_|refine aq aD ?_|refine aN aJ ?_|refine an dZ ?_|rw[bne_self_eq_false]|refine ay t8 ?_|refine aG q6 ?_|refine an Q8 ?_|refine an Q6 ?_|refine an IG ?_|refine⟨_,fE aH cd rfl (ai rfl) (ai rfl) rfl rfl rfl rfl (cQ _ _) b8, ?_⟩|rw[t8]|rw[q6]|rw[t9]);conv=>whnf))
      exact⟨L.length - (j+1),λk=>k,[10,14,15,33,35],[14,15],aa,aD,j+1,rfl,FU,rfl,rfl⟩
     ·have t8:=iH FU;conv=>whnf
      (repeat(first|(refine aN aJ ?_;conv=>whnf)|(refine aG t8 ?_;conv=>whnf)|(refine an Q8 ?_;conv=>whnf)));exact Q4
  ·have k1:=q0 (hz.1 rfl);have q5:decide ((0:Rat)=0)=true:=decide_eq_true rfl;clear q1 q0 hz FJ gW hWz P ft fc sW aE hF hl hb hv hn ht hc;rcases Zt with⟨x1,x2⟩|x1
   all_goals
    conv=>whnf
    first|((repeat((first|refine ae rfl rfl ?_|refine an er ?_|refine an dZ ?_|refine ay x1 ?_|refine aG x1 ?_|refine aG x2 ?_|refine an Q8 ?_|rw[x1]|rw[x2]);conv=>whnf)))|(skip)
    refine cu 16 57 (λ_ h=>h) rfl rfl lW.symm ?_;refine cv hE ?_;conv=>whnf
    (repeat((first|refine ag rfl rfl ?_|refine aN aJ ?_|refine an er ?_|rw[beq_self_eq_true]|refine⟨_,bV aH cd rfl (ai rfl) (ai rfl) rfl rfl rfl rfl (cQ _ _) b8, ?_⟩);conv=>whnf));exact Q4
theorem nZ (a0 a1 a2:List (Int×Int)) (a3:Int) (a4 a5:Int×Int) (w0:yg a0) (w1:yg a1) (w2:yg a2) (w3:(Ϸ .u8 a3).wf=true) (w4:((Ϸ .i64 a4.1).wf=true)/\((Ϸ .u32 a4.2).wf=true)) (w5:((Ϸ .i64 a5.1).wf=true)/\((Ϸ .u32 a5.2).wf=true)):
  C0 9 [bN 2 qA a0,bN 2 qA a1,bN 2 qA a2,gB .u8 a3,qA a4,qA a5] (.val (.bool true)):=
 Xs a0 a1 a2 a3 a4 a5 ⟨w0.1,gF w0⟩ ⟨w1.1,gF w1⟩ ⟨w2.1,gF w2⟩ (wf_u8 w3) (nS w4) (nS w5)
