/- The texts Am, An. -/
import Derived.Test.YtadphegfhgmgmaaGreatDoorQMModesKnown7
import Derived.Test.YtadphegfhgmgmaaGreatDoorQMModesKnown16
import Derived.Test.YtadphegfhgmgmaaGreatDoorQMModesKnown24
import Derived.Test.YtadphegfhgmgmaaGreatDoorQMModesKnown6
set_option linter.unusedSimpArgs false
set_option linter.unusedVariables false
set_option maxHeartbeats 40000000
set_option maxRecDepth 100000
namespace Go.Proofs.YtadphegfhgmgmaaGreatDoor
open Go.Sx
abbrev lQ:List (Int×Int)->SV:=bN 2 qA
theorem nY (ls:List (List (Int×Int))) (h:ls.length<1000) (hl:∀l∈ls,l.length<=maxLen):C0 17 [bN 1 lQ ls] (.val (.bool (ls.all λl=>decide (l.length<=40)))):=by
 refine bB [] Tryz.func17 ?_;intro W0 w0 ρ0 hE;conv=>whnf
 skip
 refine av hE (λk=>k) [0,3] [] (λm fr hp=>∃i:Nat,m=ls.length - i/\i<=ls.length/\(∀j,j<i->decide ((ls.getD j []).length<=40)=true)/\fr=[(0,bN 1 lQ ls),(3,iv (i:Nat))]/\hp=[]) ls.length ?_ ?_ ?_
 ·kernel_rfl
 ·exact⟨0,rfl,Nat.zero_le _,(λj hj=>aa),rfl,rfl⟩
 rintro m _ _ ⟨i,rfl,hi,hs,rfl,rfl⟩;conv=>whnf
 by_cases aE:i<ls.length
 ·have t1:=gZ aE;have t2:=bW (i:=i) aa;have Uz:(ls.getD i []).length<=maxLen:=hl _ (eX aE);by_cases hL:(ls.getD i []).length<=40
  ·have t3:decide (((ls.getD i []).length:Int)>40)=false:=decide_eq_false aa
   (repeat((first|refine ay t1 ?_|refine aG t3 ?_|refine an Q8 ?_|refine an Q6 ?_|refine an (iW (α:=List (Int×Int)) (d:=[]) rfl (ai rfl) (ai rfl) (ez rfl) rfl (ez rfl) rfl aa) ?_|rw[t1]|rw[t3]|rw[t2]);conv=>whnf))
   refine⟨ls.length - (i+1),λk=>k,[0,3],[],aa,aD,i+1,rfl,aE, ?_,rfl,rfl⟩;intro j hj;by_cases w6:j=i
   ·rw[w6];exact decide_eq_true hL
   ·exact hs j aa
  ·have t3:decide (((ls.getD i []).length:Int)>40)=true:=decide_eq_true aa;have e:(ls.all λl=>decide (l.length<=40))=false:=Pd (d:=[]) aE (decide_eq_false hL);rw[e]
   (repeat((first|refine ay t1 ?_|refine ay t3 ?_|refine an Q8 ?_|refine an Q6 ?_|refine an (iW (α:=List (Int×Int)) (d:=[]) rfl (ai rfl) (ai rfl) (ez rfl) rfl (ez rfl) rfl aa) ?_);conv=>whnf));exact Q4
 ·have t1:=iH aE;obtain rfl:i=ls.length:=aa;have e:(ls.all λl=>decide (l.length<=40))=true:=Pc [] hs;rw[e]
  (repeat(first|(refine aG t1 ?_;conv=>whnf)|(refine an Q8 ?_;conv=>whnf)));exact Q4
theorem nm (l b:List (Int×Int)) (hl:l.length<=maxLen/\∀q∈l,my q) (hb:b.length<=maxLen/\∀q∈b,my q) {n:Nat} (hn:n<=5):
  C0 18 [lQ l,lQ b,iv n] (.bQ [mA n n (qz l n),mA n n (fH b n)]):=by
 have k1:=ab4 l hl.1 hl.2 (n:=n) aa;have k2:=Rt b hb.1 hb.2 hn;refine bB [] Tryz.func18 ?_;intro W0 w0 ρ0 hE;conv=>whnf
 (repeat(first|(refine aN aJ ?_;conv=>whnf)));exact Q4
theorem J9 (n d:Int) (h1: -9223372036854775808<=n/\n<9223372036854775808) (h2: -9223372036854775808<=d/\d<9223372036854775808) (hd:d≠0):C0 61 [iv n,iv d] (.frac ((n:Rat)/(d:Rat))):=by
 have k1:=YH mh n d (by have:=pO h1.1 h1.2;have:=pO h2.1 h2.2;unfold fs at*;omega) h1.1 h1.2 h2.1 h2.2 hd;refine bB [] Tryz.func61 ?_;intro W0 w0 ρ0 hE;conv=>whnf
 (repeat(first|(refine aN aJ ?_;conv=>whnf)));exact Q4
theorem Ss {n:Nat} {a m:List Rat} (t:Int) (b at' ab:Nat) (ht: -9223372036854775808<=t/\t<9223372036854775808) (k:C0 23 [mA n n a,mA n n m,.frac (t:Rat)] (.bQ [iv (b:Nat),iv (at':Nat),iv (ab:Nat),iv 0])):
  C0 59 [mA n n a,mA n n m,iv t,iv (b:Nat),iv (at':Nat),iv (ab:Nat)] (.val (.bool true)):=by
 have k1:=dH t ht.1 ht.2;generalize (t:Rat)=q at*;refine bB [6,7] Tryz.func59 ?_;intro W0 w0 ρ0 hE;conv=>whnf
 (repeat((first|refine ag rfl rfl ?_|refine aq aD ?_|refine aN aJ ?_|refine an er ?_|rw[beq_self_eq_true]|refine an Q6 ?_);conv=>whnf));exact Q4
theorem xI {n:Nat} {a m:List Rat} {k places:Nat} {low high:Rat} (k1:C0 39 [mA n n a,mA n n m,iv (k:Nat),iv (places:Nat)] (.bQ [.frac low,.frac high,iv 0])):
  C0 60 [mA n n a,mA n n m,iv (k:Nat),iv (places:Nat),.frac low,.frac high] (.val (.bool true)):=by
 have q1:decide (low=low)=true:=decide_eq_true rfl;have q2:decide (high=high)=true:=decide_eq_true rfl;refine bB [6,7,10,11] Tryz.func60 ?_;intro W0 w0 ρ0 hE;conv=>whnf
 (repeat((first|refine aN aJ ?_|refine an er ?_|rw[beq_self_eq_true]|refine ay q1 ?_|refine ay q2 ?_|refine an Q6 ?_|refine⟨_,bV aH cd rfl (ai rfl) (ai rfl) rfl rfl rfl rfl (cQ _ _) b8, ?_⟩|rw[q1]|rw[q2]);conv=>whnf));exact Q4
theorem Su {r c n:Nat} {a m:List Rat} (ha:fa r c a) (hm:fa n n m) (h:¬(r=c/\r=n)):C0 14 [mA r c a,mA n n m] (iv 1):=by
 have k1:=cO ha;have k2:=cO hm;by_cases h1:r=c
 ·have t1:((r:Int) != (c:Int))=false:=by rw[h1];exact bne_self_eq_false _
  have t2:((r:Int) != (n:Int))=true:=bne_iff_ne.2 aa;refine bB [2,3] Tryz.func14 ?_;intro W0 w0 ρ0 hE;conv=>whnf
  (repeat((first|refine ag rfl rfl ?_|refine ae rfl rfl ?_|refine aN aJ ?_|refine an er ?_|refine an dZ ?_|rw[bne_self_eq_false]|refine an Q6 ?_|refine an Q9 ?_|rw[t1]|rw[t2]);conv=>whnf));exact Q4
 ·have t1:((r:Int) != (c:Int))=true:=bne_iff_ne.2 aa;refine bB [2,3] Tryz.func14 ?_;intro W0 w0 ρ0 hE;conv=>whnf
  (repeat((first|refine ag rfl rfl ?_|refine ae rfl rfl ?_|refine aN aJ ?_|refine an er ?_|rw[bne_self_eq_false]|refine an Q6 ?_|refine an Q9 ?_|rw[t1]);conv=>whnf));exact Q4
theorem HU {n:Nat} {a m:List Rat} (ha:fa n n a) (hm:fa n n m) (hn:n<=64) (h:fZ n n a≠a):C0 14 [mA n n a,mA n n m] (iv 1):=by
 have k1:=cO ha;have k2:=cO hm;have k3:=rE ha;rw[show qp n n n n a (fZ n n a)=false from by unfold qp;simp[Ne.symm h]]at k3;have t1:decide (((n:Nat):Int)>64)=false:=decide_eq_false aa;refine bB [2,3] Tryz.func14 ?_;intro W0 w0 ρ0 hE;conv=>whnf
 (repeat((first|refine ag rfl rfl ?_|refine ae rfl rfl ?_|refine aN aJ ?_|refine an er ?_|refine an dZ ?_|rw[bne_self_eq_false]|refine aG t1 ?_|refine an Q6 ?_|refine an Q9 ?_);conv=>whnf));exact Q4
theorem Dz {A:Nat} {a m:List Rat} (sa:HJ 2 a) (sm:HJ 2 m) (EL:dq 2 (iC 2 m m 0)) (h2:2<=A) (hM:A<=80000) (gM:Sm A m) (hp:(aB 2 m m 0).p≠2):C0 14 [mA (2:Nat) (2:Nat) a,mA (2:Nat) (2:Nat) m] (iv 1):=by
 have k1:=cO sa.ok;have k2:=cO sm.ok;have k3:=sK sa;have k4:=sK sm;have hB:∀i q,i<2->q<2->fs (iC 2 m m 0 i q)<=A:=λi q hi hq=>by
  show fs (m.getD (i*2+q) 0 - 0*m.getD (i*2+q) 0)<=A;rw[show m.getD (i*2+q) 0 - 0*m.getD (i*2+q) 0=m.getD (i*2+q) 0 by grind];exact eM gM sm.ok.n hi hq
 obtain⟨F,hF⟩:∃F,aB 2 m m 0=F:=⟨_,rfl⟩;rw[hF]at hp
 have kb:=wD (r:=2) m m 0 rfl ax ax sm.ok sm.ok (λi q hi hq=>by
  have h1:=eM gM sm.ok.n hi hq;have h3:=et;unfold el at h1
  omega)
 have ki:=sJ (r:=2) A (iC 2 m m 0) F rfl ax ax EL hB h2 hM hF;have t1:(((F.p:Nat):Int) != ((2:Nat):Int))=true:=bne_iff_ne.2 aa;refine bB [2,3] Tryz.func14 ?_;intro W0 w0 ρ0 hE;conv=>whnf
 (repeat(first|(refine ag rfl rfl ?_;conv=>whnf)|(refine ae rfl rfl ?_;conv=>whnf)|(refine aq aD ?_;conv=>whnf)|(refine aN aJ ?_;conv=>whnf)|(refine an dZ ?_;conv=>whnf)|(rw[bne_self_eq_false];conv=>whnf)|(refine ay t1 ?_;conv=>whnf)|(refine an Q6 ?_;conv=>whnf)|(refine an Q9 ?_;conv=>whnf)|(refine⟨[],_,qC _ 2 _,[],kb,aF,(λ_ _ _=>rfl),ar, ?_⟩;conv=>whnf)|(refine⟨qC _ 2 _,_,[],qC _ 2 _,ki,uU rfl rfl (λj hj=>by(rcases(show j=0\/j=1 by omega)with h|h)<;>(subst h;rfl)),ak,p5, ?_⟩;conv=>whnf)|(refine⟨_,[],[],eG rfl (ai rfl) (l:=[.int .i64 _,.int .i64 _,.int .i64 _]) rfl (ai rfl) (dz.get (t:=108) aH rfl) rfl (dz.get (t:=3) aH rfl) rfl rfl ax ax (v:=.int .i64 _) rfl rfl,aF,ak, ?_⟩;conv=>whnf)));exact Q4
theorem HV {r c n:Int} {a m:List Rat} {e:Int} (t:Rat) (k1:C0 14 [mA r c a,mA n n m] (iv e)) (he:e≠0):C0 23 [mA r c a,mA n n m,.frac t] (.bQ [iv 0,iv 0,iv 0,iv e]):=by
 have t1:(e != 0)=true:=bne_iff_ne.2 he;refine bB [3,4,5] Tryz.func23 ?_;intro W0 w0 ρ0 hE;conv=>whnf
 (repeat(first|(refine aN aJ ?_;conv=>whnf)|(refine ay t1 ?_;conv=>whnf)|(refine an Q6 ?_;conv=>whnf)));exact Q4
theorem HW {r c n:Int} {a m:List Rat} {e:Int} (k1:C0 14 [mA r c a,mA n n m] (iv e)) (he:e≠0):C0 44 [mA r c a,mA n n m] (.bQ [.frac 0,iv e]):=by
 have t1:(e != 0)=true:=bne_iff_ne.2 he;refine bB [2,3] Tryz.func44 ?_;intro W0 w0 ρ0 hE;conv=>whnf
 (repeat(first|(refine aN aJ ?_;conv=>whnf)|(refine ay t1 ?_;conv=>whnf)|(refine an Q6 ?_;conv=>whnf)));exact Q4
theorem L7 {r c n:Int} {a m:List Rat} {e:Int} (v:List Rat) (k1:C0 14 [mA r c a,mA n n m] (iv e)) (he:e≠0):C0 15 [mA r c a,mA n n m,bx v] (.bQ [.frac 0,iv e]):=by
 have t1:(e != 0)=true:=bne_iff_ne.2 he;refine bB [3,4] Tryz.func15 ?_;intro W0 w0 ρ0 hE;conv=>whnf
 (repeat(first|(refine aN aJ ?_;conv=>whnf)|(refine ay t1 ?_;conv=>whnf)|(refine an Q6 ?_;conv=>whnf)));exact Q4
theorem BE {r c n:Int} {a m:List Rat} {e:Int} (k p:Int) (k1:C0 14 [mA r c a,mA n n m] (iv e)) (he:e≠0):C0 39 [mA r c a,mA n n m,iv k,iv p] (.bQ [.frac 0,.frac 0,iv e]):=by
 have t1:(e != 0)=true:=bne_iff_ne.2 he;refine bB [4,5,6] Tryz.func39 ?_;intro W0 w0 ρ0 hE;conv=>whnf
 (repeat((first|refine aq aD ?_|refine aN aJ ?_|refine ay t1 ?_|refine an Q6 ?_);conv=>whnf));exact Q4
theorem L8 {r c n:Int} {a m:List Rat} {e:Int} (k1:C0 14 [mA r c a,mA n n m] (iv e)) (he:e≠0):C0 20 [mA r c a,mA n n m] (.bQ [bx [],iv e]):=by
 have t1:(e != 0)=true:=bne_iff_ne.2 he;refine kg [2,3] Tryz.func20 ?_;intro w0 ρ0 hE;conv=>whnf
 (repeat(first|(refine aN aJ ?_;conv=>whnf)|(refine ay t1 ?_;conv=>whnf)|(refine an Q6 ?_;conv=>whnf)));exact Q30
