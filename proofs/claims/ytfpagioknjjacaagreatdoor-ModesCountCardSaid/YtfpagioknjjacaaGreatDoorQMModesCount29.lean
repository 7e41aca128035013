/- The texts Am, An. -/
import Derived.Test.YtfpagioknjjacaaGreatDoorQMModesCount27
import Derived.Test.YtfpagioknjjacaaGreatDoorQMModesCount28
import Derived.Test.YtfpagioknjjacaaGreatDoorQMModesCount7
namespace Go.Proofs.YtfpagioknjjacaaGreatDoor
open Go.Sx
set_option linter.unusedSimpArgs false
set_option linter.unusedVariables false
set_option maxRecDepth 100000
set_option maxHeartbeats 40000000
abbrev lQ:List (Int×Int)→SV:=bX 2 qA
theorem Si (ls:List (List (Int×Int))) (h:ls.length<1000) (hl:∀l∈ls,l.length≤maxLen):af Tryz.prog 31 [bX 1 lQ ls] [] (.val (.bool (ls.all fun l=>decide (l.length≤40)))) [] []:=by
 refine cj [] Tryz.func31 ?_
 intro W0 w0 ρ0 hE
 conv=>whnf
 skip
 refine az hE (fun k=>k) [0,3] [] (fun m fr hp=>∃i:Nat,m=ls.length - i∧i≤ls.length∧(∀j,j<i→decide ((ls.getD j []).length≤40)=true)∧fr=[(0,bX 1 lQ ls),(3,iv (i:Nat))]∧hp=[]) ls.length ?_ ?_ ?_
 ·kernel_rfl
 ·exact⟨0,rfl,Nat.zero_le _,(fun j hj=>aa),rfl,rfl⟩
 rintro m _ _ ⟨i,rfl,hi,hs,rfl,rfl⟩
 conv=>whnf
 by_cases aI:i<ls.length
 ·have t1:=jD aI
  have t2:=cp (i:=i) aa
  have Pb:(ls.getD i []).length≤maxLen:=hl _ (mE aI)
  by_cases hL:(ls.getD i []).length≤40
  ·have t3:decide (((ls.getD i []).length:Int)>40)=false:=decide_eq_false aa
   (repeat((first|refine aN t1 ?_|refine aW t3 ?_|refine aC Q7 ?_|refine aC Q6 ?_|refine aC (fu (α:=List (Int×Int)) (d:=[]) rfl (ak rfl) (ak rfl) (dJ rfl) rfl (dJ rfl) rfl aa) ?_|rw[t1]|rw[t3]|rw[t2]);conv=>whnf))
   refine⟨ls.length - (i+1),fun k=>k,[0,3],[],aa,aF,i+1,rfl,aI, ?_,rfl,rfl⟩
   intro j hj
   by_cases vH:j=i
   ·rw[vH];exact decide_eq_true hL
   ·exact hs j aa
  ·have t3:decide (((ls.getD i []).length:Int)>40)=true:=decide_eq_true aa
   have e:(ls.all fun l=>decide (l.length≤40))=false:=Lu (d:=[]) aI (decide_eq_false hL)
   rw[e]
   (repeat((first|refine aN t1 ?_|refine aN t3 ?_|refine aC Q7 ?_|refine aC Q6 ?_|refine aC (fu (α:=List (Int×Int)) (d:=[]) rfl (ak rfl) (ak rfl) (dJ rfl) rfl (dJ rfl) rfl aa) ?_);conv=>whnf));exact Q4
 ·have t1:=jP aI
  obtain rfl:i=ls.length:=aa
  have e:(ls.all fun l=>decide (l.length≤40))=true:=Lt [] hs
  rw[e]
  (repeat(first|(refine aW t1 ?_;conv=>whnf)|(refine aC Q7 ?_;conv=>whnf)));exact Q4
theorem OW (l b:List (Int×Int)) (hl:l.length≤maxLen∧∀q∈l,Av q) (hb:b.length≤maxLen∧∀q∈b,Av q) {n:Nat} (hn:n≤5):
  af Tryz.prog 33 [lQ l,lQ b,iv n] [] (.cC [mA n n (GZ l n),mA n n (mZ b n)]) [] []:=by
 have k1:=ab9 l hl.1 hl.2 (n:=n) aa
 have k2:=acz b hb.1 hb.2 hn
 refine cj [] Tryz.func33 ?_
 intro W0 w0 ρ0 hE
 conv=>whnf
 (repeat(first|(refine a8 (by assumption) ?_;conv=>whnf)));exact Q4
theorem Ha (n d:Int) (h1: -9223372036854775808≤n∧n<9223372036854775808) (h2: -9223372036854775808≤d∧d<9223372036854775808) (hd:d≠0):af Tryz.prog 134 [iv n,iv d] [] (.frac ((n:Rat)/(d:Rat))) [] []:=by
 have k1:=Uu jU n d (by have:=nI h1.1 h1.2;have:=nI h2.1 h2.2;unfold fs at*;omega) h1.1 h1.2 h2.1 h2.2 hd
 refine cj [] Tryz.func134 ?_
 intro W0 w0 ρ0 hE
 conv=>whnf
 (repeat(first|(refine a8 (by assumption) ?_;conv=>whnf)));exact Q4
theorem OX {n:Nat} {a m:List Rat} (t:Int) (b at' ab:Nat) (ht: -9223372036854775808≤t∧t<9223372036854775808) (k:af Tryz.prog 38 [mA n n a,mA n n m,.frac (t:Rat)] [] (.cC [iv (b:Nat),iv (at':Nat),iv (ab:Nat),iv 0]) [] []):
  af Tryz.prog 132 [mA n n a,mA n n m,iv t,iv (b:Nat),iv (at':Nat),iv (ab:Nat)] [] (.val (.bool true)) [] []:=by
 have k1:=eG t ht.1 ht.2
 generalize (t:Rat)=q at*
 refine cj [6,7] Tryz.func132 ?_
 intro W0 w0 ρ0 hE
 conv=>whnf
 (repeat((first|refine ah rfl rfl ?_|refine aB aF ?_|refine a8 (by assumption) ?_|refine aC iT ?_|rw[beq_self_eq_true]|refine aC Q6 ?_);conv=>whnf));exact Q4
theorem uZ {n:Nat} {a m:List Rat} {k places:Nat} {low high:Rat} (k1:af Tryz.prog 188 [mA n n a,mA n n m,iv (k:Nat),iv (places:Nat)] [] (.cC [.frac low,.frac high,iv 0]) [] []):
  af Tryz.prog 133 [mA n n a,mA n n m,iv (k:Nat),iv (places:Nat),.frac low,.frac high] [] (.val (.bool true)) [] []:=by
 have q1:decide (low=low)=true:=decide_eq_true rfl
 have q2:decide (high=high)=true:=decide_eq_true rfl
 refine cj [6,7,10,11] Tryz.func133 ?_
 intro W0 w0 ρ0 hE
 conv=>whnf
 (repeat((first|refine a8 (by assumption) ?_|refine aC iT ?_|rw[beq_self_eq_true]|refine aN q1 ?_|refine aN q2 ?_|refine aC Q6 ?_|refine⟨_,kK aM me rfl (ak rfl) (ak rfl) rfl rfl rfl rfl (B0 _ _) wc, ?_⟩|rw[q1]|rw[q2]);conv=>whnf));exact Q4
theorem OY {n:Nat} {a m:List Rat} (ha:ot n n a) (hm:ot n n m) (hn:n≤64) (h:vo n n a≠a):af Tryz.prog 59 [mA n n a,mA n n m] [] (iv 1) [] []:=by
 have k1:=fT ha
 have k2:=fT hm
 have k3:=vv ha
 rw[show yQ n n n n a (vo n n a)=false from by unfold yQ;simp[Ne.symm h]]at k3
 have t1:decide (((n:Nat):Int)>64)=false:=decide_eq_false aa
 refine cj [2,3] Tryz.func59 ?_
 intro W0 w0 ρ0 hE
 conv=>whnf
 (repeat((first|refine ah rfl rfl ?_|refine ag rfl rfl ?_|refine a8 (by assumption) ?_|refine aC iT ?_|refine aC ik ?_|rw[bne_self_eq_false]|refine aW t1 ?_|refine aC Q6 ?_|refine aC Q9 ?_);conv=>whnf));exact Q4
theorem J5 {A:Nat} {a m:List Rat} (sa:OL 2 a) (sm:OL 2 m) (Pj:cZ 2 (ie 2 m m 0)) (h2:2≤A) (hM:A≤80000) (fG:Sm A m) (hp:(aY 2 m m 0).p≠2):af Tryz.prog 59 [mA (2:Nat) (2:Nat) a,mA (2:Nat) (2:Nat) m] [] (iv 1) [] []:=by
 have k1:=fT sa.ok
 have k2:=fT sm.ok
 have k3:=wO sa
 have k4:=wO sm
 have hB:∀i q,i<2→q<2→fs (ie 2 m m 0 i q)≤A:=fun i q hi hq=>by
  show fs (m.getD (i*2+q) 0 - 0*m.getD (i*2+q) 0)≤A
  rw[show m.getD (i*2+q) 0 - 0*m.getD (i*2+q) 0=m.getD (i*2+q) 0 by grind]
  exact jE fG sm.ok.n hi hq
 obtain⟨F,hF⟩:∃F,aY 2 m m 0=F:=⟨_,rfl⟩
 rw[hF]at hp
 have kb:=wK (r:=2) m m 0 rfl aH aH sm.ok sm.ok (fun i q hi hq=>by
  have h1:=jE fG sm.ok.n hi hq
  have h3:=eh
  unfold el at h1
  omega)
 have ki:=uX (r:=2) A (ie 2 m m 0) F rfl aH aH Pj hB h2 hM hF
 have t1:(((F.p:Nat):Int) != ((2:Nat):Int))=true:=bne_iff_ne.2 aa
 refine cj [2,3] Tryz.func59 ?_
 intro W0 w0 ρ0 hE
 conv=>whnf
 (repeat(first|(refine ah rfl rfl ?_;conv=>whnf)|(refine ag rfl rfl ?_;conv=>whnf)|(refine aB aF ?_;conv=>whnf)|(refine a8 (by assumption) ?_;conv=>whnf)|(refine aC ik ?_;conv=>whnf)|(rw[bne_self_eq_false];conv=>whnf)|(refine aN t1 ?_;conv=>whnf)|(refine aC Q6 ?_;conv=>whnf)|(refine aC Q9 ?_;conv=>whnf)|(refine⟨[],_,pU _ 2 _,[],kb,aD,(fun _ _ _=>rfl),ar, ?_⟩;conv=>whnf)|(refine⟨pU _ 2 _,_,[],pU _ 2 _,ki,uV rfl rfl (fun j hj=>by(rcases(show j=0∨j=1 by omega)with h|h)<;>(subst h;rfl)),an,pW, ?_⟩;conv=>whnf)|(refine⟨_,[],[],dZ rfl (ak rfl) (l:=[.int .i64 _,.int .i64 _,.int .i64 _]) rfl (ak rfl) (db.get (t:=196) aM rfl) rfl (db.get (t:=3) aM rfl) rfl rfl aH aH (v:=.int .i64 _) rfl rfl,aD,an, ?_⟩;conv=>whnf)));exact Q4
end Go.Proofs.YtfpagioknjjacaaGreatDoor
