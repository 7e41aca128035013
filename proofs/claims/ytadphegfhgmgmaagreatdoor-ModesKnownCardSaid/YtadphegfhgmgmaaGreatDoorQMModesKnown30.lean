/- The texts Ax. -/
import Derived.Test.YtadphegfhgmgmaaGreatDoorQMModesKnown27
import Derived.Test.YtadphegfhgmgmaaGreatDoorQMModesKnown25
import Derived.Test.YtadphegfhgmgmaaGreatDoorQMModesKnown7
set_option linter.unusedSimpArgs false
set_option linter.unusedVariables false
set_option maxHeartbeats 40000000
set_option maxRecDepth 100000
namespace Go.Proofs.YtadphegfhgmgmaaGreatDoor
open Go.Sx
theorem NP {n B C:Nat} {a m:List Rat} (P:nk n B C a m) (MS:∀p, -(9223372036854775808:Rat)<=a.getD p 0/\a.getD p 0<=9223372036854775808) (h1:∀x,aj n (λi=>x i*x i)<=qf n (el m n) x):∃e,e<=66/\fg n a m (2^e)/\∀k,k<e->¬fg n a m (2^k):=by
 refine least (P:=λe=>fg n a m (2^e)) ?_;have hn5:(n:Rat)*9223372036854775808<=2^66:=by
  have:((n:Nat):Rat)<=((5:Nat):Rat):=Rat.natCast_le_natCast.2 P.n5;have e2:(2:Rat)^66=73786976294838206464:=by decide+kernel
  have e3:((5:Nat):Rat)=5:=rfl;grind
 exact far (λi k _ _=>MS (i*n+k)) h1 hn5 (by have:=two_pos 66;grind) (P.lM (-(2^66))) (P.lM (2^66))
section
variable {n A:Nat} {a m:List Rat} (h:uu n A a m)
include h
theorem Kh {k p:Int} (hc:k<0\/(n:Int)<=k\/p<0):C0 39 [mA n n a,mA n n m,iv k,iv p] (.bQ [.frac 0,.frac 0,iv 1]):=by
 have k1:=dL h;clear h;by_cases h1:k<0
 ·have t1:decide (k<0)=true:=decide_eq_true h1;refine bB [4,5,6] Tryz.func39 ?_;intro W0 w0 ρ0 hE;conv=>whnf
  (repeat((first|refine ag rfl rfl ?_|refine ae rfl rfl ?_|refine aq aD ?_|refine aN aJ ?_|refine an er ?_|rw[bne_self_eq_false]|refine an Q6 ?_|rw[t1]);conv=>whnf));exact Q4
 ·have t1:decide (k<0)=false:=decide_eq_false h1;by_cases h2:(n:Int)<=k
  ·have t2:decide (k>=(n:Int))=true:=decide_eq_true aa;refine bB [4,5,6] Tryz.func39 ?_;intro W0 w0 ρ0 hE;conv=>whnf
   (repeat((first|refine ag rfl rfl ?_|refine ae rfl rfl ?_|refine aq aD ?_|refine aN aJ ?_|refine an er ?_|refine an dZ ?_|rw[bne_self_eq_false]|refine an Q6 ?_|refine an Q9 ?_|rw[t1]|rw[t2]);conv=>whnf));exact Q4
  ·have t2:decide (k>=(n:Int))=false:=decide_eq_false aa;have t3:decide (p<0)=true:=decide_eq_true aa;refine bB [4,5,6] Tryz.func39 ?_;intro W0 w0 ρ0 hE;conv=>whnf
   (repeat((first|refine ag rfl rfl ?_|refine ae rfl rfl ?_|refine aq aD ?_|refine aN aJ ?_|refine an dZ ?_|rw[bne_self_eq_false]|refine ay t3 ?_|refine an Q6 ?_|refine an Q9 ?_|rw[t1]|rw[t2]);conv=>whnf));exact Q4
theorem Ki {k p:Int} (h1:¬k<0) (h2:¬(n:Int)<=k) (h3:100<p):C0 39 [mA n n a,mA n n m,iv k,iv p] (.bQ [.frac 0,.frac 0,iv 3]):=by
 have k1:=dL h;clear h;have t1:decide (k<0)=false:=decide_eq_false h1;have t2:decide (k>=(n:Int))=false:=decide_eq_false aa;have t3:decide (p<0)=false:=decide_eq_false aa;have t4:decide (p>100)=true:=decide_eq_true aa;refine bB [4,5,6] Tryz.func39 ?_;intro W0 w0 ρ0 hE;conv=>whnf
 (repeat((first|refine ag rfl rfl ?_|refine ae rfl rfl ?_|refine aq aD ?_|refine aN aJ ?_|refine an dZ ?_|rw[bne_self_eq_false]|refine aG t3 ?_|refine ay t4 ?_|refine an Q6 ?_|refine an Q9 ?_|rw[t1]|rw[t2]);conv=>whnf));exact Q4
theorem Xt {v:List Rat} (hv:v.length<=2048) (hl:v.length≠n):C0 15 [mA n n a,mA n n m,bx v] (.bQ [.frac 0,iv 1]):=by
 have k1:=dL h;obtain⟨e,k2,he⟩:=WI (v:=v) (w:=v) h.sa.ok aa hv hl;rw[he hv]at k2;clear h;refine bB [3,4] Tryz.func15 ?_;intro W0 w0 ρ0 hE;conv=>whnf
 (repeat((first|refine ag rfl rfl ?_|refine ae rfl rfl ?_|refine aN aJ ?_|rw[bne_self_eq_false]|refine an Q6 ?_);conv=>whnf));exact Q4
end
