/- The texts Aw. -/
import Derived.Test.YtfjhnollamkdcaaGreatDoorQLModesBracket1
namespace Go.Proofs.YtfjhnollamkdcaaGreatDoor
open Go.Sx
set_option linter.unusedSimpArgs false
set_option linter.unusedVariables false
set_option maxRecDepth 100000
set_option maxHeartbeats 8000000
theorem symK_all {l:List (Int×Int)} {n i:Nat} {P:Rat→Prop} (hq:∀t,P (qV (l.getD t (0,0)))):∀m t (a:List Rat),(∀p,P (a.getD p 0))→∀p,P ((symK l n i m t a).getD p 0)
 |0,_,a,h=>h
 |m+1,t,a,h=>by
  rw[symK]
  refine symK_all hq m (t+1) _ ?_
  have hs:∀(a:List Rat) (q:Nat) (x:Rat),P x→(∀p,P (a.getD p 0))→∀p,P ((a.set q x).getD p 0):=fun a q x hx ha p=>by
   by_cases e:p=q
   ·subst e
    by_cases hp:p<a.length
    ·rw[set_at hp];exact hx
    ·have:=ha p
     rw[List.getD_eq_getElem?_getD,List.getElem?_eq_none (by omega)]at this
     rw[List.getD_eq_getElem?_getD,List.getElem?_eq_none (by rw[List.length_set];omega)];exact this
   ·rw[set_off e];exact ha p
  split
  ·exact hs _ _ _ (hq t) (hs _ _ _ (hq t) h)
  ·exact h
theorem symO_all {l:List (Int×Int)} {n:Nat} {P:Rat→Prop} (hq:∀t,P (qV (l.getD t (0,0)))):∀m t (a:List Rat),(∀p,P (a.getD p 0))→∀p,P ((symO l n m t a).getD p 0)
 |0,_,a,h=>h
 |m+1,t,a,h=>by
  rw[symO]
  exact symO_all hq m _ _ (symK_all hq (m+1) t a h)
theorem qV_bd {q:Int×Int} (h:qOK q): -(9223372036854775808:Rat)≤qV q∧qV q≤9223372036854775808:=by
 obtain⟨⟨h1,h2⟩,h3,h4⟩:=h
 unfold qV
 generalize hd:(if q.2<1 then 1 else q.2:Int)=d
 have hd1:(1:Int)≤d:=by subst hd;split<;>omega
 have c1:((1:Int):Rat)≤(d:Rat):=Rat.intCast_le_intCast.2 hd1
 have c2:((-9223372036854775808:Int):Rat)≤(q.1:Rat):=Rat.intCast_le_intCast.2 h1
 have c3:(q.1:Rat)≤((9223372036854775808:Int):Rat):=Rat.intCast_le_intCast.2 (by omega)
 have c4:(0:Rat)<(d:Rat):=by have:((1:Int):Rat)=1:=rfl;grind
 have c5:(d:Rat)*(d:Rat)⁻¹=1:=Rat.mul_inv_cancel _ (by grind)
 have c6:0<(d:Rat)⁻¹:=Rat.inv_pos.2 c4
 have c7:(d:Rat)⁻¹≤1:=by
  have:=Rat.mul_nonneg (show(0:Rat)≤(d:Rat) - 1 by have:((1:Int):Rat)=1:=rfl;grind) (show(0:Rat)≤(d:Rat)⁻¹ by grind)
  grind
 have e1:((-9223372036854775808:Int):Rat)= -9223372036854775808:=rfl
 have e2:((9223372036854775808:Int):Rat)=9223372036854775808:=rfl
 rw[Rat.div_def]
 have a1:=Rat.mul_nonneg (show(0:Rat)≤9223372036854775808 - (q.1:Rat) by grind) (show(0:Rat)≤(d:Rat)⁻¹ by grind)
 have a2:=Rat.mul_nonneg (show(0:Rat)≤9223372036854775808+(q.1:Rat) by grind) (show(0:Rat)≤(d:Rat)⁻¹ by grind)
 constructor<;>grind
theorem reach_ex {l b:List (Int×Int)} {n:Nat} (hl:∀q∈l,qOK q) (hb:∀q∈b,qOK q) (hn:n≤5):∃e,e≤66∧noFar n (symL l n) (plusL b n) (2^e)∧∀k,k<e→¬noFar n (symL l n) (plusL b n) (2^k):=by
 refine least (P:=fun e=>noFar n (symL l n) (plusL b n) (2^e)) ?_
 have P:=pen_law hl hb hn
 have hbd:∀p, -(9223372036854775808:Rat)≤(symL l n).getD p 0∧(symL l n).getD p 0≤9223372036854775808:=by
  refine symO_all (P:=fun x=> -(9223372036854775808:Rat)≤x∧x≤9223372036854775808) (fun t=>qV_bd (qOK_at hl t)) n 0 _ fun p=> ?_
  have:(List.replicate (n*n) (0:Rat)).getD p 0=0:=by
   by_cases hp:p<n*n
   ·exact get_zero hp
   ·rw[List.getD_eq_getElem?_getD,List.getElem?_eq_none (by simp;omega)];rfl
  rw[this];decide
 have hn5:(n:Rat)*9223372036854775808≤2^66:=by
  have:((n:Nat):Rat)≤((5:Nat):Rat):=Rat.natCast_le_natCast.2 hn
  have e2:(2:Rat)^66=73786976294838206464:=by decide+kernel
  have e3:((5:Nat):Rat)=5:=rfl
  grind
 exact far (fun i k _ _=>hbd (i*n+k)) (plus_one b n) hn5 (by have:=two_pos 66;grind) (P.iner (-(2^66))) (P.iner (2^66))
end Go.Proofs.YtfjhnollamkdcaaGreatDoor
