/- The texts Oq. -/
import Derived.Test.YtfpagioknjjacaaGreatDoorQMBareissKnown10
import Derived.Test.YtfpagioknjjacaaGreatDoorQMBareissKnown15
import Derived.Test.YtfpagioknjjacaaGreatDoorQMBareissKnown6
namespace Go.Sx
set_option linter.unusedSimpArgs false
set_option linter.unusedVariables false
section
variable {P:Program} {o:Oper} {ft:List (Nat×SV)} {fk:List (Nat×aC)}
theorem Ji {t e:TypeId} {x y:Operand} {ti te:TI} {kl kc:IntKind} {n:Nat} (ho:o.op= .makeSlice t x y) (hx:bp ft x (.val (.int kl n))) (hy:bp ft y (.val (.int kc n)))
  (ht:aD P t ti) (hk:ti.kind= .aN e) (he:aD P e te) (hz:te.zero=[.int 0]) (hs:te.size=3) (hb:(te.bytes:Int)*n≤281474976710656∧(n:Int)≤9223372036854775807):
  bV P o ft fk (cT 3 .int (List.replicate n 0)) [] []:=
 dc fun ρ a w hp=>by
  have e1:=aI (hx ρ a hp.dr)
  have e2:=aI (hy ρ a hp.dr)
  have hu:=ht.kind;rw[hk]at hu
  obtain⟨i,z,i1,i2,i3,i4,i5,i6,i7,_⟩:=he.info
  have pH:=run_make (P:=P) (w:=w) t e i z hu i1 i4 kl kc n n (Int.natCast_nonneg _) (Int.le_refl _) (by rw[i3];exact hb.1) hb.2
  have Iz:z.cells.toList=cC 0:=by rw[i5,hz];rfl
  have eD:madeCells z.cells (n*i.size)=((List.replicate n (cC 0)).flatten).toArray:=by
   have:=ef z.cells te.size i7 n
   rw[i2]
   apply Array.ext'
   rw[this,Iz]
  have iz:au ρ (List.replicate n (SV.int 0)) (List.replicate n (cC 0)):=by
   clear pH eD hb hx hy e1 e2
   induction n with
   |zero=>simp[au]
   |succ n ih=>simp only[List.replicate_succ,au];exact⟨_,_,rfl,rfl,ih⟩
  have mF:bn (List.replicate n (SV.int 0))=true:=by
   rw[←List.map_replicate (f:=SV.int)]
   exact bw (fun _=>rfl) _
  obtain⟨ρ',cb⟩:=zO (w:=w) (e:=e) (s:=3) (n:=n) hp.aY iz mF (fun x hx=>by rw[(List.mem_replicate.1 hx).2];rfl) (by simp)
  refine⟨_,_,ρ', ?_,by rw[cT,List.map_replicate];exact cb⟩
  simp only[execOp,ho,e1,e2,Sem.run_bind,pH,Result.andThen_ok,Sem.run_pure,eD,Int.toNat_natCast]
end
end Go.Sx
namespace Go.Proofs.YtfpagioknjjacaaGreatDoor
open Go.Sx
set_option linter.unusedSimpArgs false
set_option linter.unusedVariables false
set_option maxRecDepth 100000
set_option maxHeartbeats 40000000
theorem xC (l:List Int) (i:Nat) (h:i<l.length):l.take (i+1)=l.take i++[l.getD i 0]:=by
 rw[List.take_add_one,List.getD_eq_getElem?_getD,List.getElem?_eq_getElem h];rfl
theorem Pn (a b:List Int) (ha:a.length<1099511627776) (hb:b.length<1099511627776):ab Tryz.prog 286 [gO a,gO b] [] (.val (.bool (decide (a=b)))) [] []:=by
 refine bP [] Tryz.func286 ?_
 intro W0 w0 ρ0 hE
 conv=>whnf
 by_cases B8:a.length=b.length
 ·have t0:((a.length:Int) != (b.length:Int))=false:=by rw[B8];exact bne_self_eq_false _
  (repeat(first|(refine aM t0 ?_;conv=>whnf)|(refine ak cO ?_;conv=>whnf)|(rw[t0];conv=>whnf)))
  refine ai hE (fun k=>k) [0,1,4,11,12,13] [] (fun m fr hp=>∃i,m=a.length - i∧i≤a.length∧a.take i=b.take i∧fr=[(0,gO a),(1,gO b),(4,.val (.bool false)),(11,gO a),(12,.val (.int .i64 (a.length:Nat))),(13,.val (.int .i64 (i:Nat)))]∧hp=[]) a.length ?_ ?_ ?_
  ·kernel_rfl
  ·exact⟨0,rfl,Nat.zero_le _,rfl,rfl,rfl⟩
  rintro m _ _ ⟨i,rfl,hi,ht,rfl,rfl⟩
  conv=>whnf
  by_cases aA:i<a.length
  ·have t1:=dX aA
   have t2:=bA (i:=i) aa
   by_cases hv:a.getD i 0=b.getD i 0
   ·have t3:(!decide (a.getD i 0=b.getD i 0))=false:=by rw[decide_eq_true hv];rfl
    (repeat((first|refine aw aB ?_|refine aE t1 ?_|refine aM t3 ?_|refine ak Q6 ?_|refine ak nA ?_|refine⟨_,dK aL df rfl (aj rfl) (aj rfl) rfl rfl rfl rfl (fN _ _) et, ?_⟩|rw[t1]|rw[t3]|rw[t2]);conv=>whnf))
    exact⟨a.length - (i+1),fun k=>k,[0,1,4,11,12,13],[],aa,aB,i+1,rfl,aA,by rw[xC a i aA,xC b i aa,ht,hv],rfl,rfl⟩
   ·have t3:(!decide (a.getD i 0=b.getD i 0))=true:=by rw[decide_eq_false hv];rfl
    have e:decide (a=b)=false:=decide_eq_false (fun h=>hv (by rw[h]))
    rw[e]
    (repeat((first|refine aw aB ?_|refine aE t1 ?_|refine aE t3 ?_|refine ak Q6 ?_|refine ak nA ?_|refine⟨_,dK aL df rfl (aj rfl) (aj rfl) rfl rfl rfl rfl (fN _ _) et, ?_⟩);conv=>whnf));exact Q5
  ·have t1:=ez aA
   have hI:i=a.length:=aa
   have e:decide (a=b)=true:=decide_eq_true (by rw[hI,List.take_length]at ht;rw[ht,B8,List.take_length])
   rw[e]
   (repeat(first|(refine aM t1 ?_;conv=>whnf)));exact Q5
 ·have t0:((a.length:Int) != (b.length:Int))=true:=bne_iff_ne.2 aa
  have e:decide (a=b)=false:=decide_eq_false (fun h=>B8 (by rw[h]))
  rw[e]
  (repeat(first|(refine aE t0 ?_;conv=>whnf)|(refine ak cO ?_;conv=>whnf)));exact Q5
theorem Md (r c:Int) (a:List Int) (ha:a.length<1099511627776):ab Tryz.prog 185 [wA r c a,wA r c a] [] (.val (.bool true)) [] []:=by
 have k1:=Pn a a ha ha
 rw[decide_eq_true rfl]at k1
 have t1:(r==r)=true:=beq_self_eq_true _
 have t2:(c==c)=true:=beq_self_eq_true _
 refine bP [] Tryz.func185 ?_
 intro W0 w0 ρ0 hE
 conv=>whnf
 (repeat((first|refine ag rfl rfl ?_|refine aS (by assumption) ?_|refine ak jJ ?_|rw[beq_self_eq_true]);conv=>whnf));exact Q5
abbrev zz (n:Nat):List Int:=List.replicate n 0
theorem nq (n:Nat):(zz n).length=n:=List.length_replicate ..
theorem Me (n p:Nat):(zz n).getD p 0=0:=by
 rw[List.getD_eq_getElem?_getD,List.getElem?_replicate];split<;>rfl
theorem zn (n:Nat):Zm 2 (zz n):=fun p _=>by rw[Me,AO];decide
theorem Po (n:Nat):aG (zz n)=zL n:=by simp[aG,zz,zL]
theorem eu (n:Nat):∀i,i<(zz n).length→zs ((zz n).getD i 0)≤536870912:=fun i _=>by rw[Me,AO];decide
theorem zo {f:Nat→Int}:∀n,(∀i,i<n→f i=0)→oe n f=0
 |0,_=>rfl
 |n+1,h=>by rw[oe,zo n fun i hi=>h i aa,h n aa];rfl
theorem HT {n m:Nat} (hn:0<n):bo n (bl (zz m) n)=0:=by
 obtain⟨k,rfl⟩:∃k,n=k+1:=⟨n - 1,aa⟩
 rw[bo]
 exact zo _ fun i _=>by rw[bl,Me,Int.mul_zero,Int.zero_mul]
end Go.Proofs.YtfpagioknjjacaaGreatDoor
