/- The texts Mg. -/
import Derived.Test.YtadphegfhgmgmaaGreatDoorQMModesKnown10
set_option linter.unusedSimpArgs false
set_option linter.unusedVariables false
set_option maxHeartbeats 40000000
set_option maxRecDepth 100000
open Int renaming toNat_natCast->ι
open List renaming range->Η
open Nat renaming lt_or_ge->Ϝ,succ_ne_zero->Ϗ,zero_add->υ
namespace Go.Sx
def zk (n:Nat) (d:Nat->Bool):List SV:=(Η n).map λj=>.val (.bool (d j))
section
variable {P:Program} {o:Oper} {fr:List (Nat×SV)} {hp:List (Nat×aC)}
theorem eV {K:SV->List (Nat×aC)->List (Nat×aC)->List (Nat×aC)->Prop} {t ty:TypeId} {x:Operand} {ti:TI} {k i n:Nat} {wr:Bool} {d:Nat->Bool} {c:SV} {b:Bool} (ho:o.op= .load t x) (hx:bg fr x (.ptr k 1 i 0))
  (hf:find hp k=some ⟨ty,wr,.seq 1 (zk n d)⟩) (ht:b6 P t ti) (hi:i<n) (hb:d i=b) (gM:ti.size=1) (hsh:eR ti [.val (.bool b)]=some c) (hK:K c [(k,⟨ty,wr,.seq 1 (zk n d)⟩)] [] []):
  Good P fr hp o K:=
 ⟨c,_,[],[],yH (ob:=some (i<(zk n d).length)) (cs:=[.val (.bool b)]) (f:=64) ho hx ht (List.mem_singleton.2 rfl) (by
  show(some (some (i<(zk n d).length),[(zk n d).getD i .any]):Option (Option Prop×List SV))=_
  rw[show(zk n d).getD i .any= .val (.bool b)from by simp[zk,List.getD_eq_getElem?_getD,hi,hb]]) (by show i<(zk n d).length;simp[zk];exact hi) (by rw[gM];rfl) aa hsh,eB hf,ak,ar,hK⟩
end
end Go.Sx
namespace Go.Proofs.YtadphegfhgmgmaaGreatDoor
open Go.Sx
abbrev doB (n:Nat) (d:Nat->Bool):aC:=⟨4,true,.seq 1 (zk n d)⟩
abbrev zn (r n:Nat) (X:Mx) (d:Nat->Bool):List (Nat×aC):=(1003,doB n d)::qC r n X
theorem ng {r n j:Nat} {X:Mx} {d:Nat->Bool} (h:j<r):find (zn r n X d) (1010+j)=some (xy true (bq n X j)):=by
 rw[fN aa];exact Bs h
theorem ym {q:Rat}:(q.num.sign==0)=decide (q=0):=by
 rw[<-pb];rfl
theorem RG {r n i:Nat} (X:Mx) (d:Nat->Bool) (hrn:r=n) (hr:r<=5) (hi:i<n) (h0:∀j,j<i->d j=true\/X j j=0) (hd:d i=false) (hx:X i i≠0):
  aL Tryz.prog 121 [.ptr 1001 0 0 0,.aM 1003 1 0 n] (zn r n X d) (.bQ [iv i,.val (.bool true)]) [] (zn r n X d):=by
 obtain⟨KR,hKR⟩:∃K,K=1003::1001::1002::(Η r).map λj=>1010+j:=⟨_,rfl⟩
 rcases(show r=1\/r=2\/r=3\/r=4\/r=5 by omega)with e1|e1|e1|e1|e1
 all_goals
  rw[e1];refine rH (Z:=[700019,700028,700031,700054,700060,700070,700073]) aH bC Tryz.func121 rfl aD (cb.of rfl rfl rfl rfl rfl rfl rfl rfl rfl rfl rfl) rfl ?_;intro W0 w0 ρ0 hE;conv=>whnf
  (repeat(first|(rw[υ];conv=>whnf)))
  refine av hE (λk=>k) [0,1,12,13] KR (λm' fr hp=>∃q:Nat,m'=n - q/\q<=i/\fr=[(0,.ptr 1001 0 0 0),(1,.aM 1003 1 0 n),(12,iv n),(13,iv q)]/\hp=zn r n X d) n ?_ ?_ ?_
  ·subst e1 hKR;kernel_rfl
  ·exact⟨0,rfl,Nat.zero_le _,rfl,by subst e1 hKR;rfl⟩
  rintro m' _ _ ⟨q,rfl,hq,rfl,rfl⟩;have aE:q<n:=aa;have t1:=gZ aE;have t2:=bW (i:=q) aa;have Zh:=Nat.lt_of_lt_of_eq aE hrn.symm;have hs:=je (n:=n) aa Zh;have qE:=ng (n:=n) (X:=X) (d:=d) Zh;have k1:=iI (X q q);rw[e1]at qE hs;rw[e1];cases hdq:d q with
  |true=>
   have WZ:q<i:=by
    rcases Ϝ q i with g|g
    ·exact g
    ·rw[show q=i by omega,hd]at hdq;cases hdq
   conv=>whnf
   (repeat((first|refine ae rfl rfl ?_|refine ao Q3 ?_|refine an dZ ?_|refine ay t1 ?_|refine eV rfl (ai rfl) rfl (ez rfl) aE hdq rfl rfl ?_|rw[t1]|rw[t2]|rw[ι]|rw[υ]);conv=>whnf))
   exact⟨n - (q+1),λk=>k,[0,1,12,13],KR,aa,by subst e1 hKR;kernel_rfl,q+1,rfl,WZ,rfl,by subst e1 hKR;rfl⟩
  |false=>
   by_cases g:X q q=0
   ·have WZ:q<i:=by
     rcases Ϝ q i with g2|g2
     ·exact g2
     ·rw[show q=i by omega]at g;exact absurd g hx
    have t3:((X q q).num.sign != 0)=false:=by rw[bne,ym,decide_eq_true g];rfl
    conv=>whnf
    (repeat(first|(refine ag rfl rfl ?_;conv=>whnf)|(refine ao Q3 ?_;conv=>whnf)|(refine aN aJ ?_;conv=>whnf)|(refine an er ?_;conv=>whnf)|(refine ay t1 ?_;conv=>whnf)|(refine aG t3 ?_;conv=>whnf)|(refine eV rfl (ai rfl) rfl (ez rfl) aE hdq rfl rfl ?_;conv=>whnf)|(refine dc rfl (ai rfl) rfl (ez rfl) hs (Ϗ _) rfl ?_;conv=>whnf)|(refine kG rfl (ai rfl) qE (ez rfl) Pj (dr aa) rfl (Ϗ _) rfl ?_;conv=>whnf)|(rw[t1];conv=>whnf)|(rw[t2];conv=>whnf)|(rw[t3];conv=>whnf)|(rw[ι];conv=>whnf)|(rw[υ];conv=>whnf)))
    exact⟨n - (q+1),λk=>k,[0,1,12,13],KR,aa,by subst e1 hKR;kernel_rfl,q+1,rfl,WZ,rfl,by subst e1 hKR;rfl⟩
   ·obtain rfl:q=i:=by
     rcases Ϝ q i with g2|g2
     ·rcases h0 q g2 with g3|g3
      ·rw[g3]at hdq;cases hdq
      ·exact absurd g3 g
     ·omega
    have t3:((X q q).num.sign != 0)=true:=by rw[bne,ym,decide_eq_false g];rfl
    conv=>whnf
    (repeat(first|(refine ag rfl rfl ?_;conv=>whnf)|(refine ao Q3 ?_;conv=>whnf)|(refine aN aJ ?_;conv=>whnf)|(refine an er ?_;conv=>whnf)|(refine ay t1 ?_;conv=>whnf)|(refine ay t3 ?_;conv=>whnf)|(refine eV rfl (ai rfl) rfl (ez rfl) aE hdq rfl rfl ?_;conv=>whnf)|(refine dc rfl (ai rfl) rfl (ez rfl) hs (Ϗ _) rfl ?_;conv=>whnf)|(refine kG rfl (ai rfl) qE (ez rfl) Pj (dr aa) rfl (Ϗ _) rfl ?_;conv=>whnf)|(rw[t1];conv=>whnf)|(rw[ι];conv=>whnf)|(rw[υ];conv=>whnf)))
    exact⟨au.refl _,get_nil,by repeat(first|exact get_nil|refine cI rfl ?_)⟩
