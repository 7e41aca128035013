/- The texts Mg. -/
import Derived.Test.YtfpagioknjjacaaGreatDoorQMModesCount19
namespace Go.Sx
set_option linter.unusedSimpArgs false
set_option linter.unusedVariables false
def wM (n:Nat) (d:Nat→Bool):List SV:=(List.range n).map fun j=>.val (.bool (d j))
section
variable {P:Program} {o:Oper} {fr:List (Nat×SV)} {hp:List (Nat×aA)}
theorem dT {K:SV→List (Nat×aA)→List (Nat×aA)→List (Nat×aA)→Prop} {t ty:TypeId} {x:Operand} {ti:TI} {k i n:Nat} {wr:Bool} {d:Nat→Bool} {c:SV} {b:Bool} (ho:o.op= .load t x) (hx:aZ fr x (.ptr k 1 i 0))
  (hf:find hp k=some ⟨ty,wr,.seq 1 (wM n d)⟩) (ht:aE P t ti) (hi:i<n) (hb:d i=b) (fG:ti.size=1) (hsh:dN ti [.val (.bool b)]=some c) (hK:K c [(k,⟨ty,wr,.seq 1 (wM n d)⟩)] [] []):
  Good P fr hp o K:=
 ⟨c,_,[],[],vR (ob:=some (i<(wM n d).length)) (cs:=[.val (.bool b)]) (f:=64) ho hx ht (List.mem_singleton.2 rfl) (by
  show(some (some (i<(wM n d).length),[(wM n d).getD i .any]):Option (Option Prop×List SV))=_
  rw[show(wM n d).getD i .any= .val (.bool b)from by simp[wM,List.getD_eq_getElem?_getD,hi,hb]]) (by show i<(wM n d).length;simp[wM];exact hi) (by rw[fG];rfl) aa hsh,dD hf,an,ar,hK⟩
end
end Go.Sx
namespace Go.Proofs.YtfpagioknjjacaaGreatDoor
open Go.Sx
set_option linter.unusedSimpArgs false
set_option linter.unusedVariables false
set_option maxRecDepth 100000
set_option maxHeartbeats 40000000
abbrev doB (n:Nat) (d:Nat→Bool):aA:=⟨4,true,.seq 1 (wM n d)⟩
abbrev wN (r n:Nat) (X:Mx) (d:Nat→Bool):List (Nat×aA):=(1003,doB n d)::pU r n X
theorem ln {r n j:Nat} {X:Mx} {d:Nat→Bool} (h:j<r):find (wN r n X d) (1010+j)=some (uN true (bz n X j)):=by
 rw[eA aa]
 exact y4 h
theorem Bf {q:Rat}:(q.num.sign==0)=decide (q=0):=by
 rw[←mW];rfl
theorem OE {r n i:Nat} (X:Mx) (d:Nat→Bool) (hrn:r=n) (hr:r≤5) (hi:i<n) (h0:∀j,j<i→d j=true∨X j j=0) (hd:d i=false) (hx:X i i≠0):
  af Tryz.prog 293 [.ptr 1001 0 0 0,.aK 1003 1 0 n] (wN r n X d) (.cC [iv i,.val (.bool true)]) [] (wN r n X d):=by
 obtain⟨KR,hKR⟩:∃K,K=1003::1001::1002::(List.range r).map fun j=>1010+j:=⟨_,rfl⟩
 rcases(show r=1∨r=2∨r=3∨r=4∨r=5 by omega)with e1|e1|e1|e1|e1
 all_goals
  rw[e1]
  refine pf (Z:=[700019,700028,700031,700054,700060,700070,700073]) aM bB Tryz.func293 rfl aF (bV.of rfl rfl rfl rfl rfl rfl rfl rfl rfl rfl rfl) rfl ?_
  intro W0 w0 ρ0 hE
  conv=>whnf
  (repeat(first|(rw[Nat.zero_add];conv=>whnf)))
  refine az hE (fun k=>k) [0,1,12,13] KR (fun m' fr hp=>∃q:Nat,m'=n - q∧q≤i∧fr=[(0,.ptr 1001 0 0 0),(1,.aK 1003 1 0 n),(12,iv n),(13,iv q)]∧hp=wN r n X d) n ?_ ?_ ?_
  ·subst e1 hKR;kernel_rfl
  ·exact⟨0,rfl,Nat.zero_le _,rfl,by subst e1 hKR;rfl⟩
  rintro m' _ _ ⟨q,rfl,hq,rfl,rfl⟩
  have aI:q<n:=aa
  have t1:=jD aI
  have t2:=cp (i:=q) aa
  have Vf:=Nat.lt_of_lt_of_eq aI hrn.symm
  have hs:=gG (n:=n) aa Vf
  have ou:=ln (n:=n) (X:=X) (d:=d) Vf
  have k1:=iU (X q q)
  rw[e1]at ou hs
  rw[e1]
  cases hdq:d q with
  |true=>
   have R7:q<i:=by
    rcases Nat.lt_or_ge q i with g|g
    ·exact g
    ·rw[show q=i by omega,hd]at hdq;cases hdq
   conv=>whnf
   (repeat((first|refine ag rfl rfl ?_|refine av Q3 ?_|refine aC ik ?_|refine aN t1 ?_|refine dT rfl (ak rfl) rfl (dJ rfl) aI hdq rfl rfl ?_|rw[t1]|rw[t2]|rw[Int.toNat_natCast]|rw[Nat.zero_add]);conv=>whnf))
   exact⟨n - (q+1),fun k=>k,[0,1,12,13],KR,aa,by subst e1 hKR;kernel_rfl,q+1,rfl,R7,rfl,by subst e1 hKR;rfl⟩
  |false=>
   by_cases g:X q q=0
   ·have R7:q<i:=by
     rcases Nat.lt_or_ge q i with g2|g2
     ·exact g2
     ·rw[show q=i by omega]at g;exact absurd g hx
    have t3:((X q q).num.sign != 0)=false:=by rw[bne,Bf,decide_eq_true g];rfl
    conv=>whnf
    (repeat(first|(refine ah rfl rfl ?_;conv=>whnf)|(refine av Q3 ?_;conv=>whnf)|(refine a8 (by assumption) ?_;conv=>whnf)|(refine aC iT ?_;conv=>whnf)|(refine aN t1 ?_;conv=>whnf)|(refine aW t3 ?_;conv=>whnf)|(refine dT rfl (ak rfl) rfl (dJ rfl) aI hdq rfl rfl ?_;conv=>whnf)|(refine cN rfl (ak rfl) rfl (dJ rfl) hs (Nat.succ_ne_zero _) rfl ?_;conv=>whnf)|(refine iZ rfl (ak rfl) ou (dJ rfl) Lx (da aa) rfl (Nat.succ_ne_zero _) rfl ?_;conv=>whnf)|(rw[t1];conv=>whnf)|(rw[t2];conv=>whnf)|(rw[t3];conv=>whnf)|(rw[Int.toNat_natCast];conv=>whnf)|(rw[Nat.zero_add];conv=>whnf)))
    exact⟨n - (q+1),fun k=>k,[0,1,12,13],KR,aa,by subst e1 hKR;kernel_rfl,q+1,rfl,R7,rfl,by subst e1 hKR;rfl⟩
   ·obtain rfl:q=i:=by
     rcases Nat.lt_or_ge q i with g2|g2
     ·rcases h0 q g2 with g3|g3
      ·rw[g3]at hdq;cases hdq
      ·exact absurd g3 g
     ·omega
    have t3:((X q q).num.sign != 0)=true:=by rw[bne,Bf,decide_eq_false g];rfl
    conv=>whnf
    (repeat(first|(refine ah rfl rfl ?_;conv=>whnf)|(refine av Q3 ?_;conv=>whnf)|(refine a8 (by assumption) ?_;conv=>whnf)|(refine aC iT ?_;conv=>whnf)|(refine aN t1 ?_;conv=>whnf)|(refine aN t3 ?_;conv=>whnf)|(refine dT rfl (ak rfl) rfl (dJ rfl) aI hdq rfl rfl ?_;conv=>whnf)|(refine cN rfl (ak rfl) rfl (dJ rfl) hs (Nat.succ_ne_zero _) rfl ?_;conv=>whnf)|(refine iZ rfl (ak rfl) ou (dJ rfl) Lx (da aa) rfl (Nat.succ_ne_zero _) rfl ?_;conv=>whnf)|(rw[t1];conv=>whnf)|(rw[Int.toNat_natCast];conv=>whnf)|(rw[Nat.zero_add];conv=>whnf)))
    exact⟨aq.refl _,get_nil,by repeat(first|exact get_nil|refine cL rfl ?_)⟩
end Go.Proofs.YtfpagioknjjacaaGreatDoor
