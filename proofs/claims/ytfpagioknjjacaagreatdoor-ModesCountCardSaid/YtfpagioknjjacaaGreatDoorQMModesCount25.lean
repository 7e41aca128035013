/- The texts Mh. -/
import Derived.Test.YtfpagioknjjacaaGreatDoorQMModesCount24
namespace Go.Proofs.YtfpagioknjjacaaGreatDoor
open Go.Sx
set_option linter.unusedSimpArgs false
set_option linter.unusedVariables false
set_option maxRecDepth 100000
set_option maxHeartbeats 40000000
theorem uV {r n:Nat} {X:Mx} {hp:List (Nat×aA)} (h1:find hp 1001=some (sqB r n)) (h2:find hp 1002=some (E3 true (ib r n))) (h:∀j,j<r→find hp (1010+j)=some (uN true (bz n X j))):vJ hp (pU r n X):=by
 intro k b hm
 rcases List.mem_cons.1 hm with e|hm
 ·cases e;exact h1
 ·rcases List.mem_cons.1 hm with e|hm
  ·cases e;exact h2
  ·exact CS h k b hm
theorem pW {r n:Nat} {X Y:Mx}:kO (pU r n X) (pU r n Y):=by
 intro k b hm
 rcases List.mem_cons.1 hm with e|hm
 ·cases e;exact⟨_,List.mem_cons_self ..,rfl,rfl,rfl⟩
 ·rcases List.mem_cons.1 hm with e|hm
  ·cases e;exact⟨_,List.mem_cons_of_mem _ (List.mem_cons_self ..),rfl,rfl,rfl⟩
  ·obtain⟨b0,h1,h2⟩:=y3 k b hm
   exact⟨b0,List.mem_cons_of_mem _ (List.mem_cons_of_mem _ h1),h2⟩
theorem sign_eq {q:Rat} (h:q=0):(q.num.sign != 0)=false:=by rw[bne,Bf,decide_eq_true h];rfl
theorem R8 {q:Rat} (h:q≠0):(q.num.sign != 0)=true:=by rw[bne,Bf,decide_eq_false h];rfl
theorem Fm {r n i k:Nat} (A:Nat) (X Y:Mx) (d:Nat→Bool) (ri:Int) (rb:Bool) (hrn:r=n) (hr:r≤5) (zR:1≤r) (hi:i≤n) (hA:∀a q,a<n→q<n→fs (X a q)≤A) (hH:4*A+6≤4398046511104) (h0:∀j,j<n→d j=true∨X j j=0)
  (hlex:∀j l,j<n→l<n→(j<i∨(j=i∧l<k))→d j=true∨d l=true∨X j l=0)
  (hf:i<n→k<n∧d i=false∧d k=false∧X i k≠0∧ri=i∧rb=true∧Y=kY X i k 1) (he:i=n→ri=0∧rb=false∧Y=X):
  af Tryz.prog 293 [.ptr 1001 0 0 0,.aK 1003 1 0 n] (wN r n X d) (.cC [iv ri,.val (.bool rb)]) [] (wN r n Y d):=by
 obtain⟨KR,hKR⟩:∃K,K=1003::1001::1002::(List.range r).map fun j=>1010+j:=⟨_,rfl⟩
 have k0:af Tryz.prog 18 [iv 1] [] (.frac 1) [] []:=eG 1 aH aH
 rcases(show r=1∨r=2∨r=3∨r=4∨r=5 by omega)with e1|e1|e1|e1|e1
 all_goals
  rw[e1]
  refine pf (Z:=[700019,700028,700031,700054,700060,700070,700073]) aM bB Tryz.func293 rfl aF (bV.of rfl rfl rfl rfl rfl rfl rfl rfl rfl rfl rfl) rfl ?_
  intro W0 w0 ρ0 hE
  conv=>whnf
  (repeat(first|(rw[Nat.zero_add];conv=>whnf)))
  refine az hE (fun k=>k) [0,1,12,13] KR (fun m' fr hp=>∃q:Nat,m'=n - q∧q≤n∧fr=[(0,.ptr 1001 0 0 0),(1,.aK 1003 1 0 n),(12,iv n),(13,iv q)]∧hp=wN r n X d) n ?_ ?_ ?_
  ·subst e1 hKR;kernel_rfl
  ·exact⟨0,rfl,Nat.zero_le _,rfl,by subst e1 hKR;rfl⟩
  rintro m' _ _ ⟨q,rfl,hq,rfl,rfl⟩
  by_cases aI:q<n
  ·have t1:=jD aI
   have t2:=cp (i:=q) aa
   have Vf:=Nat.lt_of_lt_of_eq aI hrn.symm
   have hs:=gG (n:=n) aa Vf
   have ou:=ln (n:=n) (X:=X) (d:=d) Vf
   have k1:=iU (X q q)
   rw[e1]at ou hs
   rw[e1]
   cases hdq:d q with
   |true=>
    conv=>whnf
    (repeat((first|refine ag rfl rfl ?_|refine av Q3 ?_|refine aC ik ?_|refine aN t1 ?_|refine dT rfl (ak rfl) rfl (dJ rfl) aI hdq rfl rfl ?_|rw[t1]|rw[t2]|rw[Int.toNat_natCast]|rw[Nat.zero_add]);conv=>whnf))
    exact⟨n - (q+1),fun k=>k,[0,1,12,13],KR,aa,by subst e1 hKR;kernel_rfl,q+1,rfl,aI,rfl,by subst e1 hKR;rfl⟩
   |false=>
    have t3:((X q q).num.sign != 0)=false:=sign_eq ((h0 q aI).resolve_left (by rw[hdq];decide))
    conv=>whnf
    (repeat(first|(refine ah rfl rfl ?_;conv=>whnf)|(refine av Q3 ?_;conv=>whnf)|(refine a8 (by assumption) ?_;conv=>whnf)|(refine aC iT ?_;conv=>whnf)|(refine aN t1 ?_;conv=>whnf)|(refine aW t3 ?_;conv=>whnf)|(refine dT rfl (ak rfl) rfl (dJ rfl) aI hdq rfl rfl ?_;conv=>whnf)|(refine cN rfl (ak rfl) rfl (dJ rfl) hs (Nat.succ_ne_zero _) rfl ?_;conv=>whnf)|(refine iZ rfl (ak rfl) ou (dJ rfl) Lx (da aa) rfl (Nat.succ_ne_zero _) rfl ?_;conv=>whnf)|(rw[t1];conv=>whnf)|(rw[t2];conv=>whnf)|(rw[t3];conv=>whnf)|(rw[Int.toNat_natCast];conv=>whnf)|(rw[Nat.zero_add];conv=>whnf)))
    exact⟨n - (q+1),fun k=>k,[0,1,12,13],KR,aa,by subst e1 hKR;kernel_rfl,q+1,rfl,aI,rfl,by subst e1 hKR;rfl⟩
  have t1:=jP aI
  rw[e1]
  conv=>whnf
  (repeat(first|(refine aW t1 ?_;conv=>whnf)|(rw[t1];conv=>whnf)|(rw[Nat.zero_add];conv=>whnf)))
  clear t1 aI hq
  refine az hE (fun k=>k) [0,1,40,41] KR (fun m' fr hp=>∃q:Nat,m'=n - q∧q≤i∧fr=[(0,.ptr 1001 0 0 0),(1,.aK 1003 1 0 n),(40,iv n),(41,iv q)]∧hp=wN r n X d) n ?_ ?_ ?_
  ·subst e1 hKR;kernel_rfl
  ·exact⟨0,rfl,Nat.zero_le _,rfl,by subst e1 hKR;rfl⟩
  clear q
  rintro m' _ _ ⟨q,rfl,hq,rfl,rfl⟩
  by_cases aI:q<n
  ·have t1:=jD aI
   have t2:=cp (i:=q) aa
   have Vf:=Nat.lt_of_lt_of_eq aI hrn.symm
   have hs:=gG (n:=n) aa Vf
   have ou:=ln (n:=n) (X:=X) (d:=d) Vf
   rw[e1]at ou hs
   rw[e1]
   conv=>whnf
   (repeat(first|(refine aN t1 ?_;conv=>whnf)|(rw[t1];conv=>whnf)|(rw[Nat.zero_add];conv=>whnf)))
   refine az hE (fun k=>k) [0,1,7,40,41,47,48] KR (fun m' fr hp=>∃l:Nat,m'=n - l∧l≤n∧(q=i→l≤k)∧fr=[(0,.ptr 1001 0 0 0),(1,.aK 1003 1 0 n),(7,iv q),(40,iv n),(41,iv q),(47,iv n),(48,iv l)]∧hp=wN r n X d) n ?_ ?_ ?_
   ·subst e1 hKR;kernel_rfl
   ·exact⟨0,rfl,Nat.zero_le _,fun _=>Nat.zero_le _,rfl,by subst e1 hKR;rfl⟩
   rintro m' _ _ ⟨l,rfl,hl,hlk,rfl,rfl⟩
   by_cases Bu:l<n
   ·have t4:=jD Bu
    have t5:=cp (i:=l) aa
    have k1:=iU (X q l)
    by_cases hxx:d q=false∧d l=false∧X q l≠0
    ·obtain⟨x1,x2,x3⟩:=hxx
     have R7:q=i:=by
      rcases Nat.lt_or_ge q i with g|g
      ·rcases hlex q l aI Bu (.inl g)with y|y|y
       ·rw[y]at x1;cases x1
       ·rw[y]at x2;cases x2
       ·exact absurd y x3
      ·omega
     have aii:l=k:=by
      rcases Nat.lt_or_ge l k with g|g
      ·rcases hlex q l aI Bu (.inr ⟨R7,g⟩)with y|y|y
       ·rw[y]at x1;cases x1
       ·rw[y]at x2;cases x2
       ·exact absurd y x3
      ·have:=hlk R7;omega
     subst R7 aii
     obtain⟨_,_,_,_,f5,f6,f7⟩:=hf aI
     have a7:q≠l:=fun e=>by
      rcases h0 q aI with y|y
      ·rw[y]at x1;cases x1
      ·rw[←e]at x3;exact x3 y
     have acu:=Vc (t:=q) (f:=l) A 2 X 1 hrn aa aI Bu a7 hA (Nat.le_of_eq mf) aa
     rw[←f7]at acu
     have hfa:=fun j=>ln (r:=r) (n:=n) (j:=j) (X:=X) (d:=d)
     have t3:=R8 x3
     rw[e1]at acu hfa
     rw[e1,f5,f6]
     conv=>whnf
     (repeat(first|(refine ah rfl rfl ?_;conv=>whnf)|(refine av Q3 ?_;conv=>whnf)|(refine a8 (by assumption) ?_;conv=>whnf)|(refine aC iT ?_;conv=>whnf)|(refine aN t4 ?_;conv=>whnf)|(refine aN t3 ?_;conv=>whnf)|(refine dT rfl (ak rfl) rfl (dJ rfl) aI x1 rfl rfl ?_;conv=>whnf)|(refine dT rfl (ak rfl) rfl (dJ rfl) Bu x2 rfl rfl ?_;conv=>whnf)|(refine cN rfl (ak rfl) rfl (dJ rfl) hs (Nat.succ_ne_zero _) rfl ?_;conv=>whnf)|(refine iZ rfl (ak rfl) ou (dJ rfl) Lx (da aa) rfl (Nat.succ_ne_zero _) rfl ?_;conv=>whnf)|(refine⟨_,_,[],_,acu,uV rfl rfl hfa,an,pW, ?_⟩;conv=>whnf)|(rw[t4];conv=>whnf)|(rw[Int.toNat_natCast];conv=>whnf)|(rw[Nat.zero_add];conv=>whnf)))
     exact⟨aq.refl _,get_nil,by repeat(first|exact get_nil|refine cL rfl ?_)⟩
    ·have acw:q=i→l+1≤k:=fun e=>by
      have g:=hlk e
      rcases Nat.lt_or_ge l k with g2|g2
      ·omega
      ·obtain rfl:l=k:=aa
       subst e
       obtain⟨_,f2,f3,f4,_⟩:=hf aI
       exact absurd ⟨f2,f3,f4⟩ hxx
     rw[e1]
     cases x1:d q with
     |true=>
      conv=>whnf
      (repeat((first|refine ag rfl rfl ?_|refine av Q3 ?_|refine aC ik ?_|refine aN t4 ?_|refine dT rfl (ak rfl) rfl (dJ rfl) aI x1 rfl rfl ?_|rw[t4]|rw[t5]|rw[Int.toNat_natCast]|rw[Nat.zero_add]);conv=>whnf))
      exact⟨n - (l+1),fun k=>k,[0,1,7,40,41,47,48],KR,aa,by subst e1 hKR;kernel_rfl,l+1,rfl,Bu,acw,rfl,by subst e1 hKR;rfl⟩
     |false=>
      cases x2:d l with
      |true=>
       conv=>whnf
       (repeat((first|refine ah rfl rfl ?_|refine ag rfl rfl ?_|refine av Q3 ?_|refine aC iT ?_|refine aC ik ?_|refine aN t4 ?_|refine dT rfl (ak rfl) rfl (dJ rfl) aI x1 rfl rfl ?_|refine dT rfl (ak rfl) rfl (dJ rfl) Bu x2 rfl rfl ?_|rw[t4]|rw[t5]|rw[Int.toNat_natCast]|rw[Nat.zero_add]);conv=>whnf))
       exact⟨n - (l+1),fun k=>k,[0,1,7,40,41,47,48],KR,aa,by subst e1 hKR;kernel_rfl,l+1,rfl,Bu,acw,rfl,by subst e1 hKR;rfl⟩
      |false=>
       have t3:=sign_eq (q:=X q l) (Classical.byContradiction fun y=>hxx ⟨x1,x2,y⟩)
       conv=>whnf
       (repeat(first|(refine ah rfl rfl ?_;conv=>whnf)|(refine av Q3 ?_;conv=>whnf)|(refine a8 (by assumption) ?_;conv=>whnf)|(refine aC iT ?_;conv=>whnf)|(refine aN t4 ?_;conv=>whnf)|(refine aW t3 ?_;conv=>whnf)|(refine dT rfl (ak rfl) rfl (dJ rfl) aI x1 rfl rfl ?_;conv=>whnf)|(refine dT rfl (ak rfl) rfl (dJ rfl) Bu x2 rfl rfl ?_;conv=>whnf)|(refine cN rfl (ak rfl) rfl (dJ rfl) hs (Nat.succ_ne_zero _) rfl ?_;conv=>whnf)|(refine iZ rfl (ak rfl) ou (dJ rfl) Lx (da aa) rfl (Nat.succ_ne_zero _) rfl ?_;conv=>whnf)|(rw[t4];conv=>whnf)|(rw[t5];conv=>whnf)|(rw[t3];conv=>whnf)|(rw[Int.toNat_natCast];conv=>whnf)|(rw[Nat.zero_add];conv=>whnf)))
       exact⟨n - (l+1),fun k=>k,[0,1,7,40,41,47,48],KR,aa,by subst e1 hKR;kernel_rfl,l+1,rfl,Bu,acw,rfl,by subst e1 hKR;rfl⟩
   ·have t4:=jP Bu
    have R7:q+1≤i:=by
     rcases Nat.lt_or_ge q i with g|g
     ·exact g
     ·obtain rfl:q=i:=aa
      have:=hlk rfl
      have:=(hf aI).1
      omega
    rw[e1]
    conv=>whnf
    (repeat(first|(refine aW t4 ?_;conv=>whnf)|(rw[t4];conv=>whnf)|(rw[t2];conv=>whnf)))
    exact⟨n - (q+1),fun k=>k,[0,1,40,41],KR,aa,by subst e1 hKR;kernel_rfl,q+1,rfl,R7,rfl,by subst e1 hKR;rfl⟩
  ·have t1:=jP aI
   obtain⟨f5,f6,f7⟩:=he aa
   rw[e1,f5,f6,f7]
   conv=>whnf
   (repeat(first|(refine aW t1 ?_;conv=>whnf)))
   exact⟨aq.refl _,get_nil,by repeat(first|exact get_nil|refine cL rfl ?_)⟩
end Go.Proofs.YtfpagioknjjacaaGreatDoor
