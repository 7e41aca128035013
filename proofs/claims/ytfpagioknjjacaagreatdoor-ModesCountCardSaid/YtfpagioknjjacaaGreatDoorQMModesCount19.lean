/- The texts Me. -/
import Derived.Test.YtfpagioknjjacaaGreatDoorQMModesCount18
namespace Go.Proofs.YtfpagioknjjacaaGreatDoor
open Go.Sx
set_option linter.unusedSimpArgs false
set_option linter.unusedVariables false
set_option maxRecDepth 100000
set_option maxHeartbeats 40000000
def A1 (X:Mx) (t f:Nat) (c:Rat) (q:Nat):Mx:=fun a l=>if a=t∧l<q then X a l+c*X f l else X a l
def A2 (X:Mx) (t f:Nat) (c:Rat) (k:Nat):Mx:=fun a l=>if l=t∧a<k then X a l+c*X a f else X a l
theorem RQ (X:Mx) (t f:Nat) (c:Rat):A1 X t f c 0=X:=by funext a l;unfold A1;rw[if_neg aa]
theorem RS (X:Mx) (t f:Nat) (c:Rat):A2 X t f c 0=X:=by funext a l;unfold A2;rw[if_neg aa]
theorem Vb (X:Mx) (t f q a:Nat) (c:Rat):A1 X t f c q a q=X a q:=by unfold A1;rw[if_neg aa]
theorem IH (X:Mx) (t f k l:Nat) (c:Rat):A2 X t f c k k l=X k l:=by unfold A2;rw[if_neg aa]
theorem RT (X:Mx) (t f q:Nat) (c:Rat):zF (A1 X t f c q) t q (A1 X t f c q t q+c*A1 X t f c q f q)=A1 X t f c (q+1):=by
 funext a l
 rw[Vb,Vb]
 unfold zF A1
 by_cases e:a=t∧l=q
 ·rw[if_pos e,if_pos aa,e.1,e.2]
 ·rw[if_neg e]
  by_cases g:a=t∧l<q
  ·rw[if_pos g,if_pos aa]
  ·rw[if_neg g,if_neg aa]
theorem RU (X:Mx) (t f k:Nat) (c:Rat):zF (A2 X t f c k) k t (A2 X t f c k k t+c*A2 X t f c k k f)=A2 X t f c (k+1):=by
 funext a l
 rw[IH,IH]
 unfold zF A2
 by_cases e:a=k∧l=t
 ·rw[if_pos e,if_pos aa,e.1,e.2]
 ·rw[if_neg e]
  by_cases g:l=t∧a<k
  ·rw[if_pos g,if_pos aa]
  ·rw[if_neg g,if_neg aa]
theorem Ff {n t f:Nat} {X:Mx} {c:Rat} (a7:t≠f):∀a l,a<n→l<n→t<n→f<n→A2 (A1 X t f c n) t f c n a l=kY X t f c a l:=by
 intro a l ha hl ht hf
 unfold A2 A1 kY
 by_cases h1:a=t
 ·by_cases h2:l=t
  ·rw[if_pos ⟨h2,ha⟩,if_pos ⟨h1,hl⟩,if_pos ⟨h1,hf⟩,if_pos h1,if_pos h2,if_pos h1,if_pos h2];subst h1 h2;grind
  ·rw[if_neg aa,if_pos ⟨h1,hl⟩,if_pos h1,if_neg h2,if_pos h1,if_neg h2];grind
 ·by_cases h2:l=t
  ·rw[if_pos ⟨h2,ha⟩,if_neg aa,if_neg aa,if_neg h1,if_pos h2,if_neg h1];grind
  ·rw[if_neg aa,if_neg aa,if_neg h1,if_neg h2,if_neg h1];grind
theorem Fg {n a:Nat} {X Y:Mx} (h:∀l,l<n→X a l=Y a l):bz n X a=bz n Y a:=List.map_congr_left fun l hl=>h l (List.mem_range.1 hl)
theorem Fh {r n:Nat} {X Y:Mx} (h:∀a l,a<r→l<n→X a l=Y a l):vE r n X=vE r n Y:=vy r 0 fun a _ h2=>Fg fun l hl=>h a l aa hl
theorem uS {r n:Nat} {X Y:Mx} (h:∀a l,a<r→l<n→X a l=Y a l):pU r n X=pU r n Y:=by unfold pU;rw[Fh h]
theorem G8 {n A C q:Nat} {X:Mx} {t f:Nat} {c:Rat} (hA:∀a q,a<n→q<n→fs (X a q)≤A) (hC:fs c≤C) (hf:f<n):∀a l,a<n→l<n→fs (A1 X t f c q a l)≤2*A+C:=by
 intro a l ha hl
 unfold A1
 split
 ·have h1:=iH (X a l) (c*X f l)
  have h2:=cT c (X f l)
  have h3:=hA a l ha hl
  have h4:=hA f l hf hl
  omega
 ·have h3:=hA a l ha hl;omega
theorem On {n A C:Nat} {X:Mx} {t f:Nat} {c:Rat} (hA:∀a q,a<n→q<n→fs (X a q)≤A) (hC:fs c≤C) (ht:t<n) (hf:f<n) (a7:t≠f):∀a l,a<n→l<n→fs (kY X t f c a l)≤4*A+3*C:=by
 intro a l ha hl
 rw[←Ff a7 a l ha hl ht hf]
 unfold A2
 have h5:=G8 (q:=n) (t:=t) hA hC hf a l ha hl
 split
 ·have h1:=iH (A1 X t f c n a l) (c*A1 X t f c n a f)
  have h2:=cT c (A1 X t f c n a f)
  have h3:=G8 (q:=n) (t:=t) hA hC hf a f ha hf
  omega
 ·omega
theorem Vc {r n t f:Nat} (A C:Nat) (X:Mx) (c:Rat) (hrn:r=n) (hr:r≤6) (ht:t<n) (hf:f<n) (a7:t≠f) (hA:∀a q,a<n→q<n→fs (X a q)≤A) (hC:fs c≤C) (hH:4*A+3*C≤4398046511104):
  af Tryz.prog 294 [.ptr 1001 0 0 0,iv t,iv f,.frac c] (pU r n X) (.cC []) [] (pU r n (kY X t f c)):=by
 rw[←uS (r:=r) (n:=n) (X:=A2 (A1 X t f c n) t f c n) fun a l ha hl=>Ff a7 a l aa hl ht hf]
 obtain⟨KR,hKR⟩:∃K,K=1001::1002::(List.range r).map fun j=>1010+j:=⟨_,rfl⟩
 have UQ:=gG (r:=r) (n:=n) (j:=t) aa aa
 have Km:=gG (r:=r) (n:=n) (j:=f) aa aa
 have htr:t<r:=aa
 have hfr:f<r:=aa
 have hz:=fun q=>G8 (n:=n) (t:=t) (f:=f) (q:=q) hA hC hf
 rcases(show r=1∨r=2∨r=3∨r=4∨r=5∨r=6 by omega)with e1|e1|e1|e1|e1|e1
 all_goals
  rw[e1]
  rw[e1]at UQ Km
  refine pf (Z:=[7,700026,700035,700038,700055,700064,700067]) aM bB Tryz.func294 rfl aF (bV.of rfl rfl rfl rfl rfl rfl rfl rfl rfl rfl rfl) rfl ?_
  intro W0 w0 ρ0 hE
  conv=>whnf
  (repeat(first|(refine aC Pa ?_;conv=>whnf)|(rw[Nat.zero_add];conv=>whnf)))
  refine az hE (fun k=>k) [0,1,2,8,15,16] KR (fun m' fr hp=>∃q:Nat,m'=n - q∧q≤n∧fr=[(0,.ptr 1001 0 0 0),(1,iv t),(2,iv f),(8,.clo 340 [] [cx [.frac c]]),(15,iv n),(16,iv q)]∧hp=pU r n (A1 X t f c q)) n ?_ ?_ ?_
  ·subst e1 hKR;kernel_rfl
  ·exact⟨0,rfl,Nat.zero_le _,rfl,by rw[RQ];subst e1 hKR;rfl⟩
  rintro m' _ _ ⟨q,rfl,hq,rfl,rfl⟩
  by_cases aI:q<n
  ·have t1:=jD aI
   have t2:=cp (i:=q) aa
   have hy:=hz q f q hf aI
   have kc:=Om (A1 X t f c q) c (A1 X t f c q f q) htr aI (by have:=hz q t q ht aI;omega)
   rw[RT]at kc
   have ou:=fun j=>y4 (r:=r) (n:=n) (j:=j) (X:=A1 X t f c q)
   have Hh:=hfr
   rw[e1]at kc ou Hh
   rw[e1]
   conv=>whnf
   (repeat(first|(refine aB aF ?_;conv=>whnf)|(refine av Q3 ?_;conv=>whnf)|(refine vh (by assumption) rfl rfl ?_;conv=>whnf)|(refine⟨[_,_],_,[],[_,_],(by assumption),eX rfl rfl,an,pD (List.mem_cons_self ..) rfl rfl rfl (List.mem_cons_of_mem _ (List.mem_cons_self ..)) rfl rfl rfl, ?_⟩;conv=>whnf)|(refine aN t1 ?_;conv=>whnf)|(refine cN rfl (ak rfl) rfl (dJ rfl) UQ (Nat.succ_ne_zero _) rfl ?_;conv=>whnf)|(refine cN rfl (ak rfl) rfl (dJ rfl) Km (Nat.succ_ne_zero _) rfl ?_;conv=>whnf)|(refine iZ rfl (ak rfl) (ou f Hh) (dJ rfl) Lx (da aa) rfl (Nat.succ_ne_zero _) rfl ?_;conv=>whnf)|(refine⟨_,_,[],_,kc,CS ou,an,y3, ?_⟩;conv=>whnf)|(rw[t1];conv=>whnf)|(rw[t2];conv=>whnf)|(rw[Int.toNat_natCast];conv=>whnf)|(rw[Nat.zero_add];conv=>whnf)))
   exact⟨n - (q+1),fun k=>k,[0,1,2,8,15,16],KR,aa,by subst e1 hKR;kernel_rfl,q+1,rfl,aI,rfl,by subst e1 hKR;rfl⟩
  ·have t1:=jP aI
   obtain rfl:q=n:=aa
   rw[e1]
   conv=>whnf
   (repeat(first|(refine aW t1 ?_;conv=>whnf)|(rw[t1];conv=>whnf)|(rw[Nat.zero_add];conv=>whnf)))
   refine az hE (fun k=>k) [0,1,2,8,44,45] KR (fun m' fr hp=>∃k:Nat,m'=q - k∧k≤q∧fr=[(0,.ptr 1001 0 0 0),(1,iv t),(2,iv f),(8,.clo 340 [] [cx [.frac c]]),(44,iv q),(45,iv k)]∧hp=pU r q (A2 (A1 X t f c q) t f c k)) q ?_ ?_ ?_
   ·subst e1 hKR;kernel_rfl
   ·exact⟨0,rfl,Nat.zero_le _,rfl,by rw[RS];subst e1 hKR;rfl⟩
   rintro m' _ _ ⟨k,rfl,hk,rfl,rfl⟩
   by_cases hlk:k<q
   ·have t3:=jD hlk
    have t2:=cp (i:=k) aa
    have hkr:=Nat.lt_of_lt_of_eq hlk hrn.symm
    have hs3:=gG (n:=q) aa hkr
    have kc:=Om (A2 (A1 X t f c q) t f c k) c (A2 (A1 X t f c q) t f c k k f) hkr ht (by rw[IH,IH];have h1:=hz q k t hlk ht;have h2:=hz q k f hlk hf;omega)
    rw[RU]at kc
    have ou:=fun j=>y4 (r:=r) (n:=q) (j:=j) (X:=A2 (A1 X t f c q) t f c k)
    rw[e1]at kc ou hkr hs3
    rw[e1]
    conv=>whnf
    (repeat(first|(refine aB aF ?_;conv=>whnf)|(refine av Q3 ?_;conv=>whnf)|(refine vh (by assumption) rfl rfl ?_;conv=>whnf)|(refine⟨[_,_],_,[],[_,_],(by assumption),eX rfl rfl,an,pD (List.mem_cons_self ..) rfl rfl rfl (List.mem_cons_of_mem _ (List.mem_cons_self ..)) rfl rfl rfl, ?_⟩;conv=>whnf)|(refine aN t3 ?_;conv=>whnf)|(refine cN rfl (ak rfl) rfl (dJ rfl) hs3 (Nat.succ_ne_zero _) rfl ?_;conv=>whnf)|(refine iZ rfl (ak rfl) (ou k hkr) (dJ rfl) Lx (da aa) rfl (Nat.succ_ne_zero _) rfl ?_;conv=>whnf)|(refine⟨_,_,[],_,kc,CS ou,an,y3, ?_⟩;conv=>whnf)|(rw[t3];conv=>whnf)|(rw[t2];conv=>whnf)|(rw[Int.toNat_natCast];conv=>whnf)|(rw[Nat.zero_add];conv=>whnf)))
    exact⟨q - (k+1),fun k=>k,[0,1,2,8,44,45],KR,aa,by subst e1 hKR;kernel_rfl,k+1,rfl,hlk,rfl,by subst e1 hKR;rfl⟩
   ·have t3:=jP hlk
    obtain rfl:k=q:=aa
    rw[e1]
    conv=>whnf
    (repeat(first|(refine aW t3 ?_;conv=>whnf)))
    exact⟨aq.refl _,get_nil,by repeat(first|exact get_nil|refine cL rfl ?_)⟩
end Go.Proofs.YtfpagioknjjacaaGreatDoor
