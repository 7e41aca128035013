/- The texts Mf. -/
import Derived.Test.YtfpagioknjjacaaGreatDoorQMModesCount19
import Derived.Test.YtfpagioknjjacaaGreatDoorQMModesCount14
import Derived.Test.YtfpagioknjjacaaGreatDoorQMModesCount16
import Derived.Test.YtfpagioknjjacaaGreatDoorQMModesCount9
namespace Go.Proofs.YtfpagioknjjacaaGreatDoor
open Go.Sx
set_option linter.unusedSimpArgs false
set_option linter.unusedVariables false
set_option maxRecDepth 100000
set_option maxHeartbeats 40000000
def ie (n:Nat) (a m:List Rat) (t:Rat):Mx:=fun i q=>a.getD (i*n+q) 0 - t*m.getD (i*n+q) 0
def zG (w:Mx) (i k:Nat):Nat→Rat:=fun q=>if q<k then w i q else 0
theorem G9 (w:Mx) (n i:Nat):List.replicate n (0:Rat)=wJ n (zG w i 0):=by
 refine kB (by simp) fun q hq=> ?_
 unfold zG
 rw[if_neg aa]
 simp[List.getD_eq_getElem?_getD,List.getElem?_replicate,hq]
theorem Oo {n k:Nat} (w:Mx) (i:Nat) (hk:k<n):(wJ n (zG w i k)).set k (w i k)=wJ n (zG w i (k+1)):=by
 refine kB (by rw[List.length_set,dp]) fun q hq=> ?_
 by_cases e:q=k
 ·subst e;rw[qQ (by rw[dp];exact hk)];unfold zG;rw[if_pos aa]
 ·rw[fZ e,da hq]
  unfold zG
  by_cases g:q<k
  ·rw[if_pos g,if_pos aa]
  ·rw[if_neg g,if_neg aa]
theorem Oq (w:Mx) (i n:Nat):wJ n (zG w i n)=wJ n (w i):=List.map_congr_left fun q hq=>by
 unfold zG;rw[if_pos (List.mem_range.1 hq)]
def stS (n:Nat) (w:Mx):Nat→List (Nat×aA)
 |0=>[(1001,⟨190,true,.one [iv n,.val (.slice none 0 0)]⟩)]
 |i+1=>(1001,sqB (i+1) n)::(1002,E3 true (ib (i+1) n))::l9 (fun _=>true) (bz n w) (i+1) 0
abbrev Vd (r:Nat):List Nat:=(List.range r).map fun j=>1010+j
def ksS:Nat→List Nat
 |0=>[1001]
 |i+1=>1001::1002::Vd (i+1)
theorem wK {r n:Nat} (a m:List Rat) (t:Rat) (hrn:r=n) (hr:r≤5) (zR:1≤r) (ha:ot n n a) (hm:ot n n m)
  (hA:∀i q,i<n→q<n→fs (a.getD (i*n+q) 0)+(fs t+fs (m.getD (i*n+q) 0))≤4398046511104):
  af Tryz.prog 139 [mA n n a,mA n n m,.frac t] [] (.ptr 1001 0 0 0) (pU r n (ie n a m t)) []:=by
 obtain⟨w,hw⟩:∃w,ie n a m t=w:=⟨_,rfl⟩
 rw[hw]
 rcases(show r=1∨r=2∨r=3∨r=4∨r=5 by omega)with e1|e1|e1|e1|e1
 all_goals
  rw[e1]
  refine yV (Z:=[3,4,5]) aM bB Tryz.func139 rfl aF (ic.of rfl rfl rfl rfl rfl rfl rfl rfl rfl rfl rfl) rfl (bh.id rfl) ?_
  intro W0 w0 ρ0 hE
  conv=>whnf
  (repeat(first|(refine aC Q6 ?_;conv=>whnf)|(refine aC Q9 ?_;conv=>whnf)))
  refine az hE (fun k=>cond (Nat.beq k 14) 1001 k) [3,4,5,7,16,17] [14] (fun m' fr hp=>∃i:Nat,m'=n - i∧i≤n∧fr=[(3,cx (mC n n a)),(4,cx (mC n n m)),(5,cx [.frac t]),(7,.ptr 1001 0 0 0),(16,iv n),(17,iv i)]∧hp=stS n w i) n ?_ ?_ ?_
  ·kernel_rfl
  ·exact⟨0,rfl,Nat.zero_le _,rfl,rfl⟩
  rintro m' _ _ ⟨i,rfl,hi,rfl,rfl⟩
  by_cases aI:i<n
  ·have hid:i=0∨i=1∨i=2∨i=3∨i=4:=aa
   have t9:=jD aI
   have t5:=cp (i:=i) aa
   obtain⟨KB,hKB⟩:∃K,K=22::ksS i:=⟨_,rfl⟩
   obtain⟨KE,hKE⟩:∃K,K=(1001::62::Vd i)++[22]:=⟨_,rfl⟩
   obtain⟨σ,hσ⟩:∃f:Nat→Nat,f=fun q=>cond (Nat.beq q 62) 1002 (cond (Nat.beq q 22) (1010+i) q):=⟨_,rfl⟩
   rcases hid with e3|e3|e3|e3|e3
   all_goals first|omega|skip
   all_goals
    have s9:=t9
    have s5:=t5
    rw[e3]at s9 s5
    rw[e3]
    conv=>whnf
    (repeat((first|refine av Q3 ?_|refine aN s9 ?_|refine aC Q6 ?_|refine aC Q9 ?_|rw[s9]|rw[Int.toNat_natCast]|rw[Nat.zero_add]);conv=>whnf))
    refine az hE (fun k=>k) [3,4,5,7,8,9,16,17,24,25] KB (fun m'' fr hp=>∃k:Nat,m''=n - k∧k≤n∧fr=[(3,cx (mC n n a)),(4,cx (mC n n m)),(5,cx [.frac t]),(7,.ptr 1001 0 0 0),(8,iv i),(9,.aK 22 5 0 n),(16,iv n),(17,iv i),(24,iv n),(25,iv k)]∧hp=(22,gk (wJ n (zG w i k)))::stS n w i) n ?_ ?_ ?_
    ·subst e3 hKB;kernel_rfl
    ·exact⟨0,rfl,Nat.zero_le _,by subst e3;rfl,by rw[←G9];subst e3 hKB;rfl⟩
    rintro m'' _ _ ⟨k,rfl,hk,rfl,rfl⟩
    have hz:=dp n (zG w i k)
    by_cases G4:k<n
    ·have t6:=jD G4
     have t7:=cp (i:=k) aa
     have oJ:i*n+k<n*n:=Nat.lt_of_lt_of_le (show i*n+k<(i+1)*n by rw[Nat.succ_mul];omega) (Nat.mul_le_mul_right n aI)
     obtain⟨t3,t4⟩:=pe (i:=i) (k:=k) (c:=n) aa aa aa
     have ha1:i*n+k<a.length:=by rw[ha.n];exact oJ
     have Ko:i*n+k<m.length:=by rw[hm.n];exact oJ
     have hs:=hA i k aI G4
     have k1:=s7 t (m.getD (i*n+k) 0) aa
     have k2:=IF (a.getD (i*n+k) 0) (t*m.getD (i*n+k) 0) (by have:=cT t (m.getD (i*n+k) 0);omega)
     have rh:=Oo w i G4
     rw[←hw]at rh
     rw[show ie n a m t i k=a.getD (i*n+k) 0 - t*m.getD (i*n+k) 0 from rfl,hw]at rh
     rw[e3]at hz t3 t4 ha1 Ko k1 k2 rh
     rw[e3]
     conv=>whnf
     (repeat((first|refine aB aF ?_|refine bg Q3 ?_|refine av Q3 ?_|refine a8 (by assumption) ?_|refine aN t6 ?_|refine aC Q6 ?_|refine aC Q18 ?_|refine aC Q9 ?_|rw[t6]|rw[t7]|rw[t3]|rw[t4]|rw[Int.toNat_natCast]|rw[Nat.zero_add]);conv=>whnf))
     exact⟨_,fun k=>k,[3,4,5,7,8,9,16,17,24,25],KB,Nat.sub_lt_sub_left G4 (Nat.lt_succ_self _),by subst e3 hKB;kernel_rfl,k+1,rfl,G4,by subst e3;rfl,by rw[←rh];subst e3 hKB;rfl⟩
    ·have t6:=jP G4
     obtain rfl:k=n:=aa
     rw[Oq]
     rw[e3]
     conv=>whnf
     (repeat((first|refine aW t6 ?_|refine⟨_,[],[(61,⟨36,true,.one [.aK 22 5 0 k]⟩)],[],ph rfl (aM.get (t:=188) rfl) rfl (aM.get (t:=36) rfl) rfl rfl rfl rfl aH,aD,dx rfl,ar, ?_⟩|refine⟨_,[(61,⟨36,true,.one [.aK 22 5 0 k]⟩)],[(62,_)],[],vC (kn:=62) rfl rfl rfl (ak rfl) (ak rfl) (aM.get (t:=188) rfl) rfl (aM.get (t:=188) rfl) rfl (aM.get (t:=36) rfl) (List.mem_cons_self ..) rfl Nat.one_pos rfl rfl aH aH,dD rfl,dx rfl,ar, ?_⟩|refine⟨_,[(1002,_),(61,⟨36,true,.one [.aK 22 5 0 k]⟩)],[(62,_)],[(1002,_)],yY (kn:=62) rfl rfl rfl (ak rfl) (ak rfl) (aM.get (t:=188) rfl) rfl (aM.get (t:=188) rfl) rfl (aM.get (t:=36) rfl) (List.mem_cons_self ..) (List.mem_cons_of_mem _ (List.mem_cons_self ..)) (by rfl) rfl Nat.one_pos rfl (by rfl) rfl aH aH,eX rfl rfl,dx rfl,dQ (List.mem_cons_self ..) rfl rfl rfl, ?_⟩|rw[t6]|rw[s5]|rw[Nat.zero_add]);conv=>whnf))
     subst e3
     exact⟨_,σ,[3,4,5,7,16,17],KE,Nat.sub_lt_sub_left aI (Nat.lt_succ_self _),by subst hσ hKE;kernel_rfl,_,rfl,aI,by subst hσ;rfl,by subst hσ hKE;rfl⟩
  ·have t9:=jP aI
   have e3:i=r:=aa
   rw[e3,e1]at t9
   rw[e3,e1]
   conv=>whnf
   (repeat(first|(refine aW t9 ?_;conv=>whnf)))
   exact⟨aq.refl _,by repeat(first|exact get_nil|refine cL rfl ?_),get_nil⟩
end Go.Proofs.YtfpagioknjjacaaGreatDoor
