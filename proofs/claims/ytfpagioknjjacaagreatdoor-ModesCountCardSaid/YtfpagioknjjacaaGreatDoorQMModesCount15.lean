/- The texts Qi. -/
import Derived.Test.YtfpagioknjjacaaGreatDoorQMModesCount14
namespace Go.Proofs.YtfpagioknjjacaaGreatDoor
open Go.Sx
set_option linter.unusedSimpArgs false
set_option linter.unusedVariables false
set_option maxRecDepth 100000
set_option maxHeartbeats 40000000
abbrev U8:Nat→Int:=fun x=>(x:Int)
abbrev Oa (r c:Nat):List SV:=(List.range r).map fun i=>.aK (3010+i) 5 0 c
def Ob (M:Nat→List Rat):Nat→Nat→List (Nat×aA)
 |0,_=>[]
 |n+1,i=>(3010+i,uN true (M i))::Ob M n (i+1)
abbrev Bc (r:Nat):List Nat:=(List.range r).map fun j=>3010+j
abbrev U9 (r:Nat):List (Nat×aA):=sZ (Bc r)
abbrev ah7 (r m:Nat) (d:Rat):aA:=⟨269,true,.one [.aK 1002 1 0 r,iv m,.val (.slice none 0 0),.frac d]⟩
abbrev hpH (r m c:Nat) (w:Mx):List (Nat×aA):=(1001,ah7 r m 1)::(1002,E3 true (Oa r c))::Ob (bz c w) r 0
abbrev hpR (r m c p:Nat) (sw:Mx) (sp:List Nat) (sd:Rat):List (Nat×aA):=U9 r++hpE true true true (fun _=>true) r m c p sd (sp.map U8) (bz c sw)
abbrev Va (r q:Nat):List Nat:=Bc r++(1001::1002::q::(List.range r).map fun j=>1010+j)
theorem JX {r:Nat} (m c A:Nat) (w:Mx) (s:St) (hr:r≤6) (zR:1≤r) (hm:m≤c) (hc:c≤4096) (hA:∀a q,a<r→q<c→fs (w a q)≤A) (h2:2≤A) (hA2:4096*A≤4398046511104) (hs:mX r m ⟨w,[],1⟩=s):
  af Tryz.prog 223 [.ptr 1001 0 0 0] (hpH r m c w) (.ptr 1001 0 0 0) ((1003,pvB true (s.bU.map U8))::l9 (fun _=>true) (bz c s.w) r 0)
   ((1001,wkB true r m s.bU.length s.d)::(1002,E3 true (ib r c))::U9 r):=by
 obtain⟨KR,hKR⟩:∃K,K=Va r 1003:=⟨_,rfl⟩
 obtain⟨K5,hK5⟩:∃K,K=Va r 55:=⟨_,rfl⟩
 rcases(show r=1∨r=2∨r=3∨r=4∨r=5∨r=6 by omega)with e1|e1|e1|e1|e1|e1
 all_goals first|omega|skip
 all_goals
  rw[e1]
  refine yV (Z:=[100010]) aM bB Tryz.func223 rfl aF (ic.of rfl rfl rfl rfl rfl rfl rfl rfl rfl rfl rfl) rfl (bh.id rfl) ?_
  intro W0 w0 ρ0 hE
  conv=>whnf
  (repeat(first|(rw[Nat.zero_add];conv=>whnf)))
  refine NZ hE (fun k=>cond (Nat.ble 3010 k) (k - 2000) k) [0,9,10] (1001::1002::Bc r) (Bc r) (by subst e1;kernel_rfl) ?_
  refine qP (j:=1001) (p:=2) (k:=1003) (s:=1) (blk:=pvB true []) (by subst e1;rfl) rfl (by subst e1;rfl) rfl rfl ?_
  refine az hE (fun k=>k) [0,9,10] KR (fun m' fr hp=>∃(k p:Nat) (sw:Mx) (sp:List Nat) (sd:Rat),m'=m - k∧k≤m∧mX r k ⟨w,[],1⟩=⟨sw,sp,sd⟩∧U7 r c A ⟨sw,sp,sd⟩∧sp.length=p∧p≤r∧fr=[(0,.ptr 1001 0 0 0),(9,iv m),(10,iv k)]∧hp=hpR r m c p sw sp sd) m ?_ ?_ ?_
  ·subst e1 hKR;kernel_rfl
  ·refine⟨0,0,w,[],1,rfl,Nat.zero_le _,rfl,⟨fun a q ha hq=>by rw[List.length_nil,Nat.pow_zero,Nat.one_mul];exact hA a q ha hq,by rw[List.length_nil,Nat.pow_zero,Nat.one_mul];exact Nat.le_trans (Nat.le_of_eq mf) h2⟩,rfl,Nat.zero_le _,by subst e1;rfl,by subst e1 hKR;rfl⟩
  rintro m' _ _ ⟨k,p,sw,sp,sd,rfl,hk,hrd,fG,hp,hpr,rfl,rfl⟩
  by_cases aI:k<m
  ·have t1:=jD aI
   have t2:=cp (i:=k) aa
   have hpd:p=0∨p=1∨p=2∨p=3∨p=4∨p=5∨p=6:=aa
   rcases hpd with e2|e2|e2|e2|e2|e2|e2
   all_goals first|omega|skip
   all_goals
    rw[e1,e2]
    conv=>whnf
    (repeat(first|(refine aN t1 ?_;conv=>whnf)|(rw[t1];conv=>whnf)|(rw[Nat.zero_add];conv=>whnf)))
    refine az hE (fun k=>k) [0,3,4,5,9,10] KR (fun m'' fr hp=>∃i:Nat,m''=r - i∧p≤i∧i≤r∧(∀a,p≤a→a<i→sw a k=0)∧fr=[(0,.ptr 1001 0 0 0),(3,iv k),(4,iv p),(5,iv i),(9,iv m),(10,iv k)]∧hp=hpR r m c p sw sp sd) (r - p) ?_ ?_ ?_
    ·subst e1 hKR;kernel_rfl
    ·exact⟨p,by subst e1 e2;rfl,Nat.le_refl _,hpr,fun a h1 h2=>aa,by subst e1 e2;rfl,by subst e1 e2 hKR;rfl⟩
    rintro m'' _ _ ⟨i,rfl,hpi,Mp,hz,rfl,rfl⟩
    have hid:i=0∨i=1∨i=2∨i=3∨i=4∨i=5∨i=6:=aa
    by_cases hi:i<r
    ·have x1:(bz c sw i).length=c:=dp _ _
     have x2:(bz c sw i).getD k 0=sw i k:=da (Nat.lt_of_lt_of_le aI hm)
     have k2:=iU (sw i k)
     by_cases zQ:sw i k=0
     ·have t3:decide ((sw i k).num.sign=0)=true:=by rw[mW];exact decide_eq_true zQ
      have hz':∀a,p≤a→a<i+1→sw a k=0:=fun a h1 h2=>by
       by_cases e:a=i
       ·rw[e];exact zQ
       ·exact hz a h1 aa
      subst e1 e2
      rcases hid with e3|e3|e3|e3|e3|e3|e3
      all_goals first|omega|skip
      all_goals
       subst e3
       conv=>whnf
       (repeat((first|refine ah rfl rfl ?_|refine bg Q3 ?_|refine av Q3 ?_|refine a8 (by assumption) ?_|refine aN t3 ?_|refine cN rfl (ak rfl) rfl (dJ rfl) rfl (Nat.succ_ne_zero _) rfl ?_|rw[x1]|rw[x2]|rw[Int.toNat_natCast]|rw[Nat.zero_add]);conv=>whnf))
       exact⟨_,fun k=>k,[0,3,4,5,9,10],KR,Nat.sub_lt_sub_left hi (Nat.lt_succ_self _),by subst hKR;kernel_rfl,_,rfl,Nat.le_succ_of_le hpi,hi,hz',rfl,by subst hKR;rfl⟩
     ·have t3:decide ((sw i k).num.sign=0)=false:=by rw[mW];exact decide_eq_false zQ
      have zg:p<r:=aa
      have lU:=JV (r:=r) (sp:=sp) (sd:=sd) aa hi (fun a h1 h2=>hz a aa h2) zQ
      have Oc:=fG.step (k:=k) (i:=i) (Nat.lt_of_lt_of_le aI hm) hi aa
      rw[hp]at lU Oc
      have JY:mX r (k+1) ⟨w,[],1⟩=⟨ua (aO sw i p) p k r,sp++[k],(if i=p then sd else - sd)*aO sw i p p k⟩:=by rw[nZ,hrd];exact lU
      have gI:(sp++[k]).length=p+1:=by rw[List.length_append,hp];rfl
      have h4:4*(4^p*A)≤4398046511104:=by
       have h5:4^p≤1024:=Nat.pow_le_pow_right (n:=4) aH (show p≤5 by omega)
       have h6:=Nat.mul_le_mul_right A h5
       omega
      have af1:=E8 (i:=i) (p:=p) fG.w hi zg
      have hsd:=fG.d
      simp only[hp]at af1 hsd
      have ou:fs (if i=p then sd else - sd)+4^p*A≤4398046511104:=by
       have:fs (if i=p then sd else - sd)=fs sd:=by split<;>simp[oX]
       omega
      have k4:=N8 (k:=k) m c p (4^p*A) (if i=p then sd else - sd) (sp.map U8) (aO sw i p) hr zg (Nat.lt_of_lt_of_le aI hm) hc (by rw[AJ];exact zQ) af1 h4 ou
      have jB:(sp++[k]).map U8=List.take p (sp.map U8)++List.take 1 (List.drop 0 [(k:Int)]):=by rw[List.map_append,List.take_of_length_le (by rw[List.length_map];exact Nat.le_of_eq hp)];rfl
      have Pb:(sp.map U8).length=p:=by rw[List.length_map];exact hp
      by_cases hip:i=p
      ·have k3:=RD i
       subst hip
       all_goals first|(exfalso;omega)|skip
       all_goals
        subst e1 e2
        simp only[if_true]at k4 JY Oc
        conv=>whnf
        (repeat((first|refine ah rfl rfl ?_|refine bg Q3 ?_|refine av Q3 ?_|refine a8 (by assumption) ?_|refine aW t3 ?_|refine cN rfl (ak rfl) rfl (dJ rfl) rfl (Nat.succ_ne_zero _) rfl ?_|refine E4 k3 Q13 ar ?_|rw[x1]|rw[x2]|rw[Int.toNat_natCast]|rw[Nat.zero_add]);conv=>whnf))
        refine kG hE ?_
        conv=>whnf
        (repeat((first|refine av Q3 ?_|refine E4 k4 Q13 (kA rfl rfl) ?_|rw[t2]|rw[Nat.zero_add]);conv=>whnf))
        exact⟨_,fun q=>cond (Nat.beq q 55) 1003 q,[0,9,10],K5,Nat.sub_lt_sub_left aI (Nat.lt_succ_self _),by subst hK5;kernel_rfl,_,_,_,_,_,rfl,aI,JY,Oc,gI,zg,rfl,by unfold hpR;rw[jB];subst hK5;rfl⟩
      ·have k3:=acb m c p sd (sp.map U8) (bz c sw) hr hi (show p<i by omega)
       obtain⟨σ,hσ⟩:∃f:Nat→Nat,f=fun q=>cond (Nat.beq q (1010+i)) (1010+p) (cond (Nat.beq q (1010+p)) (1010+i) q):=⟨_,rfl⟩
       simp only[if_neg hip]at k4 JY Oc
       subst e1 e2
       rcases hid with e3|e3|e3|e3|e3|e3|e3
       all_goals first|omega|skip
       all_goals
        subst e3
        conv=>whnf
        (repeat((first|refine ah rfl rfl ?_|refine bg Q3 ?_|refine av Q3 ?_|refine a8 (by assumption) ?_|refine aW t3 ?_|refine cN rfl (ak rfl) rfl (dJ rfl) rfl (Nat.succ_ne_zero _) rfl ?_|refine E4 k3 Q13 (kA rfl rfl) ?_|rw[x1]|rw[x2]|rw[Int.toNat_natCast]|rw[Nat.zero_add]);conv=>whnf))
        refine N0 hE σ [0,3,4,9,10] KR (by subst hσ hKR;kernel_rfl) ?_
        subst hσ hKR
        refine kG hE ?_
        conv=>whnf
        (repeat((first|refine av Q3 ?_|refine E4 k4 Q13 (kA rfl rfl) ?_|refine And.intro ⟨Nat.le_of_eq Pb.symm,Nat.le_refl _,Nat.le_of_ble_eq_true rfl,Nat.le_of_ble_eq_true rfl⟩ ?_|rw[t2]|rw[Nat.zero_add]);conv=>whnf))
        exact⟨_,fun q=>cond (Nat.beq q 55) 1003 q,[0,9,10],K5,Nat.sub_lt_sub_left aI (Nat.lt_succ_self _),by subst hK5;kernel_rfl,_,_,_,_,_,rfl,aI,JY,Oc,gI,zg,rfl,by unfold hpR;rw[jB];subst hK5;rfl⟩
    ·obtain rfl:i=r:=aa
     have lU:=JW (r:=i) (k:=k) (sw:=sw) (sp:=sp) (sd:=sd) aa fun a h1 h2=>hz a aa h2
     have JY:mX i (k+1) ⟨w,[],1⟩=⟨sw,sp,sd⟩:=by rw[nZ,hrd];exact lU
     subst e1 e2
     conv=>whnf
     (repeat(first|(refine ag rfl rfl ?_;conv=>whnf)|(rw[t2];conv=>whnf)|(rw[Nat.zero_add];conv=>whnf)))
     exact⟨_,fun k=>k,[0,9,10],KR,Nat.sub_lt_sub_left aI (Nat.lt_succ_self _),by subst hKR;kernel_rfl,_,_,sw,sp,sd,rfl,aI,JY,fG,hp,hpr,rfl,by subst hKR;rfl⟩
  ·obtain rfl:k=m:=aa
   have t1:=jP aI
   have RL:s=⟨sw,sp,sd⟩:=by rw[←hs];exact hrd
   subst RL hp
   rw[e1]
   conv=>whnf
   (repeat(first|(refine aW t1 ?_;conv=>whnf)))
   subst e1
   exact⟨aq.refl _,by repeat(first|exact get_nil|refine cL rfl ?_),by repeat(first|exact get_nil|refine cL rfl ?_)⟩
end Go.Proofs.YtfpagioknjjacaaGreatDoor
