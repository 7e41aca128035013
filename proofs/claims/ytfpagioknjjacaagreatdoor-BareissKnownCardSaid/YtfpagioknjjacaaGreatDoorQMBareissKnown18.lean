/- The texts Qi. -/
import Derived.Test.YtfpagioknjjacaaGreatDoorQMBareissKnown17
namespace Go.Proofs.YtfpagioknjjacaaGreatDoor
open Go.Sx
set_option linter.unusedSimpArgs false
set_option linter.unusedVariables false
set_option maxRecDepth 100000
set_option maxHeartbeats 40000000
abbrev pc:Nat→Int:=fun x=>(x:Int)
abbrev Lz (r c:Nat):List SV:=(List.range r).map fun i=>.aN (3010+i) 5 0 c
def LA (M:Nat→List Rat):Nat→Nat→List (Nat×aC)
 |0,_=>[]
 |n+1,i=>(3010+i,HA true (M i))::LA M n (i+1)
abbrev uz (r:Nat):List Nat:=(List.range r).map fun j=>3010+j
abbrev Re (r:Nat):List (Nat×aC):=ry (uz r)
abbrev ae2 (r m:Nat) (d:Rat):aC:=⟨269,true,.one [.aN 1002 1 0 r,iv m,.val (.slice none 0 0),.frac d]⟩
abbrev Rf (r m c:Nat) (w:Mx):List (Nat×aC):=(1001,ae2 r m 1)::(1002,Ie true (Lz r c))::LA (bZ c w) r 0
abbrev hpR (r m c p:Nat) (sw:Mx) (sp:List Nat) (sd:Rat):List (Nat×aC):=Re r++hpE true true true (fun _=>true) r m c p sd (sp.map pc) (bZ c sw)
abbrev Rg (r q:Nat):List Nat:=uz r++(1001::1002::q::(List.range r).map fun j=>1010+j)
theorem pd {r:Nat} (m c A:Nat) (w:Mx) (s:St) (hr:r≤6) (Dl:1≤r) (hm:m≤c) (hc:c≤4096) (hA:∀a q,a<r→q<c→fs (w a q)≤A) (h2:2≤A) (hA2:4096*A≤4398046511104) (hs:kP r m ⟨w,[],1⟩=s):
  ab Tryz.prog 223 [.ptr 1001 0 0 0] (Rf r m c w) (.ptr 1001 0 0 0) ((1003,ZU true (s.bg.map pc))::Gc (fun _=>true) (bZ c s.w) r 0)
   ((1001,ZT true r m s.bg.length s.d)::(1002,Ie true (sG r c))::Re r):=by
 obtain⟨KR,hKR⟩:∃K,K=Rg r 1003:=⟨_,rfl⟩
 obtain⟨K5,hK5⟩:∃K,K=Rg r 55:=⟨_,rfl⟩
 rcases(show r=1∨r=2∨r=3∨r=4∨r=5∨r=6 by omega)with e1|e1|e1|e1|e1|e1
 all_goals first|omega|skip
 all_goals
  rw[e1]
  refine p0 (Z:=[100010]) aL bJ Tryz.func223 rfl aB (fG.of rfl rfl rfl rfl rfl rfl rfl rfl rfl rfl rfl) rfl (bh.id rfl) ?_
  intro W0 w0 ρ0 hE
  conv=>whnf
  (repeat(first|(rw[Nat.zero_add];conv=>whnf)))
  refine Lk hE (fun k=>cond (Nat.ble 3010 k) (k - 2000) k) [0,9,10] (1001::1002::uz r) (uz r) (by subst e1;kernel_rfl) ?_
  refine pT (j:=1001) (p:=2) (k:=1003) (s:=1) (blk:=ZU true []) (by subst e1;rfl) rfl (by subst e1;rfl) rfl rfl ?_
  refine ai hE (fun k=>k) [0,9,10] KR (fun m' fr hp=>∃(k p:Nat) (sw:Mx) (sp:List Nat) (sd:Rat),m'=m - k∧k≤m∧kP r k ⟨w,[],1⟩=⟨sw,sp,sd⟩∧Rd r c A ⟨sw,sp,sd⟩∧sp.length=p∧p≤r∧fr=[(0,.ptr 1001 0 0 0),(9,iv m),(10,iv k)]∧hp=hpR r m c p sw sp sd) m ?_ ?_ ?_
  ·subst e1 hKR;kernel_rfl
  ·refine⟨0,0,w,[],1,rfl,Nat.zero_le _,rfl,⟨fun a q ha hq=>by rw[List.length_nil,Nat.pow_zero,Nat.one_mul];exact hA a q ha hq,by rw[List.length_nil,Nat.pow_zero,Nat.one_mul];exact Nat.le_trans (Nat.le_of_eq Ao) h2⟩,rfl,Nat.zero_le _,by subst e1;rfl,by subst e1 hKR;rfl⟩
  rintro m' _ _ ⟨k,p,sw,sp,sd,rfl,hk,hrd,ir,hp,YE,rfl,rfl⟩
  by_cases aA:k<m
  ·have t1:=dX aA
   have t2:=bA (i:=k) aa
   have hpd:p=0∨p=1∨p=2∨p=3∨p=4∨p=5∨p=6:=aa
   rcases hpd with e2|e2|e2|e2|e2|e2|e2
   all_goals first|omega|skip
   all_goals
    rw[e1,e2]
    conv=>whnf
    (repeat(first|(refine aE t1 ?_;conv=>whnf)|(rw[t1];conv=>whnf)|(rw[Nat.zero_add];conv=>whnf)))
    refine ai hE (fun k=>k) [0,3,4,5,9,10] KR (fun m'' fr hp=>∃i:Nat,m''=r - i∧p≤i∧i≤r∧(∀a,p≤a→a<i→sw a k=0)∧fr=[(0,.ptr 1001 0 0 0),(3,iv k),(4,iv p),(5,iv i),(9,iv m),(10,iv k)]∧hp=hpR r m c p sw sp sd) (r - p) ?_ ?_ ?_
    ·subst e1 hKR;kernel_rfl
    ·exact⟨p,by subst e1 e2;rfl,Nat.le_refl _,YE,fun a h1 h2=>aa,by subst e1 e2;rfl,by subst e1 e2 hKR;rfl⟩
    rintro m'' _ _ ⟨i,rfl,hpi,EM,hz,rfl,rfl⟩
    have hid:i=0∨i=1∨i=2∨i=3∨i=4∨i=5∨i=6:=aa
    by_cases hi:i<r
    ·have x1:(bZ c sw i).length=c:=dm _ _
     have x2:(bZ c sw i).getD k 0=sw i k:=fS (Nat.lt_of_lt_of_le aA hm)
     have k2:=qQ (sw i k)
     by_cases yc:sw i k=0
     ·have t3:decide ((sw i k).num.sign=0)=true:=by rw[pa];exact decide_eq_true yc
      have hz':∀a,p≤a→a<i+1→sw a k=0:=fun a h1 h2=>by
       by_cases e:a=i
       ·rw[e];exact yc
       ·exact hz a h1 aa
      subst e1 e2
      rcases hid with e3|e3|e3|e3|e3|e3|e3
      all_goals first|omega|skip
      all_goals
       subst e3
       conv=>whnf
       (repeat((first|refine ag rfl rfl ?_|refine aX Q3 ?_|refine ay Q3 ?_|refine aS (by assumption) ?_|refine aE t3 ?_|refine fP rfl (aj rfl) rfl (jf rfl) rfl (Nat.succ_ne_zero _) rfl ?_|rw[x1]|rw[x2]|rw[Int.toNat_natCast]|rw[Nat.zero_add]);conv=>whnf))
       exact⟨_,fun k=>k,[0,3,4,5,9,10],KR,Nat.sub_lt_sub_left hi (Nat.lt_succ_self _),by subst hKR;kernel_rfl,_,rfl,Nat.le_succ_of_le hpi,hi,hz',rfl,by subst hKR;rfl⟩
     ·have t3:decide ((sw i k).num.sign=0)=false:=by rw[pa];exact decide_eq_false yc
      have nt:p<r:=aa
      have mD:=HB (r:=r) (sp:=sp) (sd:=sd) aa hi (fun a h1 h2=>hz a aa h2) yc
      have AN:=ir.step (k:=k) (i:=i) (Nat.lt_of_lt_of_le aA hm) hi aa
      rw[hp]at mD AN
      have HD:kP r (k+1) ⟨w,[],1⟩=⟨rB (aR sw i p) p k r,sp++[k],(if i=p then sd else - sd)*aR sw i p p k⟩:=by rw[nm,hrd];exact mD
      have iM:(sp++[k]).length=p+1:=by rw[List.length_append,hp];rfl
      have h4:4*(4^p*A)≤4398046511104:=by
       have h5:4^p≤1024:=Nat.pow_le_pow_right (n:=4) aF (show p≤5 by omega)
       have h6:=Nat.mul_le_mul_right A h5
       omega
      have acY:=CU (i:=i) (p:=p) ir.w hi nt
      have hsd:=ir.d
      simp only[hp]at acY hsd
      have DF:fs (if i=p then sd else - sd)+4^p*A≤4398046511104:=by
       have:fs (if i=p then sd else - sd)=fs sd:=by split<;>simp[wK]
       omega
      have k4:=Ls (k:=k) m c p (4^p*A) (if i=p then sd else - sd) (sp.map pc) (aR sw i p) hr nt (Nat.lt_of_lt_of_le aA hm) hc (by rw[y6];exact yc) acY h4 DF
      have lO:(sp++[k]).map pc=List.take p (sp.map pc)++List.take 1 (List.drop 0 [(k:Int)]):=by rw[List.map_append,List.take_of_length_le (by rw[List.length_map];exact Nat.le_of_eq hp)];rfl
      have ZM:(sp.map pc).length=p:=by rw[List.length_map];exact hp
      by_cases hip:i=p
      ·have k3:=OS i
       subst hip
       all_goals first|(exfalso;omega)|skip
       all_goals
        subst e1 e2
        simp only[if_true]at k4 HD AN
        conv=>whnf
        (repeat((first|refine ag rfl rfl ?_|refine aX Q3 ?_|refine ay Q3 ?_|refine aS (by assumption) ?_|refine aM t3 ?_|refine fP rfl (aj rfl) rfl (jf rfl) rfl (Nat.succ_ne_zero _) rfl ?_|refine xo k3 Mt an ?_|rw[x1]|rw[x2]|rw[Int.toNat_natCast]|rw[Nat.zero_add]);conv=>whnf))
        refine dC hE ?_
        conv=>whnf
        (repeat((first|refine ay Q3 ?_|refine xo k4 Mt (fQ rfl rfl) ?_|rw[t2]|rw[Nat.zero_add]);conv=>whnf))
        exact⟨_,fun q=>cond (Nat.beq q 55) 1003 q,[0,9,10],K5,Nat.sub_lt_sub_left aA (Nat.lt_succ_self _),by subst hK5;kernel_rfl,_,_,_,_,_,rfl,aA,HD,AN,iM,nt,rfl,by unfold hpR;rw[lO];subst hK5;rfl⟩
      ·have k3:=Zi m c p sd (sp.map pc) (bZ c sw) hr hi (show p<i by omega)
       obtain⟨σ,hσ⟩:∃f:Nat→Nat,f=fun q=>cond (Nat.beq q (1010+i)) (1010+p) (cond (Nat.beq q (1010+p)) (1010+i) q):=⟨_,rfl⟩
       simp only[if_neg hip]at k4 HD AN
       subst e1 e2
       rcases hid with e3|e3|e3|e3|e3|e3|e3
       all_goals first|omega|skip
       all_goals
        subst e3
        conv=>whnf
        (repeat((first|refine ag rfl rfl ?_|refine aX Q3 ?_|refine ay Q3 ?_|refine aS (by assumption) ?_|refine aM t3 ?_|refine fP rfl (aj rfl) rfl (jf rfl) rfl (Nat.succ_ne_zero _) rfl ?_|refine xo k3 Mt (fQ rfl rfl) ?_|rw[x1]|rw[x2]|rw[Int.toNat_natCast]|rw[Nat.zero_add]);conv=>whnf))
        refine Ll hE σ [0,3,4,9,10] KR (by subst hσ hKR;kernel_rfl) ?_
        subst hσ hKR
        refine dC hE ?_
        conv=>whnf
        (repeat((first|refine ay Q3 ?_|refine xo k4 Mt (fQ rfl rfl) ?_|refine And.intro ⟨Nat.le_of_eq ZM.symm,Nat.le_refl _,Nat.le_of_ble_eq_true rfl,Nat.le_of_ble_eq_true rfl⟩ ?_|rw[t2]|rw[Nat.zero_add]);conv=>whnf))
        exact⟨_,fun q=>cond (Nat.beq q 55) 1003 q,[0,9,10],K5,Nat.sub_lt_sub_left aA (Nat.lt_succ_self _),by subst hK5;kernel_rfl,_,_,_,_,_,rfl,aA,HD,AN,iM,nt,rfl,by unfold hpR;rw[lO];subst hK5;rfl⟩
    ·obtain rfl:i=r:=aa
     have mD:=HC (r:=i) (k:=k) (sw:=sw) (sp:=sp) (sd:=sd) aa fun a h1 h2=>hz a aa h2
     have HD:kP i (k+1) ⟨w,[],1⟩=⟨sw,sp,sd⟩:=by rw[nm,hrd];exact mD
     subst e1 e2
     conv=>whnf
     (repeat(first|(refine af rfl rfl ?_;conv=>whnf)|(rw[t2];conv=>whnf)|(rw[Nat.zero_add];conv=>whnf)))
     exact⟨_,fun k=>k,[0,9,10],KR,Nat.sub_lt_sub_left aA (Nat.lt_succ_self _),by subst hKR;kernel_rfl,_,_,sw,sp,sd,rfl,aA,HD,ir,hp,YE,rfl,by subst hKR;rfl⟩
  ·obtain rfl:k=m:=aa
   have t1:=ez aA
   have hss:s=⟨sw,sp,sd⟩:=by rw[←hs];exact hrd
   subst hss hp
   rw[e1]
   conv=>whnf
   (repeat(first|(refine aM t1 ?_;conv=>whnf)))
   subst e1
   exact⟨aq.refl _,by repeat(first|exact get_nil|refine dL rfl ?_),by repeat(first|exact get_nil|refine dL rfl ?_)⟩
end Go.Proofs.YtfpagioknjjacaaGreatDoor
