/- The texts Qi. -/
import Derived.Test.YtfpagioknjjacaaGreatDoorQMElimsKnown8
namespace Go.Proofs.YtfpagioknjjacaaGreatDoor
open Go.Sx
set_option linter.unusedSimpArgs false
set_option linter.unusedVariables false
set_option maxRecDepth 100000
set_option maxHeartbeats 40000000
abbrev cY:Nat→Int:=fun x=>(x:Int)
abbrev LC (r c:Nat):List SV:=(List.range r).map fun i=>.aO (3010+i) 5 0 c
def LD (M:Nat→List Rat):Nat→Nat→List (Nat×aF)
 |0,_=>[]
 |n+1,i=>(3010+i,HU true (M i))::LD M n (i+1)
abbrev vr (r:Nat):List Nat:=(List.range r).map fun j=>3010+j
abbrev QV (r:Nat):List (Nat×aF):=sn (vr r)
abbrev aei (r m:Nat) (d:Rat):aF:=⟨269,true,.one [.aO 1002 1 0 r,iv m,.val (.slice none 0 0),.frac d]⟩
abbrev H4 (r m c:Nat) (w:Mx):List (Nat×aF):=(1001,aei r m 1)::(1002,II true (LC r c))::LD (aR c w) r 0
abbrev hpR (r m c p:Nat) (sw:Mx) (sp:List Nat) (sd:Rat):List (Nat×aF):=QV r++hpE true true true (fun _=>true) r m c p sd (sp.map cY) (aR c sw)
abbrev QW (r q:Nat):List Nat:=vr r++(1001::1002::q::(List.range r).map fun j=>1010+j)
theorem fS {r:Nat} (m c A:Nat) (w:Mx) (s:St) (hr:r≤6) (Hj:1≤r) (hm:m≤c) (hc:c≤4096) (hA:∀a q,a<r→q<c→fs (w a q)≤A) (h2:2≤A) (hA2:4096*A≤4398046511104) (hs:lg r m ⟨w,[],1⟩=s):
  ab Tryz.prog 223 [.ptr 1001 0 0 0] (H4 r m c w) (.ptr 1001 0 0 0) ((1003,ZA true (s.aH.map cY))::GO (fun _=>true) (aR c s.w) r 0)
   ((1001,Zz true r m s.aH.length s.d)::(1002,II true (uH r c))::QV r):=by
 obtain⟨KR,hKR⟩:∃K,K=QW r 1003:=⟨_,rfl⟩
 obtain⟨K5,hK5⟩:∃K,K=QW r 55:=⟨_,rfl⟩
 rcases(show r=1∨r=2∨r=3∨r=4∨r=5∨r=6 by omega)with e1|e1|e1|e1|e1|e1
 all_goals first|omega|skip
 all_goals
  rw[e1]
  refine qP (Z:=[100010]) aJ bO Tryz.func223 rfl av (fE.of rfl rfl rfl rfl rfl rfl rfl rfl rfl rfl rfl) rfl (bo.id rfl) ?_
  intro W0 w0 ρ0 hE
  conv=>whnf
  (repeat(first|(rw[Nat.zero_add];conv=>whnf)))
  refine K8 hE (fun k=>cond (Nat.ble 3010 k) (k - 2000) k) [0,9,10] (1001::1002::vr r) (vr r) (by subst e1;kernel_rfl) ?_
  refine iS (j:=1001) (p:=2) (k:=1003) (s:=1) (blk:=ZA true []) (by subst e1;rfl) rfl (by subst e1;rfl) rfl rfl ?_
  refine aj hE (fun k=>k) [0,9,10] KR (fun m' fr hp=>∃(k p:Nat) (sw:Mx) (sp:List Nat) (sd:Rat),m'=m - k∧k≤m∧lg r k ⟨w,[],1⟩=⟨sw,sp,sd⟩∧QU r c A ⟨sw,sp,sd⟩∧sp.length=p∧p≤r∧fr=[(0,.ptr 1001 0 0 0),(9,iv m),(10,iv k)]∧hp=hpR r m c p sw sp sd) m ?_ ?_ ?_
  ·subst e1 hKR;kernel_rfl
  ·refine⟨0,0,w,[],1,rfl,Nat.zero_le _,rfl,⟨fun a q ha hq=>by rw[List.length_nil,Nat.pow_zero,Nat.one_mul];exact hA a q ha hq,by rw[List.length_nil,Nat.pow_zero,Nat.one_mul];exact Nat.le_trans (Nat.le_of_eq uy) h2⟩,rfl,Nat.zero_le _,by subst e1;rfl,by subst e1 hKR;rfl⟩
  rintro m' _ _ ⟨k,p,sw,sp,sd,rfl,hk,hrd,gV,hp,hpr,rfl,rfl⟩
  by_cases aE:k<m
  ·have t1:=dx aE
   have t2:=br (i:=k) aa
   have hpd:p=0∨p=1∨p=2∨p=3∨p=4∨p=5∨p=6:=aa
   rcases hpd with e2|e2|e2|e2|e2|e2|e2
   all_goals first|omega|skip
   all_goals
    rw[e1,e2]
    conv=>whnf
    (repeat(first|(refine ao t1 ?_;conv=>whnf)|(rw[t1];conv=>whnf)|(rw[Nat.zero_add];conv=>whnf)))
    refine aj hE (fun k=>k) [0,3,4,5,9,10] KR (fun m'' fr hp=>∃i:Nat,m''=r - i∧p≤i∧i≤r∧(∀a,p≤a→a<i→sw a k=0)∧fr=[(0,.ptr 1001 0 0 0),(3,iv k),(4,iv p),(5,iv i),(9,iv m),(10,iv k)]∧hp=hpR r m c p sw sp sd) (r - p) ?_ ?_ ?_
    ·subst e1 hKR;kernel_rfl
    ·exact⟨p,by subst e1 e2;rfl,Nat.le_refl _,hpr,fun a h1 h2=>aa,by subst e1 e2;rfl,by subst e1 e2 hKR;rfl⟩
    rintro m'' _ _ ⟨i,rfl,hpi,y9,hz,rfl,rfl⟩
    have hid:i=0∨i=1∨i=2∨i=3∨i=4∨i=5∨i=6:=aa
    by_cases hi:i<r
    ·have x1:(aR c sw i).length=c:=bC _ _
     have x2:(aR c sw i).getD k 0=sw i k:=dn (Nat.lt_of_lt_of_le aE hm)
     have k2:=fM (sw i k)
     by_cases yL:sw i k=0
     ·have t3:decide ((sw i k).num.sign=0)=true:=by rw[pT];exact decide_eq_true yL
      have hz':∀a,p≤a→a<i+1→sw a k=0:=fun a h1 h2=>by
       by_cases e:a=i
       ·rw[e];exact yL
       ·exact hz a h1 aa
      subst e1 e2
      rcases hid with e3|e3|e3|e3|e3|e3|e3
      all_goals first|omega|skip
      all_goals
       subst e3
       conv=>whnf
       (repeat((first|refine ag rfl rfl ?_|refine bg Q3 ?_|refine aC Q3 ?_|refine aS (by assumption) ?_|refine ao t3 ?_|refine fQ rfl (ak rfl) rfl (jz rfl) rfl (Nat.succ_ne_zero _) rfl ?_|rw[x1]|rw[x2]|rw[Int.toNat_natCast]|rw[Nat.zero_add]);conv=>whnf))
       exact⟨_,fun k=>k,[0,3,4,5,9,10],KR,Nat.sub_lt_sub_left hi (Nat.lt_succ_self _),by subst hKR;kernel_rfl,_,rfl,Nat.le_succ_of_le hpi,hi,hz',rfl,by subst hKR;rfl⟩
     ·have t3:decide ((sw i k).num.sign=0)=false:=by rw[pT];exact decide_eq_false yL
      have gW:p<r:=aa
      have ud:=H2 (r:=r) (sp:=sp) (sd:=sd) aa hi (fun a h1 h2=>hz a aa h2) yL
      have BJ:=gV.step (k:=k) (i:=i) (Nat.lt_of_lt_of_le aE hm) hi aa
      rw[hp]at ud BJ
      have H5:lg r (k+1) ⟨w,[],1⟩=⟨sH (aP sw i p) p k r,sp++[k],(if i=p then sd else - sd)*aP sw i p p k⟩:=by rw[nS,hrd];exact ud
      have iC:(sp++[k]).length=p+1:=by rw[List.length_append,hp];rfl
      have h4:4*(4^p*A)≤4398046511104:=by
       have h5:4^p≤1024:=Nat.pow_le_pow_right (n:=4) aI (show p≤5 by omega)
       have h6:=Nat.mul_le_mul_right A h5
       omega
      have acs:=Dz (i:=i) (p:=p) gV.w hi gW
      have hsd:=gV.d
      simp only[hp]at acs hsd
      have Ey:fs (if i=p then sd else - sd)+4^p*A≤4398046511104:=by
       have:fs (if i=p then sd else - sd)=fs sd:=by split<;>simp[qF]
       omega
      have k4:=Lu (k:=k) m c p (4^p*A) (if i=p then sd else - sd) (sp.map cY) (aP sw i p) hr gW (Nat.lt_of_lt_of_le aE hm) hc (by rw[pR];exact yL) acs h4 Ey
      have mG:(sp++[k]).map cY=List.take p (sp.map cY)++List.take 1 (List.drop 0 [(k:Int)]):=by rw[List.map_append,List.take_of_length_le (by rw[List.length_map];exact Nat.le_of_eq hp)];rfl
      have hml:(sp.map cY).length=p:=by rw[List.length_map];exact hp
      by_cases hip:i=p
      ·have k3:=OH i
       subst hip
       all_goals first|(exfalso;omega)|skip
       all_goals
        subst e1 e2
        simp only[if_true]at k4 H5 BJ
        conv=>whnf
        (repeat((first|refine ag rfl rfl ?_|refine bg Q3 ?_|refine aC Q3 ?_|refine aS (by assumption) ?_|refine ay t3 ?_|refine fQ rfl (ak rfl) rfl (jz rfl) rfl (Nat.succ_ne_zero _) rfl ?_|refine qe k3 EG ar ?_|rw[x1]|rw[x2]|rw[Int.toNat_natCast]|rw[Nat.zero_add]);conv=>whnf))
        refine bA hE ?_
        conv=>whnf
        (repeat((first|refine aC Q3 ?_|refine qe k4 EG (dm rfl rfl) ?_|rw[t2]|rw[Nat.zero_add]);conv=>whnf))
        exact⟨_,fun q=>cond (Nat.beq q 55) 1003 q,[0,9,10],K5,Nat.sub_lt_sub_left aE (Nat.lt_succ_self _),by subst hK5;kernel_rfl,_,_,_,_,_,rfl,aE,H5,BJ,iC,gW,rfl,by unfold hpR;rw[mG];subst hK5;rfl⟩
      ·have k3:=YW m c p sd (sp.map cY) (aR c sw) hr hi (show p<i by omega)
       obtain⟨σ,hσ⟩:∃f:Nat→Nat,f=fun q=>cond (Nat.beq q (1010+i)) (1010+p) (cond (Nat.beq q (1010+p)) (1010+i) q):=⟨_,rfl⟩
       simp only[if_neg hip]at k4 H5 BJ
       subst e1 e2
       rcases hid with e3|e3|e3|e3|e3|e3|e3
       all_goals first|omega|skip
       all_goals
        subst e3
        conv=>whnf
        (repeat((first|refine ag rfl rfl ?_|refine bg Q3 ?_|refine aC Q3 ?_|refine aS (by assumption) ?_|refine ay t3 ?_|refine fQ rfl (ak rfl) rfl (jz rfl) rfl (Nat.succ_ne_zero _) rfl ?_|refine qe k3 EG (dm rfl rfl) ?_|rw[x1]|rw[x2]|rw[Int.toNat_natCast]|rw[Nat.zero_add]);conv=>whnf))
        refine K9 hE σ [0,3,4,9,10] KR (by subst hσ hKR;kernel_rfl) ?_
        subst hσ hKR
        refine bA hE ?_
        conv=>whnf
        (repeat((first|refine aC Q3 ?_|refine qe k4 EG (dm rfl rfl) ?_|refine And.intro ⟨Nat.le_of_eq hml.symm,Nat.le_refl _,Nat.le_of_ble_eq_true rfl,Nat.le_of_ble_eq_true rfl⟩ ?_|rw[t2]|rw[Nat.zero_add]);conv=>whnf))
        exact⟨_,fun q=>cond (Nat.beq q 55) 1003 q,[0,9,10],K5,Nat.sub_lt_sub_left aE (Nat.lt_succ_self _),by subst hK5;kernel_rfl,_,_,_,_,_,rfl,aE,H5,BJ,iC,gW,rfl,by unfold hpR;rw[mG];subst hK5;rfl⟩
    ·obtain rfl:i=r:=aa
     have ud:=H3 (r:=i) (k:=k) (sw:=sw) (sp:=sp) (sd:=sd) aa fun a h1 h2=>hz a aa h2
     have H5:lg i (k+1) ⟨w,[],1⟩=⟨sw,sp,sd⟩:=by rw[nS,hrd];exact ud
     subst e1 e2
     conv=>whnf
     (repeat(first|(refine ae rfl rfl ?_;conv=>whnf)|(rw[t2];conv=>whnf)|(rw[Nat.zero_add];conv=>whnf)))
     exact⟨_,fun k=>k,[0,9,10],KR,Nat.sub_lt_sub_left aE (Nat.lt_succ_self _),by subst hKR;kernel_rfl,_,_,sw,sp,sd,rfl,aE,H5,gV,hp,hpr,rfl,by subst hKR;rfl⟩
  ·obtain rfl:k=m:=aa
   have t1:=dA aE
   have hss:s=⟨sw,sp,sd⟩:=by rw[←hs];exact hrd
   subst hss hp
   rw[e1]
   conv=>whnf
   (repeat(first|(refine ay t1 ?_;conv=>whnf)))
   subst e1
   exact⟨au.refl _,by repeat(first|exact get_nil|refine dH rfl ?_),by repeat(first|exact get_nil|refine dH rfl ?_)⟩
end Go.Proofs.YtfpagioknjjacaaGreatDoor
