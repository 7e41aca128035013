/- The texts Di. -/
import Derived.Test.YtjofnbpcanhfhaaGreatDoorQLModsKnown24
namespace Go.Proofs.YtjofnbpcanhfhaaGreatDoor
open Go.Sx
set_option linter.unusedSimpArgs false
set_option linter.unusedVariables false
set_option maxRecDepth 100000
set_option maxHeartbeats 8000000
theorem md_neg (m p:Int):md (-m) p=md (md 0 p+p - md (md m p) p) p:=by
 unfold md
 by_cases h:p=0
 ·simp[h]
 ·simp only[h,if_false,Int.zero_emod,Int.zero_add,emod_cong]
  have e:p - m % p= -m+p*(m/p+1):=by have:=Int.mul_ediv_add_emod m p;rw[Int.mul_add];omega
  rw[e,Int.add_mul_emod_self_left]
theorem c_ModsRings (x y:(Bool×List Int)×List Int) (p:Nat) (hx1:W32 x.1.2) (hx2:W32 x.2) (hy1:W32 y.1.2) (hy2:W32 y.2) (hp:p<4294967296):
  CallOK Tryz.prog 11 [gV x,gV y,iel .u32 p] [] (.val (.bool true)) [] []:=by
 have kw:=c_works
 refine callV (Z:=[]) tabOK mixedOK Tryz.func11 rfl (by kernel_rfl) rfl rfl (by kernel_rfl) rfl ?_
 intro W0 w0 ρ0 hE
 conv=>whnf
 by_cases h1:x.1.2.length>6
 ·have t1:Hid (decide ((x.1.2.length:Int)>6)=true):=show decide ((x.1.2.length:Int)>6)=true from decide_eq_true (by omega)
  (repeat((first|refine step_w1 rfl rfl ?_|refine step_w2 rfl rfl ?_|refine g_c (by assumption) ?_|refine g_o (op_pickT rfl (ev_ok rfl) (ev_ok rfl)) ?_|refine g_o (op_lenM rfl rfl rfl (ev_ok rfl) (tgt rfl) rfl) ?_|rw[t1.out]);conv=>whnf));(first|exact Recast.refl _|exact Frz.recast (Recast.refl _) rfl|(refine Frz.one rfl rfl ?_;skip)|(refine Frz.tup ?_;skip))
 have t1:Hid (decide ((x.1.2.length:Int)>6)=false):=show decide ((x.1.2.length:Int)>6)=false from decide_eq_false (by omega)
 by_cases h2:x.2.length>6
 ·have t2:Hid (decide ((x.2.length:Int)>6)=true):=show decide ((x.2.length:Int)>6)=true from decide_eq_true (by omega)
  (repeat((first|refine step_w1 rfl rfl ?_|refine step_w2 rfl rfl ?_|refine g_c (by assumption) ?_|refine g_o (op_pickT rfl (ev_ok rfl) (ev_ok rfl)) ?_|refine g_o (op_pickF rfl (ev_ok rfl) (ev_ok rfl)) ?_|refine g_o (op_lenM rfl rfl rfl (ev_ok rfl) (tgt rfl) rfl) ?_|rw[t1.out]|rw[t2.out]);conv=>whnf));(first|exact Recast.refl _|exact Frz.recast (Recast.refl _) rfl|(refine Frz.one rfl rfl ?_;skip)|(refine Frz.tup ?_;skip))
 have t2:Hid (decide ((x.2.length:Int)>6)=false):=show decide ((x.2.length:Int)>6)=false from decide_eq_false (by omega)
 by_cases h3:y.1.2.length>6
 ·have t3:Hid (decide ((y.1.2.length:Int)>6)=true):=show decide ((y.1.2.length:Int)>6)=true from decide_eq_true (by omega)
  (repeat((first|refine step_w1 rfl rfl ?_|refine step_w2 rfl rfl ?_|refine g_c (by assumption) ?_|refine g_o (op_pickT rfl (ev_ok rfl) (ev_ok rfl)) ?_|refine g_o (op_pickF rfl (ev_ok rfl) (ev_ok rfl)) ?_|refine g_o (op_lenM rfl rfl rfl (ev_ok rfl) (tgt rfl) rfl) ?_|rw[t1.out]|rw[t2.out]|rw[t3.out]);conv=>whnf));(first|exact Recast.refl _|exact Frz.recast (Recast.refl _) rfl|(refine Frz.one rfl rfl ?_;skip)|(refine Frz.tup ?_;skip))
 have t3:Hid (decide ((y.1.2.length:Int)>6)=false):=show decide ((y.1.2.length:Int)>6)=false from decide_eq_false (by omega)
 by_cases h4:y.2.length>6
 ·have t4:Hid (decide ((y.2.length:Int)>6)=true):=show decide ((y.2.length:Int)>6)=true from decide_eq_true (by omega)
  (repeat((first|refine step_w1 rfl rfl ?_|refine g_c (by assumption) ?_|refine g_o (op_pickF rfl (ev_ok rfl) (ev_ok rfl)) ?_|refine g_o (op_lenM rfl rfl rfl (ev_ok rfl) (tgt rfl) rfl) ?_|rw[t1.out]|rw[t2.out]|rw[t3.out]|rw[t4.out]);conv=>whnf));(first|exact Recast.refl _|exact Frz.recast (Recast.refl _) rfl|(refine Frz.one rfl rfl ?_;skip)|(refine Frz.tup ?_;skip))
 have t4:Hid (decide ((y.2.length:Int)>6)=false):=show decide ((y.2.length:Int)>6)=false from decide_eq_false (by omega)
 have ok:=natBig
 have wx1:Words 1073741824 x.1.2:=⟨hx1,by omega,by omega⟩
 have wx2:Words 1073741824 x.2:=⟨hx2,by omega,by omega⟩
 have wy1:Words 1073741824 y.1.2:=⟨hy1,by omega,by omega⟩
 have wy2:Words 1073741824 y.2:=⟨hy2,by omega,by omega⟩
 have sm:sz (zI x.1).natAbs≤192:=Nat.le_trans (sz_zI hx1) (by omega)
 have sn:sz (zI y.1).natAbs≤192:=Nat.le_trans (sz_zI hy1) (by omega)
 have sxv:=sz_val hx2 x.2.length
 have syv:=sz_val hy2 y.2.length
 have sd1:sz ((valI x.2 x.2.length).toNat+1)≤194:=Nat.le_trans (sz_add (k:=193) (by omega) (by rw[sz_one];omega)) (by omega)
 have sd2:sz ((valI y.2 y.2.length).toNat+1)≤194:=Nat.le_trans (sz_add (k:=193) (by omega) (by rw[sz_one];omega)) (by omega)
 have fa:fsz (gQ x)≤194:=fsz_mkRat (Nat.succ_ne_zero _) (by omega) sd1
 have fb:fsz (gQ y)≤194:=fsz_mkRat (Nat.succ_ne_zero _) (by omega) sd2
 have k1:=c_ZOf ok x.1 wx1
 have k2:=c_ZOf ok y.1 wy1
 have k3:=c_GreatOf ok x wx1 wx2
 have k4:=c_GreatOf ok y wy1 wy2
 generalize zI x.1=m at*
 generalize zI y.1=n at*
 generalize gQ x=a at*
 generalize gQ y=b at*
 have k5:=c_iAdd ok m n (by omega) (by omega)
 have sa:sz (m+n).natAbs≤194:=sz_iadd (k:=193) (by omega) (by omega) (by omega)
 have k6:=c_OfInt ok (m+n) p (by omega) (by omega) (by omega)
 have k7:=c_OfInt ok m p (by omega) (by omega) (by omega)
 have k8:=c_OfInt ok n p (by omega) (by omega) (by omega)
 obtain⟨bm0,bm1⟩:=md_bds (n:=m) (p:=(p:Int)) (by omega) (by omega)
 obtain⟨bn0,bn1⟩:=md_bds (n:=n) (p:=(p:Int)) (by omega) (by omega)
 have k9:=c_Add (md m p) (md n p) p bm0 bm1 bn0 bn1 (by omega) (by omega)
 have q1:Hid ((md (m+n) p != md (md m p+md n p) p)=false):=show(md (m+n) p != md (md m p+md n p) p)=false from by rw[md_add,md_add'];exact bne_self_eq_false _
 have sp:sz (m*n).natAbs≤384:=by rw[Int.natAbs_mul];have:=sz_mul m.natAbs n.natAbs;omega
 have k10:=c_iMul ok m n (by omega)
 have k11:=c_OfInt ok (m*n) p (by omega) (by omega) (by omega)
 have k12:=c_Mul (md m p) (md n p) p bm0 bm1 bn0 bn1 (by omega) (by omega)
 have q2:Hid ((md (m*n) p != md (md m p*md n p) p)=false):=show(md (m*n) p != md (md m p*md n p) p)=false from by rw[md_mul];exact bne_self_eq_false _
 have k13:=c_Neg m
 have k14:=c_OfInt ok (-m) p (by rw[Int.natAbs_neg];omega) (by omega) (by omega)
 have k15:=c_Sub 0 (md m p) p (by omega) (by omega) bm0 bm1 (by omega) (by omega)
 have q3:Hid ((md (-m) p != md (md 0 p+p - md (md m p) p) p)=false):=show(md (-m) p != md (md 0 p+p - md (md m p) p) p)=false from by rw[md_neg];exact bne_self_eq_false _
 have k16:=c_OfFrac ok a p (by omega) hp
 have k17:=c_OfFrac ok b p (by omega) hp
 by_cases o1:(ofFracF a p).2=true
 ·by_cases o2:(ofFracF b p).2=true
  ·have hp0:p≠0:=by rintro rfl;rw[ofFrac_p0]at o1;cases o1
   obtain⟨s1,s2⟩:=ofFrac_add hp0 o1 o2
   obtain⟨s3,s4⟩:=ofFrac_mul hp0 o1 o2
   have fs:=@fsz_add a b
   have fm:=@fsz_mul a b
   have k18:=c_fAdd ok a b (by omega)
   have k19:=c_fMul ok a b (by omega)
   have k20:=c_OfFrac ok (a+b) p (by omega) hp
   have k21:=c_OfFrac ok (a*b) p (by omega) hp
   rw[s1,s2]at k20
   rw[s3,s4]at k21
   rw[o1]at k16
   rw[o2]at k17
   have ga:Nat.gcd p a.den=1:=Classical.byContradiction fun h=>by rw[(ofFrac_spec hp0).2 h]at o1;cases o1
   have gb:Nat.gcd p b.den=1:=Classical.byContradiction fun h=>by rw[(ofFrac_spec hp0).2 h]at o2;cases o2
   obtain⟨_,r0,r1,_⟩:=(ofFrac_spec (q:=a) hp0).1 ga
   obtain⟨_,v0,v1,_⟩:=(ofFrac_spec (q:=b) hp0).1 gb
   generalize (ofFracF a p).1=r at*
   generalize (ofFracF b p).1=s at*
   have k22:=c_Add r s p r0 (by omega) v0 (by omega) (by omega) (by omega)
   have k23:=c_Mul r s p r0 (by omega) v0 (by omega) (by omega) (by omega)
   (repeat((first|refine step_w1 rfl rfl ?_|refine step_w2 rfl rfl ?_|refine step_i (by kernel_rfl) ?_|refine g_c (by assumption) ?_|refine g_o (op_pickT rfl (ev_ok rfl) (ev_ok rfl)) ?_|refine g_o (op_pickF rfl (ev_ok rfl) (ev_ok rfl)) ?_|rw[beq_self_eq_true]|refine g_o (op_lenM rfl rfl rfl (ev_ok rfl) (tgt rfl) rfl) ?_|rw[t1.out]|rw[t2.out]|rw[t3.out]|rw[t4.out]|rw[q1.out]|rw[q2.out]|rw[q3.out]);conv=>whnf));(first|exact Recast.refl _|exact Frz.recast (Recast.refl _) rfl|(refine Frz.one rfl rfl ?_;skip)|(refine Frz.tup ?_;skip))
  ·have o2:(ofFracF b p).2=false:=by simpa using o2
   rw[o1]at k16
   rw[o2]at k17
   (repeat((first|refine step_w1 rfl rfl ?_|refine step_w2 rfl rfl ?_|refine step_i (by kernel_rfl) ?_|refine g_c (by assumption) ?_|refine g_o (op_pickF rfl (ev_ok rfl) (ev_ok rfl)) ?_|refine g_o (op_lenM rfl rfl rfl (ev_ok rfl) (tgt rfl) rfl) ?_|rw[t1.out]|rw[t2.out]|rw[t3.out]|rw[t4.out]|rw[q1.out]|rw[q2.out]|rw[q3.out]);conv=>whnf));(first|exact Recast.refl _|exact Frz.recast (Recast.refl _) rfl|(refine Frz.one rfl rfl ?_;skip)|(refine Frz.tup ?_;skip))
 ·have o1:(ofFracF a p).2=false:=by simpa using o1
  rw[o1]at k16
  (repeat((first|refine step_w1 rfl rfl ?_|refine step_w2 rfl rfl ?_|refine step_i (by kernel_rfl) ?_|refine g_c (by assumption) ?_|refine g_o (op_pickT rfl (ev_ok rfl) (ev_ok rfl)) ?_|refine g_o (op_pickF rfl (ev_ok rfl) (ev_ok rfl)) ?_|refine g_o (op_lenM rfl rfl rfl (ev_ok rfl) (tgt rfl) rfl) ?_|rw[t1.out]|rw[t2.out]|rw[t3.out]|rw[t4.out]|rw[q1.out]|rw[q2.out]|rw[q3.out]);conv=>whnf));(first|exact Recast.refl _|exact Frz.recast (Recast.refl _) rfl|(refine Frz.one rfl rfl ?_;skip)|(refine Frz.tup ?_;skip))
theorem law_ModsRings (x y:(Bool×List Int)×List Int) (p:Int) (w0:(True∧(x.1.2.length≤maxLen∧∀z∈x.1.2,(Lit.int .u32 z).wf=true))∧(x.2.length≤maxLen∧∀z∈x.2,(Lit.int .u32 z).wf=true))
  (w1:(True∧(y.1.2.length≤maxLen∧∀z∈y.1.2,(Lit.int .u32 z).wf=true))∧(y.2.length≤maxLen∧∀z∈y.2,(Lit.int .u32 z).wf=true)) (w2:(Lit.int .u32 p).wf=true):
  CallOK Tryz.prog 11 [gV x,gV y,iel .u32 p] [] (.val (.bool true)) [] []:=by
 obtain⟨h1,h2⟩:=wf_u32 w2
 obtain⟨q,rfl⟩:=Int.eq_ofNat_of_zero_le h1
 exact c_ModsRings x y q (wf_w32 w0.1.2.2) (wf_w32 w0.2.2) (wf_w32 w1.1.2.2) (wf_w32 w1.2.2) (by omega)
end Go.Proofs.YtjofnbpcanhfhaaGreatDoor
