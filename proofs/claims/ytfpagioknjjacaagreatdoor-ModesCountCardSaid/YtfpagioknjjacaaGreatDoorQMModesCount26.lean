/- The texts Mj. -/
import Derived.Test.YtfpagioknjjacaaGreatDoorQMModesCount25
import Derived.Test.YtfpagioknjjacaaGreatDoorQMModesCount6
namespace Go.Proofs.YtfpagioknjjacaaGreatDoor
open Go.Sx
set_option linter.unusedSimpArgs false
set_option linter.unusedVariables false
set_option maxRecDepth 100000
set_option maxHeartbeats 80000000
theorem J2 (n:Nat):List.replicate n (SV.val (.bool false))=wM n fun _=>false:=List.ext_getElem (by simp[wM]) (by simp[wM])
theorem OF {r n i:Nat} {A:Nat} {X Y:Mx} {d:Nat→Bool} (hrn:r=n) (hr:r≤5) (zR:1≤r) (hA:∀a q,a<n→q<n→fs (X a q)≤A) (hH:4*A+6≤4398046511104) (h:yk n X d=some (i,Y)):
  af Tryz.prog 293 [.ptr 1001 0 0 0,.aK 1003 1 0 n] (wN r n X d) (.cC [iv i,.val (.bool true)]) [] (wN r n Y d):=by
 have hs:=kg n X d
 rw[h]at hs
 cases hs with
 |diag h1 h2 h3 h4=>exact OE X d hrn hr h1 h4 h2 h3
 |@mix i k h1 h2 h3 h4 h5 h6 h7=>exact Fm (i:=i) (k:=k) A X _ d i true hrn hr zR aa hA hH h6 h7 (fun _=>⟨h2,h3,h4,h5,rfl,rfl,rfl⟩) (fun e=>aa)
theorem OG {r n:Nat} {A:Nat} {X:Mx} {d:Nat→Bool} (hrn:r=n) (hr:r≤5) (zR:1≤r) (hA:∀a q,a<n→q<n→fs (X a q)≤A) (hH:4*A+6≤4398046511104) (h:yk n X d=none):
  af Tryz.prog 293 [.ptr 1001 0 0 0,.aK 1003 1 0 n] (wN r n X d) (.cC [iv 0,.val (.bool false)]) [] (wN r n X d):=by
 have hs:=kg n X d
 rw[h]at hs
 cases hs with
 |none h1 h2=>exact Fm (i:=n) (k:=0) A X _ d 0 false hrn hr zR (Nat.le_refl _) hA hH h1 (fun j l hj hl _=>h2 j l hj hl) (fun e=>aa) (fun _=>⟨rfl,rfl,rfl⟩)
theorem R9 {n i A:Nat} {X Y:Mx} {d:Nat→Bool} (hA:∀a q,a<n→q<n→fs (X a q)≤A) (h:yk n X d=some (i,Y)):∀a q,a<n→q<n→fs (Y a q)≤4*A+6:=by
 have hs:=kg n X d
 rw[h]at hs
 cases hs with
 |diag h1 h2 h3 h4=>exact fun a q ha hq=>by have:=hA a q ha hq;omega
 |@mix i k h1 h2 h3 h4 h5 h6 h7=>
  have a7:i≠k:=fun e=>by
   rcases h6 i h1 with g|g
   ·rw[g]at h3;cases h3
   ·rw[←e]at h5;exact h5 g
  exact fun a q ha hq=>On (C:=2) hA (Nat.le_of_eq mf) h1 h2 a7 a q ha hq
theorem Sa {n i k B:Nat} {Y:Mx} (hi:i<n) (hB:∀a q,a<n→q<n→fs (Y a q)≤B):∀a q,a<n→q<n→fs (hO Y i k a q)≤4*B:=by
 intro a q ha hq
 unfold hO
 have h1:=hB a q ha hq
 have h2:=hB a i ha hi
 have h3:=hB i q hi hq
 have h4:=hB i i hi hi
 split
 ·have g1:=uv (Y a q) (Y a i*Y i q/Y i i)
  have g2:=qz (Y a i*Y i q) (Y i i)
  have g3:=cT (Y a i) (Y i q)
  omega
 ·omega
theorem stk {Y:Mx} {i k:Nat}:hO Y i k k i=Y k i:=by unfold hO;rw[if_neg aa]
abbrev cB (m p:Nat):aA:=⟨196,true,.one [iv m,iv (0:Nat),iv p]⟩
abbrev qdB (q:Rat):aA:=⟨52,true,.one [.frac q]⟩
theorem OH {r n:Nat} {X:Mx} {d:Nat→Bool} {hp:List (Nat×aA)} (h0:find hp 1003=some (doB n d)) (h1:find hp 1001=some (sqB r n)) (h2:find hp 1002=some (E3 true (ib r n))) (h:∀j,j<r→find hp (1010+j)=some (uN true (bz n X j))):vJ hp (wN r n X d):=by
 intro k b hm
 rcases List.mem_cons.1 hm with e|hm
 ·cases e;exact h0
 ·exact uV h1 h2 h k b hm
theorem IM {r n:Nat} {X Y:Mx} {d:Nat→Bool}:kO (wN r n X d) (wN r n Y d):=by
 intro k b hm
 rcases List.mem_cons.1 hm with e|hm
 ·cases e;exact⟨_,List.mem_cons_self ..,rfl,rfl,rfl⟩
 ·obtain⟨b0,h1,h2⟩:=pW (X:=X) k b hm
  exact⟨b0,List.mem_cons_of_mem _ h1,h2⟩
theorem sign_neg {q:Rat} (h:q<0):q.num.sign= -1:=by
 have:¬0≤q.num:=fun g=>by have:=Rat.num_nonneg.1 g;grind
 exact Int.sign_eq_neg_one_of_neg aa
theorem OI {q:Rat} (h:0<q):q.num.sign=1:=by
 have h1:0≤q.num:=Rat.num_nonneg.2 (by grind)
 have h2:q.num≠0:=fun g=>by have:=Rat.num_eq_zero.1 g;grind
 exact Int.sign_eq_one_of_pos aa
theorem uX {r n:Nat} (A:Nat) (X:Mx) (F:IS) (hrn:r=n) (hr:r≤5) (zR:1≤r) (Pj:cZ n X) (hA:∀a q,a<n→q<n→fs (X a q)≤A) (h2:2≤A) (hM:A≤80000) (hF:ju n n (mh n X)=F):
  af Tryz.prog 193 [.ptr 1001 0 0 0] (pU r n X) (.agg [iv F.m,iv F.left,iv F.p]) [] (pU r n F.X):=by
 obtain⟨KR,hKR⟩:∃K,K=2::1003::1001::1002::(List.range r).map fun j=>1010+j:=⟨_,rfl⟩
 obtain⟨K0,hK0⟩:∃K,K=2::15::1001::1002::(List.range r).map fun j=>1010+j:=⟨_,rfl⟩
 have hM0:28^n*A≤1377000000000:=by
  have h5:28^n≤28^5:=Nat.pow_le_pow_right aH aa
  exact Nat.le_trans (Nat.mul_le_mul h5 hM) aH
 rcases(show r=1∨r=2∨r=3∨r=4∨r=5 by omega)with e1|e1|e1|e1|e1
 all_goals
  rw[e1]
  refine pf (Z:=[100015,700036,700039,700050,700063,700066,700077,700080]) aM bB Tryz.func193 rfl aF (bV.of rfl rfl rfl rfl rfl rfl rfl rfl rfl rfl rfl) rfl ?_
  intro W0 w0 ρ0 hE
  conv=>whnf
  (repeat(first|(refine av Q3 ?_;conv=>whnf)|(rw[Int.toNat_natCast];conv=>whnf)|(rw[Nat.zero_add];conv=>whnf)))
  refine az hE (fun k=>cond (Nat.beq k 15) 1003 k) [0,2,3,4] K0 (fun m' fr hp=>∃(s:IS) (B:Nat),m'=s.left∧qg n X s∧2≤B∧(∀a q,a<n→q<n→fs (s.X a q)≤B)∧28^s.left*B≤1377000000000∧ju n s.left s=F∧s.m≤n∧s.p≤n∧
   fr=[(0,.ptr 1001 0 0 0),(2,.ptr 2 0 0 0),(3,.aK 1003 1 0 n),(4,iv s.left)]∧hp=(2,cB s.m s.p)::wN r n s.X s.d) n ?_ ?_ ?_
  ·subst e1 hK0;kernel_rfl
  ·exact⟨mh n X,A,rfl,.start Pj,h2,hA,hM0,hF,Nat.zero_le _,Nat.zero_le _,rfl,by show _=(2,cB 0 0)::(1003,⟨_,true,.seq 1 (wM n fun _=>false)⟩)::pU r n X;rw[←J2];subst e1 hK0;rfl⟩
  rintro m' _ _ ⟨s,B,rfl,hg,hB2,hB,hBM,ng,hsm,hsp,rfl,rfl⟩
  have hfa:∀j,j<r→find ((2,cB s.m s.p)::wN r n s.X s.d) (1010+j)=some (uN true (bz n s.X j)):=fun j hj=>by rw[eA aa];exact ln hj
  have Bu:=hg.left
  have w0:IntKind.i64.wrap (((0:Nat):Int)+((s.left:Nat):Int))=((s.left:Nat):Int):=by rw[wrap_i64 aa aa];omega
  have w1:IntKind.i64.wrap (0+((s.left:Nat):Int))=((s.left:Nat):Int):=by rw[wrap_i64 aa aa];omega
  by_cases hl:s.left=0
  ·have t1:decide (((s.left:Nat):Int)>0)=false:=decide_eq_false aa
   have hFs:s=F:=by rw[hl]at ng;exact ng
   subst hFs
   rw[e1]
   conv=>whnf
   (repeat(first|(refine av Q3 ?_;conv=>whnf)|(refine aW t1 ?_;conv=>whnf)|(rw[w0];conv=>whnf)))
   exact⟨aq.refl _,get_nil,by repeat(first|exact get_nil|refine cL rfl ?_)⟩
  ·have t1:decide (((s.left:Nat):Int)>0)=true:=decide_eq_true aa
   obtain⟨f,hf⟩:∃f,s.left=f+1:=⟨s.left - 1,aa⟩
   have aik:28*B≤1377000000000:=by
    refine Nat.le_trans (Nat.mul_le_mul_right B ?_) hBM
    rw[hf,Nat.pow_succ]
    exact Nat.le_mul_of_pos_left _ (Nat.pow_pos aH)
   cases hp:yk n s.X s.d with
   |none=>
    have kp:=OG hrn hr zR hB aa hp
    have hFs:s=F:=by rw[hf,ju,hp]at ng;exact ng
    subst hFs
    rw[e1]at kp hfa
    rw[e1]
    conv=>whnf
    (repeat((first|refine ah rfl rfl ?_|refine av Q3 ?_|refine aN t1 ?_|refine⟨_,_,[],_,kp,OH rfl rfl rfl hfa,an,IM, ?_⟩|rw[w0]|rw[Nat.zero_add]);conv=>whnf))
    exact⟨aq.refl _,get_nil,by repeat(first|exact get_nil|refine cL rfl ?_)⟩
   |some iy=>
    obtain⟨i,Y⟩:=iy
    obtain⟨g1,g2,g3,g4,_⟩:=hg.bU hp
    have hnx:=(hg.next hp).1
    have kp:=OF hrn hr zR hB aa hp
    have hY:=R9 hB hp
    have lU:=fun k=>Sa (k:=k) g1 hY
    have Mp:i<r:=aa
    have hsI:=gG (r:=r) (n:=n) (j:=i) aa Mp
    have hfI:find ((2,cB s.m s.p)::wN r n Y s.d) (1010+i)=some (uN true (bz n Y i)):=by rw[eA aa];exact ln Mp
    have eT:ju n f (jt n s i Y)=F:=by rw[hf,ju,hp]at ng;exact ng
    have af4:=hsI
    rw[e1]at kp hfa af4 hfI
    rw[e1]
    conv=>whnf
    (repeat(first|(refine ag rfl rfl ?_;conv=>whnf)|(refine av Q3 ?_;conv=>whnf)|(refine aN t1 ?_;conv=>whnf)|(refine⟨_,_,[],_,kp,OH rfl rfl rfl hfa,an,IM, ?_⟩;conv=>whnf)|(refine cN rfl (ak rfl) rfl (dJ rfl) af4 (Nat.succ_ne_zero _) rfl ?_;conv=>whnf)|(refine iZ rfl (ak rfl) hfI (dJ rfl) Lx (da aa) rfl (Nat.succ_ne_zero _) rfl ?_;conv=>whnf)|(rw[t1];conv=>whnf)|(rw[Int.toNat_natCast];conv=>whnf)|(rw[Nat.zero_add];conv=>whnf)))
    refine az hE (fun k=>k) [0,2,3,4,5,7,43,44] (7::KR) (fun m'' fr hp=>∃k:Nat,m''=n - k∧k≤n∧fr=[(0,.ptr 1001 0 0 0),(2,.ptr 2 0 0 0),(3,.aK 1003 1 0 n),(4,iv s.left),(5,iv i),(7,.ptr 7 0 0 0),(43,iv n),(44,iv k)]∧
     hp=(7,qdB (Y i i))::(2,cB s.m s.p)::wN r n (hO Y i k) s.d) n ?_ ?_ ?_
    ·subst e1 hKR;kernel_rfl
    ·exact⟨0,rfl,Nat.zero_le _,rfl,by rw[Ef];subst e1 hKR;rfl⟩
    rintro m'' _ _ ⟨k,rfl,hk,rfl,rfl⟩
    by_cases p9:k<n
    ·have t2:=jD p9
     have t3:=cp (i:=k) aa
     have hkr:=Nat.lt_of_lt_of_eq p9 hrn.symm
     have hs:=gG (n:=n) aa hkr
     have hfK:find ((7,qdB (Y i i))::(2,cB s.m s.p)::wN r n (hO Y i k) s.d) (1010+k)=some (uN true (bz n (hO Y i k) k)):=by rw[eA aa,eA aa];exact ln hkr
     have bF:(bz n (hO Y i k) k).getD i 0=Y k i:=(da g1).trans stk
     have k1:=iU (Y k i)
     rw[e1]at hs hfK
     by_cases hskip:s.d k=true∨k=i∨Y k i=0
     ·have hX:wN r n (hO Y i (k+1)) s.d=wN r n (hO Y i k) s.d:=by
       refine congrArg (List.cons (1003,doB n s.d)) (uS fun a l ha gI=> ?_)
       by_cases e:k=i
       ·rw[e,Eg]
       ·have hz:Y k i=0:=by
         rcases hskip with g|g|g
         ·exact(g4.dn k p9 g).2 i g1 (Ne.symm e)
         ·exact absurd g e
         ·exact g
        exact MG g4.sym g1 p9 hz e a l aa gI
      rw[e1]at hX
      rw[e1]
      cases x1:s.d k with
      |true=>
       conv=>whnf
       (repeat((first|refine ah rfl rfl ?_|refine ag rfl rfl ?_|refine av Q3 ?_|refine aC iT ?_|refine aN t2 ?_|refine dT rfl (ak rfl) rfl (dJ rfl) p9 x1 rfl rfl ?_|rw[t2]|rw[t3]|rw[Int.toNat_natCast]|rw[Nat.zero_add]);conv=>whnf))
       exact⟨n - (k+1),fun k=>k,[0,2,3,4,5,7,43,44],7::KR,aa,by subst e1 hKR;kernel_rfl,k+1,rfl,p9,rfl,by rw[hX];subst e1 hKR;rfl⟩
      |false=>
       by_cases x2:k=i
       ·have t4:(((k:Nat):Int)==((i:Nat):Int))=true:=by rw[x2];exact beq_self_eq_true _
        conv=>whnf
        (repeat((first|refine ah rfl rfl ?_|refine ag rfl rfl ?_|refine av Q3 ?_|refine aC iT ?_|refine aC ik ?_|refine aN t2 ?_|refine dT rfl (ak rfl) rfl (dJ rfl) p9 x1 rfl rfl ?_|rw[t2]|rw[t3]|rw[t4]|rw[Int.toNat_natCast]|rw[Nat.zero_add]);conv=>whnf))
        exact⟨n - (k+1),fun k=>k,[0,2,3,4,5,7,43,44],7::KR,aa,by subst e1 hKR;kernel_rfl,k+1,rfl,p9,rfl,by rw[hX];subst e1 hKR;rfl⟩
       ·have hz:Y k i=0:=by
         rcases hskip with g|g|g
         ·rw[g]at x1;cases x1
         ·exact absurd g x2
         ·exact g
        have t4:(((k:Nat):Int)==((i:Nat):Int))=false:=beq_eq_false_iff_ne.2 aa
        have t5:((Y k i).num.sign==0)=true:=by rw[Bf];exact decide_eq_true hz
        conv=>whnf
        (repeat(first|(refine ah rfl rfl ?_;conv=>whnf)|(refine av Q3 ?_;conv=>whnf)|(refine a8 (by assumption) ?_;conv=>whnf)|(refine aC ik ?_;conv=>whnf)|(refine aN t2 ?_;conv=>whnf)|(refine aN t5 ?_;conv=>whnf)|(refine dT rfl (ak rfl) rfl (dJ rfl) p9 x1 rfl rfl ?_;conv=>whnf)|(refine cN rfl (ak rfl) rfl (dJ rfl) hs (Nat.succ_ne_zero _) rfl ?_;conv=>whnf)|(refine iZ rfl (ak rfl) hfK (dJ rfl) Lx bF rfl (Nat.succ_ne_zero _) rfl ?_;conv=>whnf)|(rw[t2];conv=>whnf)|(rw[t3];conv=>whnf)|(rw[t4];conv=>whnf)|(rw[t5];conv=>whnf)|(rw[Int.toNat_natCast];conv=>whnf)|(rw[Nat.zero_add];conv=>whnf)))
        exact⟨n - (k+1),fun k=>k,[0,2,3,4,5,7,43,44],7::KR,aa,by subst e1 hKR;kernel_rfl,k+1,rfl,p9,rfl,by rw[hX];subst e1 hKR;rfl⟩
     ·have x1:s.d k=false:=by
       cases h:s.d k
       ·rfl
       ·exact absurd (.inl h) hskip
      have x2:k≠i:=fun h=>hskip (.inr (.inl h))
      have x3:Y k i≠0:=fun h=>hskip (.inr (.inr h))
      have y1:=hY k i p9 g1
      have y2:=hY i i g1 g1
      have kd:=E5 (Y k i) (Y i i) g3 aa
      have kn:=BU (Y k i/Y i i)
      have ka:=Vc (t:=k) (f:=i) (4*(4*B+6)) (2*(4*B+6)) (hO Y i k) (-(Y k i/Y i i)) hrn aa p9 g1 x2 (lU k) (by rw[oX];have:=qz (Y k i) (Y i i);omega) aa
      rw[uS (r:=r) (n:=n) (X:=kY (hO Y i k) k i (-(Y k i/Y i i))) (Y:=hO Y i (k+1)) fun a l ha gI=>Eh g4.sym g1 p9 g3 x2 a l aa gI]at ka
      have t4:(((k:Nat):Int)==((i:Nat):Int))=false:=beq_eq_false_iff_ne.2 aa
      have t5:((Y k i).num.sign==0)=false:=by rw[Bf];exact decide_eq_false x3
      rw[e1]at ka
      rw[e1]
      have zO:k=0∨k=1∨k=2∨k=3∨k=4:=aa
      clear hBM hM0 hB hB2 aik hsm hsp Bu w0 w1 hA h2 hM lU hY y1 y2 ng eT hnx hF hg
      conv=>whnf
      (repeat(first|(refine ah rfl rfl ?_;conv=>whnf)|(refine aB (by rcases zO with h|h|h|h|h<;>subst h<;>kernel_rfl) ?_;conv=>whnf)|(refine av Q3 ?_;conv=>whnf)|(refine a8 (by assumption) ?_;conv=>whnf)|(refine aC ik ?_;conv=>whnf)|(refine aN t2 ?_;conv=>whnf)|(refine aW t5 ?_;conv=>whnf)|(refine dT rfl (ak rfl) rfl (dJ rfl) p9 x1 rfl rfl ?_;conv=>whnf)|(refine cN rfl (ak rfl) rfl (dJ rfl) hs (Nat.succ_ne_zero _) rfl ?_;conv=>whnf)|(refine iZ rfl (ak rfl) hfK (dJ rfl) Lx bF rfl (Nat.succ_ne_zero _) rfl ?_;conv=>whnf)|(refine⟨_,_,[],_,ka,uV rfl rfl (fun j hj=>by(rcases(show j=0∨j=1∨j=2∨j=3∨j=4 by omega)with h|h|h|h|h)<;>first|(exfalso;omega)|(subst h;rfl)),an,pW, ?_⟩;conv=>whnf)|(rw[t2];conv=>whnf)|(rw[t3];conv=>whnf)|(rw[t4];conv=>whnf)|(rw[t5];conv=>whnf)|(rw[Int.toNat_natCast];conv=>whnf)|(rw[Nat.zero_add];conv=>whnf)))
      exact⟨n - (k+1),fun k=>k,[0,2,3,4,5,7,43,44],7::KR,aa,by subst e1 hKR;kernel_rfl,k+1,rfl,p9,rfl,by subst e1 hKR;rfl⟩
    ·have t2:=jP p9
     have af5:k=n:=aa
     rw[af5]at t2
     rw[af5,e1]
     have k3:=iU (Y i i)
     have wm:=cp (i:=s.m) aa
     have wp:=cp (i:=s.p) aa
     have w3:IntKind.i64.wrap (((s.left:Nat):Int) - 1)=((s.left - 1:Nat):Int):=by rw[wrap_i64 aa aa];omega
     have hb:∀d,wM n d=wM r d:=fun d=>by rw[hrn]
     have hdB:∀d,doB n d=(⟨4,true,.seq 1 (wM r d)⟩:aA):=fun d=>by rw[←hb]
     have hDD:∀Z d,wN r n Z d=(1003,(⟨4,true,.seq 1 (wM r d)⟩:aA))::pU r n Z:=fun Z d=>by rw[←hb]
     rw[e1]at hb hdB hDD
     have hBN:28^(s.left - 1)*(16*B+24)≤1377000000000:=by
      refine Nat.le_trans ?_ hBM
      rw[hf,Nat.add_sub_cancel,Nat.pow_succ,Nat.mul_assoc]
      exact Nat.mul_le_mul_left _ aa
     have hmn:(jt n s i Y).m≤n:=by rw[hnx.m];exact pM _ _
     have hpn:(jt n s i Y).p≤n:=by rw[hnx.p];exact pM _ _
     have hid:i=0∨i=1∨i=2∨i=3∨i=4:=aa
     by_cases hneg:Y i i<0
     ·rw[sign_neg hneg]at k3
      have Ko:(jt n s i Y).m=s.m+1:=by simp[jt,hneg]
      have Fz:(jt n s i Y).p=s.p:=by simp only[jt];rw[if_neg (by grind)];rfl
      conv=>whnf
      (repeat((first|refine av Q3 ?_|refine a8 (by assumption) ?_|refine aW t2 ?_|rw[t2]|rw[wm]|rw[Nat.zero_add]);conv=>whnf))
      rcases hid with e3|e3|e3|e3|e3
      all_goals first|omega|skip
      all_goals
       refine kG hE ?_
       first|rw[hDD (hO Y i n) s.d,e3]|rw[hdB s.d,e3]|rw[hb s.d,e3]
       conv=>whnf
       (repeat((first|refine av Q3 ?_|refine And.intro (show _<(wM _ s.d).length from by simp[wM]) ?_|rw[w3]|rw[Int.toNat_natCast]|rw[Nat.zero_add]);conv=>whnf))
       exact⟨s.left - 1,fun k=>k,[0,2,3,4],KR,aa,by subst e1 hKR;kernel_rfl,jt n s i Y,16*B+24,rfl,hnx,aa,(fun a q ha hq=>by have:=lU n a q ha hq;show fs (hO Y i n a q)≤_;omega),hBN,(by show ju n (s.left - 1) _=F;rw[hf];exact eT),hmn,hpn,rfl,by rw[Ko,Fz];show _=(2,cB (s.m+1) s.p)::(1003,⟨_,true,.seq 1 (wM n (kZ s.d i))⟩)::pU _ n (hO Y i n);rw[hb (kZ s.d i)];subst e1 e3 hKR;rfl⟩
     ·have gN:0<Y i i:=by grind
      rw[OI gN]at k3
      have Ko:(jt n s i Y).m=s.m:=by simp only[jt];rw[if_neg hneg];rfl
      have Fz:(jt n s i Y).p=s.p+1:=by simp[jt,gN]
      conv=>whnf
      (repeat((first|refine av Q3 ?_|refine a8 (by assumption) ?_|refine aW t2 ?_|rw[t2]|rw[wp]|rw[Nat.zero_add]);conv=>whnf))
      rcases hid with e3|e3|e3|e3|e3
      all_goals first|omega|skip
      all_goals
       refine kG hE ?_
       first|rw[hDD (hO Y i n) s.d,e3]|rw[hdB s.d,e3]|rw[hb s.d,e3]
       conv=>whnf
       (repeat((first|refine av Q3 ?_|refine And.intro (show _<(wM _ s.d).length from by simp[wM]) ?_|rw[w3]|rw[Int.toNat_natCast]|rw[Nat.zero_add]);conv=>whnf))
       exact⟨s.left - 1,fun k=>k,[0,2,3,4],KR,aa,by subst e1 hKR;kernel_rfl,jt n s i Y,16*B+24,rfl,hnx,aa,(fun a q ha hq=>by have:=lU n a q ha hq;show fs (hO Y i n a q)≤_;omega),hBN,(by show ju n (s.left - 1) _=F;rw[hf];exact eT),hmn,hpn,rfl,by rw[Ko,Fz];show _=(2,cB s.m (s.p+1))::(1003,⟨_,true,.seq 1 (wM n (kZ s.d i))⟩)::pU _ n (hO Y i n);rw[hb (kZ s.d i)];subst e1 e3 hKR;rfl⟩
end Go.Proofs.YtfpagioknjjacaaGreatDoor
