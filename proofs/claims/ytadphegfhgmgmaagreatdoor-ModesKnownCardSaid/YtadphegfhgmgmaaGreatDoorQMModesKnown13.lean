/- The texts Mj. -/
import Derived.Test.YtadphegfhgmgmaaGreatDoorQMModesKnown12
import Derived.Test.YtadphegfhgmgmaaGreatDoorQMModesKnown5
set_option linter.unusedSimpArgs false
set_option linter.unusedVariables false
set_option maxHeartbeats 80000000
set_option maxRecDepth 100000
open And renaming intro->Ξ
open Go.IntKind renaming i64->ε
open Int renaming toNat_natCast->ι
open List renaming mem_cons->Λ,range->Η
open Nat renaming le_trans->Ι,pow_succ->ϙ,succ_ne_zero->Ϗ,zero_add->υ,zero_le->Γ
open Rat renaming num_nonneg->ajn
namespace Go.Proofs.YtadphegfhgmgmaaGreatDoor
open Go.Sx
theorem NC (n:Nat):List.replicate n (SV.val (.bool false))=zk n λ_=>false:=List.ext_getElem (by simp[zk]) (by simp[zk])
theorem RH {r n i:Nat} {A:Nat} {X Y:Mx} {d:Nat->Bool} (hrn:r=n) (hr:r<=5) (Cz:1<=r) (hA:∀a q,a<n->q<n->fs (X a q)<=A) (hH:4*A+6<=4398046511104) (h:A9 n X d=some (i,Y)):
  aL Tryz.prog 121 [.ptr 1001 0 0 0,.aM 1003 1 0 n] (zn r n X d) (.bQ [iv i,.val (.bool true)]) [] (zn r n Y d):=by
 have hs:=mD n X d;rw[h]at hs;cases hs with
 |diag h1 h2 h3 h4=>exact RG X d hrn hr h1 h4 h2 h3
 |@mix i k h1 h2 h3 h4 h5 h6 h7=>exact HD (i:=i) (k:=k) A X _ d i true hrn hr Cz aa hA hH h6 h7 (λ_=>⟨h2,h3,h4,h5,rfl,rfl,rfl⟩) (λe=>aa)
theorem RI {r n:Nat} {A:Nat} {X:Mx} {d:Nat->Bool} (hrn:r=n) (hr:r<=5) (Cz:1<=r) (hA:∀a q,a<n->q<n->fs (X a q)<=A) (hH:4*A+6<=4398046511104) (h:A9 n X d=none):
  aL Tryz.prog 121 [.ptr 1001 0 0 0,.aM 1003 1 0 n] (zn r n X d) (.bQ [iv 0,.val (.bool false)]) [] (zn r n X d):=by
 have hs:=mD n X d;rw[h]at hs;cases hs with
 |none h1 h2=>exact HD (i:=n) (k:=0) A X _ d 0 false hrn hr Cz (Nat.le_refl _) hA hH h1 (λj l hj hl _=>h2 j l hj hl) (λe=>aa) (λ_=>⟨rfl,rfl,rfl⟩)
theorem W3 {n i A:Nat} {X Y:Mx} {d:Nat->Bool} (hA:∀a q,a<n->q<n->fs (X a q)<=A) (h:A9 n X d=some (i,Y)):∀a q,a<n->q<n->fs (Y a q)<=4*A+6:=by
 have hs:=mD n X d;rw[h]at hs;cases hs with
 |diag h1 h2 h3 h4=>exact λa q ha hq=>by have:=hA a q ha hq;omega
 |@mix i k h1 h2 h3 h4 h5 h6 h7=>
  have a8:i≠k:=λe=>by
   rcases h6 i h1 with g|g
   ·rw[g]at h3;cases h3
   ·rw[<-e]at h5;exact h5 g
  exact λa q ha hq=>RF (C:=2) hA (Nat.le_of_eq jv) h1 h2 a8 a q ha hq
theorem W5 {n i k B:Nat} {Y:Mx} (hi:i<n) (hB:∀a q,a<n->q<n->fs (Y a q)<=B):∀a q,a<n->q<n->fs (jx Y i k a q)<=4*B:=by
 intro a q ha hq;unfold jx;have h1:=hB a q ha hq;have h2:=hB a i ha hi;have h3:=hB i q hi hq;have h4:=hB i i hi hi;split
 ·have g1:=rh (Y a q) (Y a i*Y i q/Y i i);have g2:=rl (Y a i*Y i q) (Y i i);have g3:=cH (Y a i) (Y i q);omega
 ·omega
theorem stk {Y:Mx} {i k:Nat}:jx Y i k k i=Y k i:=by unfold jx;rw[if_neg aa]
abbrev cB (m p:Nat):aC:=⟨108,true,.one [iv m,iv (0:Nat),iv p]⟩
abbrev qdB (q:Rat):aC:=⟨49,true,.one [.frac q]⟩
theorem RJ {r n:Nat} {X:Mx} {d:Nat->Bool} {hp:List (Nat×aC)} (h0:find hp 1003=some (doB n d)) (h1:find hp 1001=some (sqB r n)) (h2:find hp 1002=some (Hw true (jy r n))) (h:∀j,j<r->find hp (1010+j)=some (xy true (bq n X j))):yx hp (zn r n X d):=by
 intro k b hm;rcases Λ.1 hm with e|hm
 ·cases e;exact h0
 ·exact uU h1 h2 h k b hm
theorem LR {r n:Nat} {X Y:Mx} {d:Nat->Bool}:mK (zn r n X d) (zn r n Y d):=by
 intro k b hm;rcases Λ.1 hm with e|hm
 ·cases e;exact⟨_,List.mem_cons_self ..,rfl,rfl,rfl⟩
 ·obtain⟨b0,h1,h2⟩:=p5 (X:=X) k b hm;exact⟨b0,List.mem_cons_of_mem _ h1,h2⟩
theorem sign_neg {q:Rat} (h:q<0):q.num.sign= -1:=by
 have:¬0<=q.num:=λg=>by have:=ajn.1 g;grind
 exact Int.sign_eq_neg_one_of_neg aa
theorem HE {q:Rat} (h:0<q):q.num.sign=1:=by
 have h1:0<=q.num:=ajn.2 (by grind);have h2:q.num≠0:=λg=>by have:=Rat.num_eq_zero.1 g;grind
 exact Int.sign_eq_one_of_pos aa
theorem sJ {r n:Nat} (A:Nat) (X:Mx) (F:IS) (hrn:r=n) (hr:r<=5) (Cz:1<=r) (EL:dq n X) (hA:∀a q,a<n->q<n->fs (X a q)<=A) (h2:2<=A) (hM:A<=80000) (hF:lp n n (oh n X)=F):
  aL Tryz.prog 57 [.ptr 1001 0 0 0] (qC r n X) (.agg [iv F.m,iv F.left,iv F.p]) [] (qC r n F.X):=by
 obtain⟨KR,hKR⟩:∃K,K=2::1003::1001::1002::(Η r).map λj=>1010+j:=⟨_,rfl⟩
 obtain⟨K0,hK0⟩:∃K,K=2::15::1001::1002::(Η r).map λj=>1010+j:=⟨_,rfl⟩
 have hM0:28^n*A<=1377000000000:=by
  have h5:28^n<=28^5:=Nat.pow_le_pow_right ax aa;exact Ι (Nat.mul_le_mul h5 hM) ax
 rcases(show r=1\/r=2\/r=3\/r=4\/r=5 by omega)with e1|e1|e1|e1|e1
 all_goals
  rw[e1];refine rH (Z:=[100015,700036,700039,700050,700063,700066,700077,700080]) aH bC Tryz.func57 rfl aD (cb.of rfl rfl rfl rfl rfl rfl rfl rfl rfl rfl rfl) rfl ?_;intro W0 w0 ρ0 hE;conv=>whnf
  (repeat(first|(refine ao Q3 ?_;conv=>whnf)|(rw[ι];conv=>whnf)|(rw[υ];conv=>whnf)))
  refine av hE (λk=>cond (Nat.beq k 15) 1003 k) [0,2,3,4] K0 (λm' fr hp=>∃(s:IS) (B:Nat),m'=s.left/\uk n X s/\2<=B/\(∀a q,a<n->q<n->fs (s.X a q)<=B)/\28^s.left*B<=1377000000000/\lp n s.left s=F/\s.m<=n/\s.p<=n/\
   fr=[(0,.ptr 1001 0 0 0),(2,.ptr 2 0 0 0),(3,.aM 1003 1 0 n),(4,iv s.left)]/\hp=(2,cB s.m s.p)::zn r n s.X s.d) n ?_ ?_ ?_
  ·subst e1 hK0;kernel_rfl
  ·exact⟨oh n X,A,rfl,.start EL,h2,hA,hM0,hF,Γ _,Γ _,rfl,by show _=(2,cB 0 0)::(1003,⟨_,true,.seq 1 (zk n λ_=>false)⟩)::qC r n X;rw[<-NC];subst e1 hK0;rfl⟩
  rintro m' _ _ ⟨s,B,rfl,hg,hB2,hB,hBM,ny,hsm,hsp,rfl,rfl⟩;have hfa:∀j,j<r->find ((2,cB s.m s.p)::zn r n s.X s.d) (1010+j)=some (xy true (bq n s.X j)):=λj hj=>by rw[fN aa];exact ng hj
  have D0:=hg.left;have w0:ε.wrap (((0:Nat):Int)+((s.left:Nat):Int))=((s.left:Nat):Int):=by rw[wrap_i64 aa aa];omega
  have w1:ε.wrap (0+((s.left:Nat):Int))=((s.left:Nat):Int):=by rw[wrap_i64 aa aa];omega
  by_cases hl:s.left=0
  ·have t1:decide (((s.left:Nat):Int)>0)=false:=decide_eq_false aa;have hFs:s=F:=by rw[hl]at ny;exact ny
   subst hFs;rw[e1];conv=>whnf
   (repeat(first|(refine ao Q3 ?_;conv=>whnf)|(refine aG t1 ?_;conv=>whnf)|(rw[w0];conv=>whnf)))
   exact⟨au.refl _,get_nil,by repeat(first|exact get_nil|refine cI rfl ?_)⟩
  ·have t1:decide (((s.left:Nat):Int)>0)=true:=decide_eq_true aa;obtain⟨f,hf⟩:∃f,s.left=f+1:=⟨s.left - 1,aa⟩;have ahv:28*B<=1377000000000:=by
    refine Ι (Nat.mul_le_mul_right B ?_) hBM;rw[hf,ϙ];exact Nat.le_mul_of_pos_left _ (Nat.pow_pos ax)
   cases hp:A9 n s.X s.d with
   |none=>
    have kp:=RI hrn hr Cz hB aa hp;have hFs:s=F:=by rw[hf,lp,hp]at ny;exact ny
    subst hFs;rw[e1]at kp hfa;rw[e1];conv=>whnf
    (repeat((first|refine ag rfl rfl ?_|refine ao Q3 ?_|refine ay t1 ?_|refine⟨_,_,[],_,kp,RJ rfl rfl rfl hfa,ak,LR, ?_⟩|rw[w0]|rw[υ]);conv=>whnf))
    exact⟨au.refl _,get_nil,by repeat(first|exact get_nil|refine cI rfl ?_)⟩
   |some iy=>
    obtain⟨i,Y⟩:=iy;obtain⟨g1,g2,g3,g4,_⟩:=hg.bP hp;have Pt:=(hg.next hp).1;have kp:=RH hrn hr Cz hB aa hp;have hY:=W3 hB hp;have nv:=λk=>W5 (k:=k) g1 hY
    have Lh:i<r:=aa;have hsI:=je (r:=r) (n:=n) (j:=i) aa Lh;have hfI:find ((2,cB s.m s.p)::zn r n Y s.d) (1010+i)=some (xy true (bq n Y i)):=by rw[fN aa];exact ng Lh
    have gw:lp n f (ln n s i Y)=F:=by rw[hf,lp,hp]at ny;exact ny
    have afh:=hsI;rw[e1]at kp hfa afh hfI;rw[e1];conv=>whnf
    (repeat(first|(refine ae rfl rfl ?_;conv=>whnf)|(refine ao Q3 ?_;conv=>whnf)|(refine ay t1 ?_;conv=>whnf)|(refine⟨_,_,[],_,kp,RJ rfl rfl rfl hfa,ak,LR, ?_⟩;conv=>whnf)|(refine dc rfl (ai rfl) rfl (ez rfl) afh (Ϗ _) rfl ?_;conv=>whnf)|(refine kG rfl (ai rfl) hfI (ez rfl) Pj (dr aa) rfl (Ϗ _) rfl ?_;conv=>whnf)|(rw[t1];conv=>whnf)|(rw[ι];conv=>whnf)|(rw[υ];conv=>whnf)))
    refine av hE (λk=>k) [0,2,3,4,5,7,43,44] (7::KR) (λm'' fr hp=>∃k:Nat,m''=n - k/\k<=n/\fr=[(0,.ptr 1001 0 0 0),(2,.ptr 2 0 0 0),(3,.aM 1003 1 0 n),(4,iv s.left),(5,iv i),(7,.ptr 7 0 0 0),(43,iv n),(44,iv k)]/\
     hp=(7,qdB (Y i i))::(2,cB s.m s.p)::zn r n (jx Y i k) s.d) n ?_ ?_ ?_
    ·subst e1 hKR;kernel_rfl
    ·exact⟨0,rfl,Γ _,rfl,by rw[G6];subst e1 hKR;rfl⟩
    rintro m'' _ _ ⟨k,rfl,hk,rfl,rfl⟩;by_cases ua:k<n
    ·have t2:=gZ ua;have t3:=bW (i:=k) aa;have hkr:=Nat.lt_of_lt_of_eq ua hrn.symm;have hs:=je (n:=n) aa hkr;have hfK:find ((7,qdB (Y i i))::(2,cB s.m s.p)::zn r n (jx Y i k) s.d) (1010+k)=some (xy true (bq n (jx Y i k) k)):=by rw[fN aa,fN aa];exact ng hkr
     have b7:(bq n (jx Y i k) k).getD i 0=Y k i:=(dr g1).trans stk;have k1:=iI (Y k i);rw[e1]at hs hfK;by_cases hskip:s.d k=true\/k=i\/Y k i=0
     ·have hX:zn r n (jx Y i (k+1)) s.d=zn r n (jx Y i k) s.d:=by
       refine congrArg (List.cons (1003,doB n s.d)) (xB λa l ha iD=> ?_);by_cases e:k=i
       ·rw[e,G7]
       ·have hz:Y k i=0:=by
         rcases hskip with g|g|g
         ·exact(g4.dn k ua g).2 i g1 (Ne.symm e)
         ·exact absurd g e
         ·exact g
        exact Qp g4.sym g1 ua hz e a l aa iD
      rw[e1]at hX;rw[e1];cases x1:s.d k with
      |true=>
       conv=>whnf
       (repeat((first|refine ag rfl rfl ?_|refine ae rfl rfl ?_|refine ao Q3 ?_|refine an er ?_|refine ay t2 ?_|refine eV rfl (ai rfl) rfl (ez rfl) ua x1 rfl rfl ?_|rw[t2]|rw[t3]|rw[ι]|rw[υ]);conv=>whnf))
       exact⟨n - (k+1),λk=>k,[0,2,3,4,5,7,43,44],7::KR,aa,by subst e1 hKR;kernel_rfl,k+1,rfl,ua,rfl,by rw[hX];subst e1 hKR;rfl⟩
      |false=>
       by_cases x2:k=i
       ·have t4:(((k:Nat):Int)==((i:Nat):Int))=true:=by rw[x2];exact beq_self_eq_true _
        conv=>whnf
        (repeat((first|refine ag rfl rfl ?_|refine ae rfl rfl ?_|refine ao Q3 ?_|refine an er ?_|refine an dZ ?_|refine ay t2 ?_|refine eV rfl (ai rfl) rfl (ez rfl) ua x1 rfl rfl ?_|rw[t2]|rw[t3]|rw[t4]|rw[ι]|rw[υ]);conv=>whnf))
        exact⟨n - (k+1),λk=>k,[0,2,3,4,5,7,43,44],7::KR,aa,by subst e1 hKR;kernel_rfl,k+1,rfl,ua,rfl,by rw[hX];subst e1 hKR;rfl⟩
       ·have hz:Y k i=0:=by
         rcases hskip with g|g|g
         ·rw[g]at x1;cases x1
         ·exact absurd g x2
         ·exact g
        have t4:(((k:Nat):Int)==((i:Nat):Int))=false:=beq_eq_false_iff_ne.2 aa;have t5:((Y k i).num.sign==0)=true:=by rw[ym];exact decide_eq_true hz
        conv=>whnf
        (repeat(first|(refine ag rfl rfl ?_;conv=>whnf)|(refine ao Q3 ?_;conv=>whnf)|(refine aN aJ ?_;conv=>whnf)|(refine an dZ ?_;conv=>whnf)|(refine ay t2 ?_;conv=>whnf)|(refine ay t5 ?_;conv=>whnf)|(refine eV rfl (ai rfl) rfl (ez rfl) ua x1 rfl rfl ?_;conv=>whnf)|(refine dc rfl (ai rfl) rfl (ez rfl) hs (Ϗ _) rfl ?_;conv=>whnf)|(refine kG rfl (ai rfl) hfK (ez rfl) Pj b7 rfl (Ϗ _) rfl ?_;conv=>whnf)|(rw[t2];conv=>whnf)|(rw[t3];conv=>whnf)|(rw[t4];conv=>whnf)|(rw[t5];conv=>whnf)|(rw[ι];conv=>whnf)|(rw[υ];conv=>whnf)))
        exact⟨n - (k+1),λk=>k,[0,2,3,4,5,7,43,44],7::KR,aa,by subst e1 hKR;kernel_rfl,k+1,rfl,ua,rfl,by rw[hX];subst e1 hKR;rfl⟩
     ·have x1:s.d k=false:=by
       cases h:s.d k
       ·rfl
       ·exact absurd (.inl h) hskip
      have x2:k≠i:=λh=>hskip (.inr (.inl h))
      have x3:Y k i≠0:=λh=>hskip (.inr (.inr h))
      have y1:=hY k i ua g1;have y2:=hY i i g1 g1;have kd:=Dv (Y k i) (Y i i) g3 aa;have kn:=pK (Y k i/Y i i);have ka:=Zf (t:=k) (f:=i) (4*(4*B+6)) (2*(4*B+6)) (jx Y i k) (-(Y k i/Y i i)) hrn aa ua g1 x2 (nv k) (by rw[ju];have:=rl (Y k i) (Y i i);omega) aa;rw[xB (r:=r) (n:=n) (X:=lK (jx Y i k) k i (-(Y k i/Y i i))) (Y:=jx Y i (k+1)) λa l ha iD=>G8 g4.sym g1 ua g3 x2 a l aa iD]at ka;have t4:(((k:Nat):Int)==((i:Nat):Int))=false:=beq_eq_false_iff_ne.2 aa;have t5:((Y k i).num.sign==0)=false:=by rw[ym];exact decide_eq_false x3
      rw[e1]at ka;rw[e1];have Cw:k=0\/k=1\/k=2\/k=3\/k=4:=aa;clear hBM hM0 hB hB2 ahv hsm hsp D0 w0 w1 hA h2 hM nv hY y1 y2 ny gw Pt hF hg;conv=>whnf
      (repeat(first|(refine ag rfl rfl ?_;conv=>whnf)|(refine aq (by rcases Cw with h|h|h|h|h<;>subst h<;>kernel_rfl) ?_;conv=>whnf)|(refine ao Q3 ?_;conv=>whnf)|(refine aN aJ ?_;conv=>whnf)|(refine an dZ ?_;conv=>whnf)|(refine ay t2 ?_;conv=>whnf)|(refine aG t5 ?_;conv=>whnf)|(refine eV rfl (ai rfl) rfl (ez rfl) ua x1 rfl rfl ?_;conv=>whnf)|(refine dc rfl (ai rfl) rfl (ez rfl) hs (Ϗ _) rfl ?_;conv=>whnf)|(refine kG rfl (ai rfl) hfK (ez rfl) Pj b7 rfl (Ϗ _) rfl ?_;conv=>whnf)|(refine⟨_,_,[],_,ka,uU rfl rfl (λj hj=>by(rcases(show j=0\/j=1\/j=2\/j=3\/j=4 by omega)with h|h|h|h|h)<;>first|(exfalso;omega)|(subst h;rfl)),ak,p5, ?_⟩;conv=>whnf)|(rw[t2];conv=>whnf)|(rw[t3];conv=>whnf)|(rw[t4];conv=>whnf)|(rw[t5];conv=>whnf)|(rw[ι];conv=>whnf)|(rw[υ];conv=>whnf)))
      exact⟨n - (k+1),λk=>k,[0,2,3,4,5,7,43,44],7::KR,aa,by subst e1 hKR;kernel_rfl,k+1,rfl,ua,rfl,by subst e1 hKR;rfl⟩
    ·have t2:=iH ua;have afi:k=n:=aa;rw[afi]at t2;rw[afi,e1];have k3:=iI (Y i i);have wm:=bW (i:=s.m) aa;have wp:=bW (i:=s.p) aa;have w3:ε.wrap (((s.left:Nat):Int) - 1)=((s.left - 1:Nat):Int):=by rw[wrap_i64 aa aa];omega
     have hb:∀d,zk n d=zk r d:=λd=>by rw[hrn]
     have hdB:∀d,doB n d=(⟨4,true,.seq 1 (zk r d)⟩:aC):=λd=>by rw[<-hb]
     have hDD:∀Z d,zn r n Z d=(1003,(⟨4,true,.seq 1 (zk r d)⟩:aC))::qC r n Z:=λZ d=>by rw[<-hb]
     rw[e1]at hb hdB hDD;have hBN:28^(s.left - 1)*(16*B+24)<=1377000000000:=by
      refine Ι ?_ hBM;rw[hf,Nat.add_sub_cancel,ϙ,Nat.mul_assoc];exact Nat.mul_le_mul_left _ aa
     have hmn:(ln n s i Y).m<=n:=by rw[Pt.m];exact sn _ _
     have hpn:(ln n s i Y).p<=n:=by rw[Pt.p];exact sn _ _
     have hid:i=0\/i=1\/i=2\/i=3\/i=4:=aa;by_cases hneg:Y i i<0
     ·rw[sign_neg hneg]at k3;have Of:(ln n s i Y).m=s.m+1:=by simp[ln,hneg]
      have hp1:(ln n s i Y).p=s.p:=by simp only[ln];rw[if_neg (by grind)];rfl
      conv=>whnf
      (repeat((first|refine ao Q3 ?_|refine aN aJ ?_|refine aG t2 ?_|rw[t2]|rw[wm]|rw[υ]);conv=>whnf))
      rcases hid with e3|e3|e3|e3|e3
      all_goals first|omega|skip
      all_goals
       refine cv hE ?_;first|rw[hDD (jx Y i n) s.d,e3]|rw[hdB s.d,e3]|rw[hb s.d,e3]
       conv=>whnf
       (repeat((first|refine ao Q3 ?_|refine Ξ (show _<(zk _ s.d).length from by simp[zk]) ?_|rw[w3]|rw[ι]|rw[υ]);conv=>whnf))
       exact⟨s.left - 1,λk=>k,[0,2,3,4],KR,aa,by subst e1 hKR;kernel_rfl,ln n s i Y,16*B+24,rfl,Pt,aa,(λa q ha hq=>by have:=nv n a q ha hq;show fs (jx Y i n a q)<=_;omega),hBN,(by show lp n (s.left - 1) _=F;rw[hf];exact gw),hmn,hpn,rfl,by rw[Of,hp1];show _=(2,cB (s.m+1) s.p)::(1003,⟨_,true,.seq 1 (zk n (mX s.d i))⟩)::qC _ n (jx Y i n);rw[hb (mX s.d i)];subst e1 e3 hKR;rfl⟩
     ·have jh:0<Y i i:=by grind
      rw[HE jh]at k3;have Of:(ln n s i Y).m=s.m:=by simp only[ln];rw[if_neg hneg];rfl
      have hp1:(ln n s i Y).p=s.p+1:=by simp[ln,jh]
      conv=>whnf
      (repeat((first|refine ao Q3 ?_|refine aN aJ ?_|refine aG t2 ?_|rw[t2]|rw[wp]|rw[υ]);conv=>whnf))
      rcases hid with e3|e3|e3|e3|e3
      all_goals first|omega|skip
      all_goals
       refine cv hE ?_;first|rw[hDD (jx Y i n) s.d,e3]|rw[hdB s.d,e3]|rw[hb s.d,e3]
       conv=>whnf
       (repeat((first|refine ao Q3 ?_|refine Ξ (show _<(zk _ s.d).length from by simp[zk]) ?_|rw[w3]|rw[ι]|rw[υ]);conv=>whnf))
       exact⟨s.left - 1,λk=>k,[0,2,3,4],KR,aa,by subst e1 hKR;kernel_rfl,ln n s i Y,16*B+24,rfl,Pt,aa,(λa q ha hq=>by have:=nv n a q ha hq;show fs (jx Y i n a q)<=_;omega),hBN,(by show lp n (s.left - 1) _=F;rw[hf];exact gw),hmn,hpn,rfl,by rw[Of,hp1];show _=(2,cB s.m (s.p+1))::(1003,⟨_,true,.seq 1 (zk n (mX s.d i))⟩)::qC _ n (jx Y i n);rw[hb (mX s.d i)];subst e1 e3 hKR;rfl⟩
