/- The texts Mk, Mm, Mo, Mq, Mr, Oa, Mv, Mw, Ad, Aj. -/
import Derived.Test.YtfjhnollamkdcaaGreatDoorQsA14
namespace Go.Proofs.YtfjhnollamkdcaaGreatDoor
open Go.Sx
set_option linter.unusedSimpArgs false
set_option linter.unusedVariables false
set_option maxRecDepth 100000
set_option maxHeartbeats 40000000
abbrev sq0B:Blk:=⟨117,true,.one [iv (0:Nat),.val (.slice none 0 0)]⟩
theorem m_begin0 (a m:List Rat) (t:Rat):CallOK Tryz.prog 59 [mA (0:Nat) (0:Nat) a,mA (0:Nat) (0:Nat) m,.frac t] [] (.ptr 1001 0 0 0) [(1001,sq0B)] []:=by
 refine callID (Z:=[3,4,5]) tabOK mixedOK Tryz.func59 rfl (by kernel_rfl) (ShapeOKD.of rfl rfl rfl rfl rfl rfl rfl rfl rfl rfl rfl) rfl (NamesOK.id rfl) ?_
 intro W0 w0 ρ0 hE
 conv=>whnf
 (repeat(first|(refine g_o (op_loadA rfl (ev_ok rfl) (tgt rfl) rfl (Nat.succ_ne_zero _) rfl) ?_;conv=>whnf)|(refine g_o (op_fieldA rfl (ev_ok rfl) (tgt rfl) rfl rfl (Nat.succ_ne_zero _) rfl) ?_;conv=>whnf)))
 refine SW_loopN hE (fun k=>cond (Nat.beq k 14) 1001 k) [3,4,5,7,16,17] [14] (fun _ fr hp=>fr=[(3,ptrA (mC (0:Nat) (0:Nat) a)),(4,ptrA (mC (0:Nat) (0:Nat) m)),(5,ptrA [.frac t]),(7,.ptr 1001 0 0 0),(16,iv (0:Nat)),(17,iv (0:Nat))]∧hp=[(1001,sq0B)]) 0 ?_ ?_ ?_
 ·kernel_rfl
 ·exact⟨rfl,rfl⟩
 rintro m' _ _ ⟨rfl,rfl⟩
 conv=>whnf
 (repeat(first|(refine step_w2 rfl rfl ?_;conv=>whnf)))
 exact⟨Recast.refl _,by repeat(first|exact get_nil|refine get_cons rfl ?_),get_nil⟩
theorem m_inertia0:CallOK Tryz.prog 78 [.ptr 1001 0 0 0] [(1001,sq0B)] (.agg [iv (0:Nat),iv (0:Nat),iv (0:Nat)]) [] [(1001,sq0B)]:=by
 refine callI (Z:=[]) tabOK mixedOK Tryz.func78 rfl (by kernel_rfl) (ShapeOK.of rfl rfl rfl rfl rfl rfl rfl rfl rfl rfl rfl) rfl ?_
 intro W0 w0 ρ0 hE
 conv=>whnf
 (repeat(first|(refine step_oA (by first|omega|decide|(simp only[tl0,dlen,List.length_replicate,List.length_set,List.length_map,List.length_zipWith,List.length_take,List.length_append,List.length_cons,List.length_nil];omega)) ?_;conv=>whnf)|(rw[Int.toNat_natCast];conv=>whnf)|(rw[Nat.zero_add];conv=>whnf)))
 refine SW_loopN hE (fun k=>k) [0,2,3,4] [2,15,1001] (fun _ fr hp=>fr=[(0,.ptr 1001 0 0 0),(2,.ptr 2 0 0 0),(3,.slc 15 1 0 0),(4,iv (0:Nat))]∧hp=[(2,⟨125,true,.one [iv (0:Nat),iv (0:Nat),iv (0:Nat)]⟩),(15,⟨4,true,.seq 1 []⟩),(1001,sq0B)]) 0 ?_ ?_ ?_
 ·kernel_rfl
 ·exact⟨rfl,rfl⟩
 rintro m' _ _ ⟨rfl,rfl⟩
 conv=>whnf
 (repeat(first|(refine step_w2 rfl rfl ?_;conv=>whnf)|(refine step_oA (by first|omega|decide|(simp only[tl0,dlen,List.length_replicate,List.length_set,List.length_map,List.length_zipWith,List.length_take,List.length_append,List.length_cons,List.length_nil];omega)) ?_;conv=>whnf)))
 exact⟨Recast.refl _,get_nil,by repeat(first|exact get_nil|refine get_cons rfl ?_)⟩
end Go.Proofs.YtfjhnollamkdcaaGreatDoor
namespace Go.Proofs.YtfjhnollamkdcaaGreatDoor
open Go.Sx
set_option linter.unusedSimpArgs false
set_option linter.unusedVariables false
set_option maxRecDepth 100000
set_option maxHeartbeats 40000000
def countF (n:Nat) (a m:List Rat) (t:Rat):IS:=inRun n n (startS n (begX n a m t))
abbrev cnV (s:IS):SV:=.agg [iv s.m,iv s.left,iv s.p]
theorem new_hpS {r n:Nat} {X:Mx} {b:Blk}:∀j c,(j,c)∈hpS r n X→find [(6,b)] j=none:=by
 intro j c hm
 have hj:1001≤j:=by
  rcases List.mem_cons.1 hm with e|hm
  ·cases e;exact Nat.le_refl _
  ·rcases List.mem_cons.1 hm with e|hm
   ·cases e;decide
   ·obtain⟨q,_,_,rfl,_⟩:=mem_rowsE.1 hm
    omega
 rw[find_skip (by omega)];rfl
theorem m_count {n:Nat} (A:Nat) (a m:List Rat) (t:Rat) (hn:n≤5) (ha:OKM n n a) (hm:OKM n n m) (hsy:SymX n (begX n a m t)) (h2:2≤A) (hM:A≤80000)
  (hA:∀i q,i<n→q<n→fs (a.getD (i*n+q) 0)+(fs t+fs (m.getD (i*n+q) 0))≤A):
  CallOK Tryz.prog 70 [mA n n a,mA n n m,.frac t] [] (cnV (countF n a m t)) [] []:=by
 obtain⟨F,hF⟩:∃F,countF n a m t=F:=⟨_,rfl⟩
 rw[hF]
 have hB:∀i q,i<n→q<n→fs (begX n a m t i q)≤A:=fun i q hi hq=>by
  have h1:=hA i q hi hq
  have h2:=fs_sub (a.getD (i*n+q) 0) (t*m.getD (i*n+q) 0)
  have h3:=fs_mul t (m.getD (i*n+q) 0)
  show fs (a.getD (i*n+q) 0 - t*m.getD (i*n+q) 0)≤A
  omega
 obtain⟨r,hrn⟩:∃r,r=n:=⟨_,rfl⟩
 by_cases h0:r=0
 ·obtain rfl:n=0:=by omega
  have kb:=m_begin0 a m t
  have ki:=m_inertia0
  obtain rfl:F=startS 0 (begX 0 a m t):=hF.symm
  refine callV (Z:=[3,4,5]) tabOK mixedOK Tryz.func70 rfl (by kernel_rfl) rfl rfl (by kernel_rfl) rfl ?_
  intro W0 w0 ρ0 hE
  conv=>whnf
  (repeat(first|(refine g_cn (by assumption) rfl ?_;conv=>whnf)|(refine g_c1u (by assumption) rfl rfl ?_;conv=>whnf)|(refine g_o (op_loadA rfl (ev_ok rfl) (tgt rfl) rfl (Nat.succ_ne_zero _) rfl) ?_;conv=>whnf)));(first|exact Recast.refl _|exact Frz.recast (Recast.refl _) rfl|(refine Frz.one rfl rfl ?_;skip)|(refine Frz.tup ?_;skip))
 ·have kb:=m_begin (r:=r) a m t hrn (by omega) (by omega) ha hm (fun i q hi hq=>by have:=hA i q hi hq;omega)
  have ki:=m_inertia (r:=r) A (begX n a m t) F hrn (by omega) (by omega) hsy hB h2 hM hF
  rcases(show r=1∨r=2∨r=3∨r=4∨r=5 by omega)with e1|e1|e1|e1|e1
  all_goals
   rw[e1]at kb ki
   refine callV (Z:=[3,4,5]) tabOK mixedOK Tryz.func70 rfl (by kernel_rfl) rfl rfl (by kernel_rfl) rfl ?_
   intro W0 w0 ρ0 hE
   conv=>whnf
   (repeat(first|(refine g_o (op_loadA rfl (ev_ok rfl) (tgt rfl) rfl (Nat.succ_ne_zero _) rfl) ?_;conv=>whnf)|(refine⟨[],_,hpS _ n _,[],kb,nil_fk,new_hpS,nil_upd, ?_⟩;conv=>whnf)|(refine⟨hpS _ n _,_,[],hpS _ n _,ki,fk_hpS rfl rfl (fun j hj=>by(rcases(show j=0∨j=1∨j=2∨j=3∨j=4 by omega)with h|h|h|h|h)<;>first|(exfalso;omega)|(subst h;rfl)),nil_new,upd_hpS, ?_⟩;conv=>whnf)));(first|exact Recast.refl _|exact Frz.recast (Recast.refl _) rfl|(refine Frz.one rfl rfl ?_;skip)|(refine Frz.tup ?_;skip))
end Go.Proofs.YtfjhnollamkdcaaGreatDoor
namespace Go.Proofs.YtfjhnollamkdcaaGreatDoor
open Go.Sx
set_option linter.unusedSimpArgs false
set_option linter.unusedVariables false
set_option maxRecDepth 100000
set_option maxHeartbeats 40000000
structure SymL (n:Nat) (a:List Rat):Prop where
 ok:OKM n n a
 sym:a=mturn n n a
structure PenOK (n A:Nat) (a m:List Rat):Prop where
 n5:n≤5
 sa:SymL n a
 sm:SymL n m
 symM:SymX n (begX n m m 0)
 h2:2≤A
 hM:A≤80000
 sz:∀i q,i<n→q<n→fs (m.getD (i*n+q) 0)≤A
 pos:(countF n m m 0).p=n
theorem m_Symm1 {n:Nat} {a:List Rat} (h:SymL n a):CallOK Tryz.prog 24 [mA n n a] [] (.val (.bool true)) [] []:=by
 have:=m_Symmetric h.ok
 rwa [show sameF n n n n a (mturn n n a)=true from by unfold sameF;rw[←h.sym];simp]at this
theorem m_CheckOK {n A:Nat} {a m:List Rat} (h:PenOK n A a m):CallOK Tryz.prog 25 [mA n n a,mA n n m] [] (iv 0) [] []:=by
 have k1:=m_Check0 h.sa.ok
 have k2:=m_Check0 h.sm.ok
 have k3:=m_Symm1 h.sa
 have k4:=m_Symm1 h.sm
 have hn:=h.n5
 have hpos:=h.pos
 have hB:∀i q,i<n→q<n→fs (begX n m m 0 i q)≤A:=fun i q hi hq=>by
  show fs (m.getD (i*n+q) 0 - 0*m.getD (i*n+q) 0)≤A
  rw[show m.getD (i*n+q) 0 - 0*m.getD (i*n+q) 0=m.getD (i*n+q) 0 by grind]
  exact h.sz i q hi hq
 obtain⟨F,hF⟩:∃F,countF n m m 0=F:=⟨_,rfl⟩
 rw[hF]at hpos
 have t1:decide (((n:Nat):Int)>64)=false:=decide_eq_false (by omega)
 obtain⟨r,hrn⟩:∃r,r=n:=⟨_,rfl⟩
 by_cases h0:r=0
 ·obtain rfl:n=0:=by omega
  have kb:=m_begin0 m m 0
  have ki:=m_inertia0
  refine callV (Z:=[2,3]) tabOK mixedOK Tryz.func25 rfl (by kernel_rfl) rfl rfl (by kernel_rfl) rfl ?_
  intro W0 w0 ρ0 hE
  conv=>whnf
  (repeat((first|refine step_w1 rfl rfl ?_|refine step_w2 rfl rfl ?_|refine step_i (by kernel_rfl) ?_|refine g_c (by assumption) ?_|refine g_cn (by assumption) rfl ?_|refine g_c1u (by assumption) rfl rfl ?_|refine g_o (op_pickF rfl (ev_ok rfl) (ev_ok rfl)) ?_|rw[bne_self_eq_false]|refine g_o (op_loadA rfl (ev_ok rfl) (tgt rfl) rfl (Nat.succ_ne_zero _) rfl) ?_|refine g_o (op_fieldA rfl (ev_ok rfl) (tgt rfl) rfl rfl (Nat.succ_ne_zero _) rfl) ?_|refine⟨_,[],[],op_indexAgg rfl (ev_ok rfl) (l:=[.int .i64 _,.int .i64 _,.int .i64 _]) rfl (ev_ok rfl) (TabOK.get (t:=125) tabOK rfl) rfl (TabOK.get (t:=3) tabOK rfl) rfl rfl (by decide) (by decide) (v:=.int .i64 _) rfl rfl,nil_fk,nil_new, ?_⟩);conv=>whnf));(first|exact Recast.refl _|exact Frz.recast (Recast.refl _) rfl|(refine Frz.one rfl rfl ?_;skip)|(refine Frz.tup ?_;skip))
 ·have kb:=m_begin (r:=r) m m 0 hrn (by omega) (by omega) h.sm.ok h.sm.ok (fun i q hi hq=>by have:=h.sz i q hi hq;have:=fs_zero;have:=h.hM;omega)
  have ki:=m_inertia (r:=r) A (begX n m m 0) F hrn (by omega) (by omega) h.symM hB h.h2 h.hM hF
  rw[hpos]at ki
  rcases(show r=1∨r=2∨r=3∨r=4∨r=5 by omega)with e1|e1|e1|e1|e1
  all_goals
   rw[e1]at kb ki
   refine callV (Z:=[2,3]) tabOK mixedOK Tryz.func25 rfl (by kernel_rfl) rfl rfl (by kernel_rfl) rfl ?_
   intro W0 w0 ρ0 hE
   conv=>whnf
   (repeat(first|(refine step_w1 rfl rfl ?_;conv=>whnf)|(refine step_w2 rfl rfl ?_;conv=>whnf)|(refine step_i (by kernel_rfl) ?_;conv=>whnf)|(refine g_c (by assumption) ?_;conv=>whnf)|(refine g_o (op_pickF rfl (ev_ok rfl) (ev_ok rfl)) ?_;conv=>whnf)|(rw[bne_self_eq_false];conv=>whnf)|(refine tst_ff t1 ?_;conv=>whnf)|(refine g_o (op_loadA rfl (ev_ok rfl) (tgt rfl) rfl (Nat.succ_ne_zero _) rfl) ?_;conv=>whnf)|(refine g_o (op_fieldA rfl (ev_ok rfl) (tgt rfl) rfl rfl (Nat.succ_ne_zero _) rfl) ?_;conv=>whnf)|(refine⟨[],_,hpS _ n _,[],kb,nil_fk,(fun _ _ _=>rfl),nil_upd, ?_⟩;conv=>whnf)|(refine⟨hpS _ n _,_,[],hpS _ n _,ki,fk_hpS rfl rfl (fun j hj=>by(rcases(show j=0∨j=1∨j=2∨j=3∨j=4 by omega)with h|h|h|h|h)<;>first|(exfalso;omega)|(subst h;rfl)),nil_new,upd_hpS, ?_⟩;conv=>whnf)|(refine⟨_,[],[],op_indexAgg rfl (ev_ok rfl) (l:=[.int .i64 _,.int .i64 _,.int .i64 _]) rfl (ev_ok rfl) (TabOK.get (t:=125) tabOK rfl) rfl (TabOK.get (t:=3) tabOK rfl) rfl rfl (by decide) (by decide) (v:=.int .i64 _) rfl rfl,nil_fk,nil_new, ?_⟩;conv=>whnf)));(first|exact Recast.refl _|exact Frz.recast (Recast.refl _) rfl|(refine Frz.one rfl rfl ?_;skip)|(refine Frz.tup ?_;skip))
end Go.Proofs.YtfjhnollamkdcaaGreatDoor
namespace Go.Proofs.YtfjhnollamkdcaaGreatDoor
open Go.Sx
set_option linter.unusedSimpArgs false
set_option linter.unusedVariables false
set_option maxRecDepth 100000
set_option maxHeartbeats 40000000
theorem m_CountOK {n A B:Nat} {a m:List Rat} (t:Rat) (h:PenOK n A a m) (hsy:SymX n (begX n a m t)) (h2:2≤B) (hM:B≤80000)
  (hB:∀i q,i<n→q<n→fs (a.getD (i*n+q) 0)+(fs t+fs (m.getD (i*n+q) 0))≤B):
  CallOK Tryz.prog 18 [mA n n a,mA n n m,.frac t] [] (.tup [iv (countF n a m t).m,iv (countF n a m t).left,iv (countF n a m t).p,iv 0]) [] []:=by
 have k1:=m_CheckOK h
 have k2:=m_count B a m t h.n5 h.sa.ok h.sm.ok hsy h2 hM hB
 refine callV (Z:=[3,4,5]) tabOK mixedOK Tryz.func18 rfl (by kernel_rfl) rfl rfl (by kernel_rfl) rfl ?_
 intro W0 w0 ρ0 hE
 conv=>whnf
 (repeat((first|refine step_w2 rfl rfl ?_|refine step_i (by kernel_rfl) ?_|refine step_oA (by first|omega|decide|(simp only[tl0,dlen,List.length_replicate,List.length_set,List.length_map,List.length_zipWith,List.length_take,List.length_append,List.length_cons,List.length_nil];omega)) ?_|refine g_c (by assumption) ?_|rw[bne_self_eq_false]|refine g_o (op_loadA rfl (ev_ok rfl) (tgt rfl) rfl (Nat.succ_ne_zero _) rfl) ?_);conv=>whnf));(first|exact Recast.refl _|exact Frz.recast (Recast.refl _) rfl|(refine Frz.one rfl rfl ?_;skip)|(refine Frz.tup ?_;skip))
end Go.Proofs.YtfjhnollamkdcaaGreatDoor
namespace Go.Proofs.YtfjhnollamkdcaaGreatDoor
open Go.Sx
set_option linter.unusedSimpArgs false
set_option linter.unusedVariables false
set_option maxRecDepth 100000
set_option maxHeartbeats 40000000
def noFar (n:Nat) (a m:List Rat) (r:Rat):Prop:=(countF n a m (-r)).m=0∧(countF n a m r).p=0
theorem m_reach {n B e:Nat} {a m:List Rat} (hn:n≤5) (ha:OKM n n a) (hm:OKM n n m) (hsy:∀t,SymX n (begX n a m t)) (h2:2≤B) (hM:B+e≤30000)
  (hB:∀i q,i<n→q<n→fs (a.getD (i*n+q) 0)+fs (m.getD (i*n+q) 0)+4≤B) (h1:noFar n a m (2^e)) (h0:∀k,k<e→¬noFar n a m (2^k)) (hs:∀k,k≤e→fs ((2:Rat)^k)≤4+k):
  CallOK Tryz.prog 81 [mA n n a,mA n n m] [] (.frac (2^e)) [] []:=by
 have k1:CallOK Tryz.prog 26 [iv 1] [] (.frac 1) [] []:=c_fInt 1 (by decide) (by decide)
 have kc:∀t,fs t≤4+e→CallOK Tryz.prog 70 [mA n n a,mA n n m,.frac t] [] (cnV (countF n a m t)) [] []:=fun t ht=>m_count (B+e) a m t hn ha hm (hsy t) (by omega) (by omega) fun i q hi hq=>by
  have:=hB i q hi hq;omega
 refine callV (Z:=[2,3]) tabOK mixedOK Tryz.func81 rfl (by kernel_rfl) rfl rfl (by kernel_rfl) rfl ?_
 intro W0 w0 ρ0 hE
 conv=>whnf
 (repeat(first|(refine g_c (by assumption) ?_;conv=>whnf)))
 refine SW_loopN hE (fun k=>k) [2,3,4,5] [4,5] (fun m' fr hp=>∃k:Nat,m'=e - k∧k≤e∧fr=[(2,ptrA (mC n n a)),(3,ptrA (mC n n m)),(4,.ptr 4 0 0 0),(5,.ptr 5 0 0 0)]∧hp=[(4,⟨49,true,.one [.frac 0]⟩),(5,⟨49,true,.one [.frac (2^k)]⟩)]) e ?_ ?_ ?_
 ·kernel_rfl
 ·exact⟨0,rfl,Nat.zero_le _,rfl,rfl⟩
 rintro m' _ _ ⟨k,rfl,hk,rfl,rfl⟩
 have hsk:=hs k hk
 have kn:=c_fNeg ((2:Rat)^k)
 have c1:=kc (-(2^k)) (by rw[fs_neg];omega)
 have c2:=kc (2^k) (by omega)
 have ka:=x_Add ((2:Rat)^k) (2^k) (by omega)
 rw[show(2:Rat)^k+2^k=2^(k+1)from by rw[Rat.pow_succ];grind]at ka
 have hek:noFar n a m (2^k)→k=e:=fun h=>by
  rcases Nat.lt_or_ge k e with g|g
  ·exact absurd h (h0 k g)
  ·omega
 have hke:¬noFar n a m (2^k)→k<e:=fun h=>by
  rcases Nat.lt_or_ge k e with g|g
  ·exact g
  ·exact absurd (by rw[show k=e by omega];exact h1) h
 unfold noFar at hek hke
 generalize countF n a m (-(2^k))=F1 at*
 generalize countF n a m (2^k)=F2 at*
 conv=>whnf
 by_cases f1:F1.m=0
 ·have t1:decide (((F1.m:Nat):Int)>0)=false:=decide_eq_false (by omega)
  by_cases f2:F2.p=0
  ·have t2:decide (((F2.p:Nat):Int)>0)=false:=decide_eq_false (by omega)
   obtain rfl:=hek ⟨f1,f2⟩
   (repeat((first|refine step_w1 rfl rfl ?_|refine step_i (by kernel_rfl) ?_|refine g_c (by assumption) ?_|refine g_o (op_pickF rfl (ev_ok rfl) (ev_ok rfl)) ?_|refine tst_ff t2 ?_|refine g_o (op_loadA rfl (ev_ok rfl) (tgt rfl) rfl (Nat.succ_ne_zero _) rfl) ?_|refine⟨_,[],[],op_indexAgg rfl (ev_ok rfl) (l:=[.int .i64 _,.int .i64 _,.int .i64 _]) rfl (ev_ok rfl) (TabOK.get (t:=125) tabOK rfl) rfl (TabOK.get (t:=3) tabOK rfl) rfl rfl (by decide) (by decide) (v:=.int .i64 _) rfl rfl,nil_fk,nil_new, ?_⟩|rw[t1]);conv=>whnf));(first|exact Recast.refl _|exact Frz.recast (Recast.refl _) rfl|(refine Frz.one rfl rfl ?_;skip)|(refine Frz.tup ?_;skip))
  ·have t2:decide (((F2.p:Nat):Int)>0)=true:=decide_eq_true (by omega)
   have hlt:=hke fun h=>f2 h.2
   (repeat((first|refine step_w1 rfl rfl ?_|refine step_i (by kernel_rfl) ?_|refine g_c (by assumption) ?_|refine g_o (op_pickF rfl (ev_ok rfl) (ev_ok rfl)) ?_|refine tst_tt t2 ?_|refine g_o (op_loadA rfl (ev_ok rfl) (tgt rfl) rfl (Nat.succ_ne_zero _) rfl) ?_|refine⟨_,[],[],op_indexAgg rfl (ev_ok rfl) (l:=[.int .i64 _,.int .i64 _,.int .i64 _]) rfl (ev_ok rfl) (TabOK.get (t:=125) tabOK rfl) rfl (TabOK.get (t:=3) tabOK rfl) rfl rfl (by decide) (by decide) (v:=.int .i64 _) rfl rfl,nil_fk,nil_new, ?_⟩|rw[t1]|rw[t2]);conv=>whnf))
   exact⟨e - (k+1),fun k=>k,[2,3,4,5],[4,5],by omega,by kernel_rfl,k+1,rfl,hlt,rfl,rfl⟩
 ·have t1:decide (((F1.m:Nat):Int)>0)=true:=decide_eq_true (by omega)
  have hlt:=hke fun h=>f1 h.1
  (repeat((first|refine step_w1 rfl rfl ?_|refine step_w2 rfl rfl ?_|refine step_i (by kernel_rfl) ?_|refine g_c (by assumption) ?_|refine g_o (op_pickT rfl (ev_ok rfl) (ev_ok rfl)) ?_|refine g_o (op_loadA rfl (ev_ok rfl) (tgt rfl) rfl (Nat.succ_ne_zero _) rfl) ?_|refine⟨_,[],[],op_indexAgg rfl (ev_ok rfl) (l:=[.int .i64 _,.int .i64 _,.int .i64 _]) rfl (ev_ok rfl) (TabOK.get (t:=125) tabOK rfl) rfl (TabOK.get (t:=3) tabOK rfl) rfl rfl (by decide) (by decide) (v:=.int .i64 _) rfl rfl,nil_fk,nil_new, ?_⟩|rw[t1]);conv=>whnf))
  exact⟨e - (k+1),fun k=>k,[2,3,4,5],[4,5],by omega,by kernel_rfl,k+1,rfl,hlt,rfl,rfl⟩
theorem m_ReachOK {n A:Nat} {a m:List Rat} {q:Rat} (h:PenOK n A a m) (kr:CallOK Tryz.prog 81 [mA n n a,mA n n m] [] (.frac q) [] []):CallOK Tryz.prog 27 [mA n n a,mA n n m] [] (.tup [.frac q,iv 0]) [] []:=by
 have k1:=m_CheckOK h
 refine callV (Z:=[2,3]) tabOK mixedOK Tryz.func27 rfl (by kernel_rfl) rfl rfl (by kernel_rfl) rfl ?_
 intro W0 w0 ρ0 hE
 conv=>whnf
 (repeat((first|refine step_w2 rfl rfl ?_|refine g_c (by assumption) ?_|rw[bne_self_eq_false]|refine g_o (op_loadA rfl (ev_ok rfl) (tgt rfl) rfl (Nat.succ_ne_zero _) rfl) ?_);conv=>whnf));(first|exact Recast.refl _|exact Frz.recast (Recast.refl _) rfl|(refine Frz.one rfl rfl ?_;skip)|(refine Frz.tup ?_;skip))
theorem m_QuotOK {n A:Nat} {a m v:List Rat} {x y:Rat} (h:PenOK n A a m) (k2:CallOK Tryz.prog 82 [mA n n a,fvec v,fvec v] [] (.tup [.frac x,iv 0]) [] []) (k3:CallOK Tryz.prog 82 [mA n n m,fvec v,fvec v] [] (.tup [.frac y,iv 0]) [] [])
  (hy:y≠0) (hs:fs x+fs y≤4398046511104):CallOK Tryz.prog 28 [mA n n a,mA n n m,fvec v] [] (.tup [.frac (x/y),iv 0]) [] []:=by
 have k1:=m_CheckOK h
 have k4:=x_Div x y hy hs
 refine callV (Z:=[3,4]) tabOK mixedOK Tryz.func28 rfl (by kernel_rfl) rfl rfl (by kernel_rfl) rfl ?_
 intro W0 w0 ρ0 hE
 conv=>whnf
 (repeat((first|refine step_w2 rfl rfl ?_|refine g_c (by assumption) ?_|rw[bne_self_eq_false]|refine g_o (op_loadA rfl (ev_ok rfl) (tgt rfl) rfl (Nat.succ_ne_zero _) rfl) ?_);conv=>whnf));(first|exact Recast.refl _|exact Frz.recast (Recast.refl _) rfl|(refine Frz.one rfl rfl ?_;skip)|(refine Frz.tup ?_;skip))
theorem m_QuotZ {n A:Nat} {a m v:List Rat} {x:Rat} (h:PenOK n A a m) (k2:CallOK Tryz.prog 82 [mA n n a,fvec v,fvec v] [] (.tup [.frac x,iv 0]) [] []) (k3:CallOK Tryz.prog 82 [mA n n m,fvec v,fvec v] [] (.tup [.frac 0,iv 0]) [] []):
  CallOK Tryz.prog 28 [mA n n a,mA n n m,fvec v] [] (.tup [.frac 0,iv 5]) [] []:=by
 have k1:=m_CheckOK h
 have k4:=c_fDivZ x
 refine callV (Z:=[3,4]) tabOK mixedOK Tryz.func28 rfl (by kernel_rfl) rfl rfl (by kernel_rfl) rfl ?_
 intro W0 w0 ρ0 hE
 conv=>whnf
 (repeat((first|refine step_w2 rfl rfl ?_|refine g_c (by assumption) ?_|rw[bne_self_eq_false]|refine g_o (op_loadA rfl (ev_ok rfl) (tgt rfl) rfl (Nat.succ_ne_zero _) rfl) ?_);conv=>whnf));(first|exact Recast.refl _|exact Frz.recast (Recast.refl _) rfl|(refine Frz.one rfl rfl ?_;skip)|(refine Frz.tup ?_;skip))
end Go.Proofs.YtfjhnollamkdcaaGreatDoor
namespace Go.Proofs.YtfjhnollamkdcaaGreatDoor
open Go.Sx
set_option linter.unusedSimpArgs false
set_option linter.unusedVariables false
set_option maxRecDepth 100000
set_option maxHeartbeats 4000000
def zs (z:Int):Nat:=sz z.natAbs+1
theorem zs_add (a b:Int):zs (a+b)≤zs a+zs b:=by
 have:=sz_add (a:=a.natAbs) (b:=b.natAbs) (k:=max (sz a.natAbs) (sz b.natAbs)) (by omega) (by omega)
 have:=sz_mono (Int.natAbs_add_le a b)
 unfold zs;omega
theorem zs_neg (a:Int):zs (-a)=zs a:=by unfold zs;rw[Int.natAbs_neg]
theorem zs_sub (a b:Int):zs (a - b)≤zs a+zs b:=by rw[Int.sub_eq_add_neg,←zs_neg b];exact zs_add _ _
theorem zs_mul (a b:Int):zs (a*b)≤zs a+zs b:=by
 have:=sz_mul a.natAbs b.natAbs
 unfold zs;rw[Int.natAbs_mul];omega
theorem zs_div (a b:Int):zs (a/b)≤zs a:=by
 have:=sz_mono (Int.natAbs_ediv_le_natAbs a b)
 unfold zs;omega
theorem zs_1:zs 1=2:=by decide+kernel
theorem zz_Add (a b:Int) (h:zs a+zs b≤1073741824):CallOK Tryz.prog 97 [.int a,.int b] [] (.int (a+b)) [] []:=c_iAdd natBig a b (by unfold zs at h;omega) (by unfold zs at h;omega)
theorem zz_Div (a b:Int) (h:zs a+zs b≤1073741824):∃r ok,CallOK Tryz.prog 145 [.int a,.int b] [] (.tup [.int (a/b),.int r,.val (.bool ok)]) [] []:=by
 by_cases h0:b=0
 ·subst h0;rw[Int.ediv_zero];exact⟨_,_,c_iDivZ natBig a⟩
 ·exact⟨_,_,c_iDiv natBig a b (by unfold zs at h;omega) (by unfold zs at h;omega) h0⟩
def mkz (r c:Nat) (f:Mz):List Int:=(List.range (r*c)).map fun p=>f (p/c) (p % c)
abbrev elz (a:List Int) (c i k:Nat):Int:=a.getD (i*c+k) 0
theorem mkz_len (r c:Nat) (f:Mz):(mkz r c f).length=r*c:=by simp[mkz]
theorem mkz_at {r c:Nat} {f:Mz} {p:Nat} (hp:p<r*c):(mkz r c f).getD p 0=f (p/c) (p % c):=by
 simp[mkz,List.getD_eq_getElem?_getD,hp]
theorem mkz_el {r c i k:Nat} {f:Mz} (hi:i<r) (hk:k<c):elz (mkz r c f) c i k=f i k:=by
 rw[elz,mkz_at (idx_lt hi hk),idx_div hk,idx_mod hk]
theorem zec_ext {a b:List Int} {n:Nat} (ha:a.length=n) (hb:b.length=n) (h:∀p,p<n→a.getD p 0=b.getD p 0):a=b:=by
 refine List.ext_getElem (by omega) fun p h1 h2=> ?_
 have:=h p (by omega)
 rwa [List.getD_eq_getElem?_getD,List.getD_eq_getElem?_getD,List.getElem?_eq_getElem h1,List.getElem?_eq_getElem h2]at this
theorem maz_ext {a b:List Int} {r c:Nat} (ha:a.length=r*c) (hb:b.length=r*c) (h:∀i k,i<r→k<c→elz a c i k=elz b c i k):a=b:=by
 refine zec_ext ha hb fun p hp=> ?_
 obtain⟨h1,h2,h3⟩:=idx_split hp
 have:=h _ _ h1 h2
 rwa [elz,elz,h3]at this
theorem mkz_ext {a:List Int} {r c:Nat} {f:Mz} (ha:a.length=r*c) (h:∀i k,i<r→k<c→f i k=elz a c i k):mkz r c f=a:=
 maz_ext (mkz_len ..) ha fun i k hi hk=>by rw[mkz_el hi hk,h i k hi hk]
theorem mkz_congr {r c:Nat} {f g:Mz} (h:∀i k,i<r→k<c→f i k=g i k):mkz r c f=mkz r c g:=
 mkz_ext (mkz_len ..) fun i k hi hk=>by rw[mkz_el hi hk,h i k hi hk]
theorem mkz_self {a:List Int} {r c:Nat} (ha:a.length=r*c):mkz r c (elz a c)=a:=mkz_ext ha fun _ _ _ _=>rfl
def Zm (B:Nat) (l:List Int):Prop:=∀p,p<l.length→zs (l.getD p 0)≤B
theorem Zm_mk {r c B:Nat} {f:Mz} (h:∀i k,i<r→k<c→zs (f i k)≤B):Zm B (mkz r c f):=by
 intro p hp
 rw[mkz_len]at hp
 obtain⟨h1,h2,_⟩:=idx_split hp
 rw[mkz_at hp];exact h _ _ h1 h2
theorem elz_zm {a:List Int} {r c B i k:Nat} (h:Zm B a) (ha:a.length=r*c) (hi:i<r) (hk:k<c):zs (elz a c i k)≤B:=h _ (by rw[ha];exact idx_lt hi hk)
theorem Zm.mono {B C:Nat} {a:List Int} (h:Zm B a) (hBC:B≤C):Zm C a:=fun p hp=>Nat.le_trans (h p hp) hBC
structure OKZ (R C:Nat) (a:List Int):Prop where
 r:R≤2048
 c:C≤2048
 n:a.length=R*C
end Go.Proofs.YtfjhnollamkdcaaGreatDoor
namespace Go.Proofs.YtfjhnollamkdcaaGreatDoor
open Go.Sx
set_option linter.unusedSimpArgs false
set_option linter.unusedVariables false
set_option maxRecDepth 100000
set_option maxHeartbeats 40000000
def seaF (p:Int→Bool):Nat→Int→Int→Int
 |0,_,high=>high
 |f+1,low,high=>if low<high then(if p ((low+high).ediv 2)=true then seaF p f low ((low+high).ediv 2)else seaF p f ((low+high).ediv 2+1) high)else high
theorem seaF_spec (p:Int→Bool):∀(f:Nat) (low high:Int),low≤high→high - low<2^f→p high=true→
  low≤seaF p f low high∧seaF p f low high≤high∧p (seaF p f low high)=true∧(seaF p f low high=low∨p (seaF p f low high - 1)=false)
 |0,low,high,h1,h2,h3=>by
  have:high=low:=by have:(2:Int)^0=1:=rfl;omega
  subst this
  exact⟨Int.le_refl _,Int.le_refl _,h3,.inl rfl⟩
 |f+1,low,high,h1,h2,h3=>by
  rw[seaF]
  have hp:(2:Int)^(f+1)=2*2^f:=by rw[Int.pow_succ];omega
  by_cases hlt:low<high
  ·rw[if_pos hlt]
   have hm:low≤(low+high).ediv 2∧(low+high).ediv 2<high∧2*(low+high).ediv 2≤low+high∧low+high≤2*(low+high).ediv 2+1:=by
    have:(low+high).ediv 2=(low+high)/2:=rfl
    omega
   generalize (low+high).ediv 2=m at*
   cases hpm:p m with
   |true=>
    rw[if_pos rfl]
    obtain⟨a1,a2,a3,a4⟩:=seaF_spec p f low m hm.1 (by omega) hpm
    exact⟨a1,by omega,a3,a4⟩
   |false=>
    rw[if_neg (by decide)]
    obtain⟨a1,a2,a3,a4⟩:=seaF_spec p f (m+1) high (by omega) (by omega) h3
    refine⟨by omega,a2,a3,.inr ?_⟩
    rcases a4 with e|e
    ·rw[e,Int.add_sub_cancel];exact hpm
    ·exact e
  ·rw[if_neg hlt]
   have:high=low:=by omega
   subst this
   exact⟨Int.le_refl _,Int.le_refl _,h3,.inl rfl⟩
theorem m_seaAt (k:Int) (step:Rat) (h:sz k.natAbs+fs step≤1000000):CallOK Tryz.prog 144 ([]++([.int k]++[ptrA [.frac step]])) [] (.frac ((k:Rat)*step)) [] []:=by
 have k1:=c_fFrom natHuge k 1 (by omega) (by decide) (by decide)
 rw[show mkRat k 1=(k:Rat)from Rat.mkRat_one k]at k1
 have k2:=x_Mul (k:Rat) step (by have:=fsz_int (n:=k) (k:=sz k.natAbs+1) (by omega) (by omega);unfold fs at h ⊢;omega)
 have k0:CallOK Tryz.prog 140 [.val (.int .u64 1)] [] (.nat 1) [] []:=c_nOf 1 (by decide)
 refine callV (Z:=[2]) tabOK mixedOK Tryz.func144 rfl (by kernel_rfl) rfl rfl (by kernel_rfl) rfl ?_
 intro W0 w0 ρ0 hE
 conv=>whnf
 (repeat(first|(refine step_i (by kernel_rfl) ?_;conv=>whnf)|(refine g_c (by assumption) ?_;conv=>whnf)|(refine g_o (op_loadA rfl (ev_ok rfl) (tgt rfl) rfl (Nat.succ_ne_zero _) rfl) ?_;conv=>whnf)));(first|exact Recast.refl _|exact Frz.recast (Recast.refl _) rfl|(refine Frz.one rfl rfl ?_;skip)|(refine Frz.tup ?_;skip))
abbrev iBx (z:Int):Blk:=⟨47,true,.one [.int z]⟩
theorem m_search {f S:Nat} (low high:Int) (step:Rat) (p:Int→Bool) (g:FuncId) (p1 p2 p3:Pred) (hlh:low≤high) (hf:high - low<2^f) (hS:S≤100000) (hsz:∀k,low≤k→k≤high→sz k.natAbs≤S) (hst:fs step≤S)
  (hp:∀k:Int,low≤k→k≤high→CallOK Tryz.prog g ([]++([.frac ((k:Rat)*step)]++[.atom p1,.atom p2,.atom p3])) [] (.val (.bool (p k))) [] []):
  CallOK Tryz.prog 85 [.int low,.int high,.frac step,.clo g [] [.atom p1,.atom p2,.atom p3]] [] (.frac ((seaF p f low high:Int)*step)) [] []:=by
 obtain⟨R,hR⟩:∃R,seaF p f low high=R:=⟨_,rfl⟩
 rw[hR]
 refine callV (Z:=[6]) tabOK mixedOK Tryz.func85 rfl (by kernel_rfl) rfl rfl (by kernel_rfl) rfl ?_
 intro W0 w0 ρ0 hE
 conv=>whnf
 (repeat(first|(refine g_o (op_makeFunc rfl rfl rfl) ?_;conv=>whnf)))
 refine SW_loopN hE (fun k=>k) [3,4,5,8,9] [4,5,8] (fun m' fr hp=>∃lo hi:Int,low≤lo∧lo≤hi∧hi≤high∧hi - lo<2^m'∧seaF p m' lo hi=R∧
  fr=[(3,.clo g [] [.atom p1,.atom p2,.atom p3]),(4,.ptr 4 0 0 0),(5,.ptr 5 0 0 0),(8,.ptr 8 0 0 0),(9,.clo 144 [] [ptrA [.frac step]])]∧hp=[(4,iBx lo),(5,iBx hi),(8,⟨49,true,.one [.frac 0]⟩)]) f ?_ ?_ ?_
 ·kernel_rfl
 ·exact⟨low,high,Int.le_refl _,hlh,Int.le_refl _,hf,hR,rfl,rfl⟩
 rintro m' _ _ ⟨lo,hi,h1,h2,h3,h4,h5,rfl,rfl⟩
 have s1:=hsz lo h1 (by omega)
 have s2:=hsz hi (by omega) h3
 have kc:=c_iCmp lo hi (by omega) (by omega)
 conv=>whnf
 by_cases hlt:lo<hi
 ·have hm0:m'≠0:=fun e=>by
   rw[e]at h4
   have:(2:Int)^0=1:=rfl
   omega
  obtain⟨f',rfl⟩:∃f',m'=f'+1:=⟨m' - 1,by omega⟩
  have hpw:(2:Int)^(f'+1)=2*2^f':=by rw[Int.pow_succ];omega
  have t1:decide ((lo - hi).sign<0)=true:=decide_eq_true (by rw[Int.sign_eq_neg_one_of_neg (a:=lo - hi) (by omega)];decide)
  have z2:zs 2≤4:=by decide
  have ka:=zz_Add lo hi (by unfold zs;omega)
  have kt:CallOK Tryz.prog 80 [.val (.int .i64 2)] [] (.int 2) [] []:=c_iOf 2 (by decide) (by decide)
  have ko:CallOK Tryz.prog 80 [.val (.int .i64 1)] [] (.int 1) [] []:=c_iOf 1 (by decide) (by decide)
  obtain⟨rr,ok,kd⟩:=zz_Div (lo+hi) 2 (by have:=zs_add lo hi;unfold zs at*;omega)
  have hm:lo≤(lo+hi)/2∧(lo+hi)/2<hi∧2*((lo+hi)/2)≤lo+hi∧lo+hi≤2*((lo+hi)/2)+1:=by omega
  have hse:seaF p (f'+1) lo hi=if p ((lo+hi)/2)=true then seaF p f' lo ((lo+hi)/2)else seaF p f' ((lo+hi)/2+1) hi:=by rw[seaF,if_pos hlt];first|done|rfl
  rw[hse]at h5
  clear hse
  generalize (lo+hi)/2=m at*
  have s3:=hsz m (by omega) (by omega)
  have kat:=m_seaAt m step (by omega)
  have kh:=hp m (by omega) (by omega)
  have z1:zs 1≤4:=by decide
  have kp:=zz_Add m 1 (by unfold zs at*;omega)
  cases hpm:p m with
  |true=>
   rw[hpm]at kh h5
   rw[if_pos rfl]at h5
   (repeat((first|refine step_w1 rfl rfl ?_|refine g_c (by assumption) ?_|refine tst_tt t1 ?_|rw[t1]);conv=>whnf))
   exact⟨f',fun k=>k,[3,4,5,8,9],[4,5,8],by omega,by kernel_rfl,lo,m,h1,hm.1,by omega,by omega,h5,rfl,rfl⟩
  |false=>
   rw[hpm]at kh h5
   rw[if_neg (by decide)]at h5
   (repeat((first|refine step_w2 rfl rfl ?_|refine step_i (by kernel_rfl) ?_|refine g_c (by assumption) ?_|refine tst_tt t1 ?_|rw[t1]);conv=>whnf))
   exact⟨f',fun k=>k,[3,4,5,8,9],[4,5,8],by omega,by kernel_rfl,m+1,hi,by omega,by omega,h3,by omega,h5,rfl,rfl⟩
 ·have t1:decide ((lo - hi).sign<0)=false:=decide_eq_false (by rw[show lo - hi=0 by omega];decide)
  have hRe:R=hi:=by
   rw[←h5]
   cases m' with
   |zero=>rfl
   |succ q=>rw[seaF,if_neg hlt]
  have kat:=m_seaAt hi step (by omega)
  rw[hRe]
  (repeat(first|(refine g_c (by assumption) ?_;conv=>whnf)|(refine tst_ff t1 ?_;conv=>whnf)));(first|exact Recast.refl _|exact Frz.recast (Recast.refl _) rfl|(refine Frz.one rfl rfl ?_;skip)|(refine Frz.tup ?_;skip))
end Go.Proofs.YtfjhnollamkdcaaGreatDoor
namespace Go.Proofs.YtfjhnollamkdcaaGreatDoor
open Go.Sx
set_option linter.unusedSimpArgs false
set_option linter.unusedVariables false
set_option maxRecDepth 100000
set_option maxHeartbeats 40000000
theorem m_reached {n:Nat} {a m:List Rat} {t:Rat} {k:Nat} (hk:k≤64) (hn:(countF n a m t).m+(countF n a m t).left≤64) (kc:CallOK Tryz.prog 70 [mA n n a,mA n n m,.frac t] [] (cnV (countF n a m t)) [] []):
  CallOK Tryz.prog 84 ([]++([.frac t]++[ptrA (mC n n a),ptrA (mC n n m),ptrA [iv k]])) [] (.val (.bool (decide (k<(countF n a m t).m+(countF n a m t).left)))) [] []:=by
 generalize countF n a m t=F at*
 have w1:IntKind.i64.wrap (((F.m:Nat):Int)+((F.left:Nat):Int))=((F.m+F.left:Nat):Int):=by rw[wrap_i64 (by omega) (by omega)];omega
 have w2:decide (((F.m+F.left:Nat):Int)>((k:Nat):Int))=decide (k<F.m+F.left):=decide_eq_decide.2 ⟨fun h=>by omega,fun h=>by omega⟩
 rw[←w2]
 refine callV (Z:=[4]) tabOK mixedOK Tryz.func84 rfl (by kernel_rfl) rfl rfl (by kernel_rfl) rfl ?_
 intro W0 w0 ρ0 hE
 conv=>whnf
 (repeat((first|refine step_oA (by first|omega|decide|(simp only[tl0,dlen,List.length_replicate,List.length_set,List.length_map,List.length_zipWith,List.length_take,List.length_append,List.length_cons,List.length_nil];omega)) ?_|refine g_c (by assumption) ?_|refine g_o (op_loadA rfl (ev_ok rfl) (tgt rfl) rfl (Nat.succ_ne_zero _) rfl) ?_|rw[w1]);conv=>whnf));(first|exact Recast.refl _|exact Frz.recast (Recast.refl _) rfl|(refine Frz.one rfl rfl ?_;skip)|(refine Frz.tup ?_;skip))
end Go.Proofs.YtfjhnollamkdcaaGreatDoor
namespace Go.Proofs.YtfjhnollamkdcaaGreatDoor
open Go.Sx
set_option linter.unusedSimpArgs false
set_option linter.unusedVariables false
set_option maxRecDepth 100000
set_option maxHeartbeats 8000000
structure Pen (n B C:Nat) (a m:List Rat):Prop where
 n5:n≤5
 oa:a.length=n*n
 om:m.length=n*n
 sa:SymM n a
 sm:SymM n m
 pos:PosX n (el m n)
 za:Sm B a
 zm:Sm C m
section
variable {n B C:Nat} {a m:List Rat} (h:Pen n B C a m)
include h
theorem Pen.ka:OKM n n a:=⟨by have:=h.n5;omega,by have:=h.n5;omega,h.oa⟩
theorem Pen.km:OKM n n m:=⟨by have:=h.n5;omega,by have:=h.n5;omega,h.om⟩
theorem Pen.sym (t:Rat):SymX n (begX n a m t):=pcl_sym (A:=el a n) (M:=el m n) h.sa h.sm t
theorem Pen.iner (t:Rat):Iner n (pcl (el a n) (el m n) t) (countF n a m t).m (countF n a m t).left (countF n a m t).p:=inRun_iner (h.sym t)
theorem Pen.self:Pen n C C m m:=⟨h.n5,h.om,h.om,h.sm,h.sm,h.pos,h.zm,h.zm⟩
theorem Pen.ok (h2:2≤C) (hC:C≤80000):PenOK n C a m where
 n5:=h.n5
 sa:=⟨h.ka,(sym_turn h.oa h.sa).symm⟩
 sm:=⟨h.km,(sym_turn h.om h.sm).symm⟩
 symM:=h.self.sym 0
 h2:=h2
 hM:=hC
 sz i q hi hq:=el_sm h.zm h.om hi hq
 pos:=h.pos.iner ((h.self.iner 0).congr fun i k _ _=>by unfold pcl;grind)
theorem Pen.sum (t:Rat):(countF n a m t).m+(countF n a m t).left+(countF n a m t).p=n:=(h.iner t).sum
theorem Pen.size {T D:Nat} {t:Rat} (ht:fs t≤T) (hD:B+(T+C)≤D):∀i q,i<n→q<n→fs (a.getD (i*n+q) 0)+(fs t+fs (m.getD (i*n+q) 0))≤D:=fun i q hi hq=>by
 have h1:=el_sm h.za h.oa hi hq
 have h2:=el_sm h.zm h.om hi hq
 unfold el at h1 h2
 omega
theorem Pen.count {T:Nat} (t:Rat) (ht:fs t≤T) (h2:2≤C) (hD:B+(T+C)≤80000):CallOK Tryz.prog 18 [mA n n a,mA n n m,.frac t] [] (.tup [iv (countF n a m t).m,iv (countF n a m t).left,iv (countF n a m t).p,iv 0]) [] []:=
 m_CountOK t (h.ok h2 (by omega)) (h.sym t) (B:=B+(T+C)) (by omega) (by omega) (h.size ht (Nat.le_refl _))
theorem Pen.steps:Steps (fun t=>(countF n a m t).m) fun t=>(countF n a m t).left:=⟨fun t t' htt=>(h.iner t).past h.sa h.sm h.pos htt (h.iner t')⟩
end
end Go.Proofs.YtfjhnollamkdcaaGreatDoor
namespace Go.Proofs.YtfjhnollamkdcaaGreatDoor
open Go.Sx
set_option linter.unusedSimpArgs false
set_option linter.unusedVariables false
set_option maxRecDepth 100000
set_option maxHeartbeats 40000000
theorem fs_pow2 (k:Nat):fs ((2:Rat)^k)≤4+k:=by
 have h1:(2:Rat)^k=(((2^k:Nat):Int):Rat):=by rw[Int.natCast_pow,Rat.intCast_pow];rfl
 have h2:=fsz_int (n:=((2^k:Nat):Int)) (k:=k+1) (by rw[Int.natAbs_natCast];exact sz_le.2 (Nat.pow_lt_pow_right (by decide) (by omega))) (by omega)
 rw[h1];unfold fs;omega
theorem sz_abs {x:Int} {e:Nat} (h1: -(2:Int)^e≤x) (h2:x≤(2:Int)^e):sz x.natAbs≤e+1:=by
 refine sz_le.2 (Nat.lt_of_le_of_lt (m:=2^e) ?_ (Nat.pow_lt_pow_right (by decide) (by omega)))
 have:((2^e:Nat):Int)=(2:Int)^e:=Int.natCast_pow ..
 omega
theorem pow_ratInt (e:Nat):(2:Rat)^e=(((2:Int)^e:Int):Rat):=by rw[Rat.intCast_pow];rfl
theorem rpow_add (x:Rat) (a:Nat):∀b:Nat,x^(a+b)=x^a*x^b
 |0=>by rw[Nat.add_zero,Rat.pow_zero,Rat.mul_one]
 |b+1=>by rw[←Nat.add_assoc,Rat.pow_succ,rpow_add x a b,Rat.pow_succ,Rat.mul_assoc]
theorem two_pos (e:Nat):(0:Rat)<2^e:=Rat.pow_pos (by decide)
section
variable {n B C e:Nat} {a m:List Rat} (h:Pen n B C a m)
include h
theorem Pen.reach (h2:2≤C) (hs:B+C≤20000) (he:e≤70) (h1:noFar n a m (2^e)) (h0:∀k,k<e→¬noFar n a m (2^k)):
  CallOK Tryz.prog 81 [mA n n a,mA n n m] [] (.frac (2^e)) [] []:=
 m_reach (B:=B+C+4) h.n5 h.ka h.km h.sym (by omega) (by omega) (fun i q hi hq=>by
  have h1:=el_sm h.za h.oa hi hq
  have h2:=el_sm h.zm h.om hi hq
  unfold el at h1 h2;omega) h1 h0 fun k _=>fs_pow2 k
theorem Pen.brk {k places:Nat} (hk:k<n) (h1:noFar n a m (2^e)) {R:Int}
  (hR:R=seaF (fun K=>decide (k<(countF n a m ((K:Rat)*(1/2^places))).m+(countF n a m ((K:Rat)*(1/2^places))).left)) (e+places+2) (-((2:Int)^(e+places))) ((2:Int)^(e+places))):
  (-((2:Int)^(e+places))≤R∧R≤(2:Int)^(e+places))∧∀low:Rat,(low=if (countF n a m ((R:Rat)*(1/2^places))).m>k then(R:Rat)*(1/2^places) - 1/2^places else(R:Rat)*(1/2^places))→
   Brk (fun t=>(countF n a m t).m) (fun t=>(countF n a m t).left) k (1/2^places) low ((R:Rat)*(1/2^places)):=by
 have hp:(2:Rat)^places*(1/2^places)=1:=by
  rw[Rat.div_def,Rat.one_mul];exact Rat.mul_inv_cancel _ (by have:=two_pos places;grind)
 have hst:(0:Rat)<1/2^places:=by
  rw[Rat.div_def,Rat.one_mul];exact Rat.inv_pos.2 (two_pos places)
 have hmost:∀s:Rat,s*2^(e+places)*(1/2^places)=s*2^e:=fun s=>by
  rw[rpow_add]
  have:s*(2^e*2^places)*(1/2^places)=s*2^e*(2^places*(1/2^places)):=by grind
  rw[this,hp,Rat.mul_one]
 have hM:(((2:Int)^(e+places):Int):Rat)=2^(e+places):=(pow_ratInt _).symm
 have hpos:(0:Int)<2^(e+places):=Int.pow_pos (by decide)
 have hw:((2:Int)^(e+places)) - (-((2:Int)^(e+places)))<2^(e+places+2):=by
  rw[show e+places+2=(e+places)+1+1 from rfl,Int.pow_succ,Int.pow_succ];omega
 have htop:decide (k<(countF n a m ((((2:Int)^(e+places):Int):Rat)*(1/2^places))).m+(countF n a m ((((2:Int)^(e+places):Int):Rat)*(1/2^places))).left)=true:=by
  rw[hM,show(2:Rat)^(e+places)*(1/2^places)=2^e from by have:=hmost 1;grind]
  have g1:=h.sum (2^e)
  have g2:=h1.2
  exact decide_eq_true (by omega)
 obtain⟨a1,a2,a3,a4⟩:=seaF_spec (fun K=>decide (k<(countF n a m ((K:Rat)*(1/2^places))).m+(countF n a m ((K:Rat)*(1/2^places))).left)) (e+places+2) (-((2:Int)^(e+places))) ((2:Int)^(e+places)) (by omega) hw htop
 rw[←hR]at a1 a2 a3 a4
 have b3:=of_decide_eq_true a3
 refine⟨⟨a1,a2⟩,fun low hlow=>⟨⟨R,rfl⟩,b3, ?_⟩⟩
 by_cases hg:(countF n a m ((R:Rat)*(1/2^places))).m>k
 ·rw[if_pos hg]at hlow
  refine .inr ⟨hlow,hg, ?_⟩
  rcases a4 with g|g
  ·exfalso
   rw[g,Rat.intCast_neg,hM,show -(2:Rat)^(e+places)*(1/2^places)= -(2^e)from by have:=hmost (-1);grind]at hg
   have:=h1.1
   omega
  ·have g:=of_decide_eq_false g
   rw[Rat.intCast_sub,show((R:Rat) - ((1:Int):Rat))*(1/2^places)=(R:Rat)*(1/2^places) - 1/2^places from by
    have:((1:Int):Rat)=1:=rfl
    grind,←hlow]at g
   show(countF n a m low).m+(countF n a m low).left≤k
   omega
 ·rw[if_neg hg]at hlow
  exact .inl ⟨hlow,by show(countF n a m ((R:Rat)*(1/2^places))).m≤k;omega⟩
theorem m_BracketOK {k places:Nat} (h2:2≤C) (hs:B+C≤20000) (hk:k<n) (hp:places≤100) (he:e≤70) (h1:noFar n a m (2^e)) (h0:∀k,k<e→¬noFar n a m (2^k)):
  ∃(R:Int) (low:Rat),R=seaF (fun K=>decide (k<(countF n a m ((K:Rat)*(1/2^places))).m+(countF n a m ((K:Rat)*(1/2^places))).left)) (e+places+2) (-((2:Int)^(e+places))) ((2:Int)^(e+places))∧
   low=(if (countF n a m ((R:Rat)*(1/2^places))).m>k then(R:Rat)*(1/2^places) - 1/2^places else(R:Rat)*(1/2^places))∧
   CallOK Tryz.prog 29 [mA n n a,mA n n m,iv (k:Nat),iv (places:Nat)] [] (.tup [.frac low,.frac ((R:Rat)*(1/2^places)),iv 0]) [] []∧fs low≤1000∧fs ((R:Rat)*(1/2^places))≤1000:=by
 refine⟨_,_,rfl,rfl, ?_⟩
 obtain⟨R,hR⟩:∃R,R=seaF (fun K=>decide (k<(countF n a m ((K:Rat)*(1/2^places))).m+(countF n a m ((K:Rat)*(1/2^places))).left)) (e+places+2) (-((2:Int)^(e+places))) ((2:Int)^(e+places)):=⟨_,rfl⟩
 obtain⟨⟨r1,r2⟩,hbk⟩:=h.brk hk h1 hR
 have fst:fs ((1:Rat)/2^places)≤106:=by
  have g1:=fs_div 1 ((2:Rat)^places)
  have g2:=fs_pow2 places
  have g3:=fs_one
  omega
 have fK:∀K:Int, -((2:Int)^(e+places))≤K→K≤(2:Int)^(e+places)→fs ((K:Rat)*(1/2^places))≤300:=fun K k1 k2=>by
  have g1:=sz_abs k1 k2
  have g2:=fsz_int (n:=K) g1 (by omega)
  have g3:=fs_mul (K:Rat) (1/2^places)
  unfold fs at*;omega
 have hn5:=h.n5
 have kc:∀t,fs t≤1000→CallOK Tryz.prog 70 [mA n n a,mA n n m,.frac t] [] (cnV (countF n a m t)) [] []:=fun t ht=>m_count (B+(1000+C)) a m t hn5 h.ka h.km (h.sym t) (by omega) (by omega) (h.size ht (Nat.le_refl _))
 have k1:=m_CheckOK (h.ok h2 (by omega))
 have k2:=h.reach h2 hs he h1 h0
 have k3:=x_Pow2 places (by omega)
 have f2:CallOK Tryz.prog 26 [iv 2] [] (.frac 2) [] []:=c_fInt 2 (by decide) (by decide)
 have f1:CallOK Tryz.prog 26 [iv 1] [] (.frac 1) [] []:=c_fInt 1 (by decide) (by decide)
 have g2:=fs_pow2 places
 have g3:=fs_pow2 e
 have k4:=x_Div 1 ((2:Rat)^places) (by have:=two_pos places;grind) (by have:=fs_one;omega)
 have k5:=x_Mul ((2:Rat)^e) (2^places) (by omega)
 rw[←rpow_add]at k5
 have k6:=c_Num ((2:Rat)^(e+places))
 rw[show((2:Rat)^(e+places)).num=(2:Int)^(e+places)from by rw[pow_ratInt];exact Rat.num_intCast _]at k6
 have k7:=c_Neg ((2:Int)^(e+places))
 have hw:((2:Int)^(e+places)) - (-((2:Int)^(e+places)))<2^(e+places+2):=by
  have hpos:(0:Int)<2^(e+places):=Int.pow_pos (by decide)
  rw[show e+places+2=(e+places)+1+1 from rfl,Int.pow_succ,Int.pow_succ];omega
 have k8:=m_search (f:=e+places+2) (S:=300) (-((2:Int)^(e+places))) ((2:Int)^(e+places)) (1/2^places) (fun K=>decide (k<(countF n a m ((K:Rat)*(1/2^places))).m+(countF n a m ((K:Rat)*(1/2^places))).left)) 84 (ptrP (mC n n a)) (ptrP (mC n n m)) (ptrP [iv (k:Nat)])
  (by omega) hw (by decide) (fun K k1 k2=>Nat.le_trans (sz_abs k1 k2) (by omega)) (by omega) fun K k1 k2=>m_reached (by omega) (by have:=h.sum ((K:Rat)*(1/2^places));omega) (kc _ (by have:=fK K k1 k2;omega))
 rw[←hR]at k8 ⊢
 have fR:=fK R r1 r2
 have k9:=kc ((R:Rat)*(1/2^places)) (by omega)
 have ks:=x_Sub ((R:Rat)*(1/2^places)) (1/2^places) (by omega)
 have fL:=fs_sub ((R:Rat)*(1/2^places)) (1/2^places)
 have t1:decide ((k:Int)<0)=false:=decide_eq_false (by omega)
 have t2:decide ((k:Int)≥(n:Int))=false:=decide_eq_false (by omega)
 have t3:decide ((places:Int)<0)=false:=decide_eq_false (by omega)
 have t4:decide ((places:Int)>100)=false:=decide_eq_false (by omega)
 clear hbk kc fK g2 g3 hw r1 r2 hR
 generalize (R:Rat)*(1/2^places)=hi at*
 generalize (1:Rat)/2^places=st at*
 generalize (2:Rat)^places=sc at*
 generalize (2:Int)^(e+places)=mo at*
 generalize (2:Rat)^(e+places)=rm at*
 generalize (2:Rat)^e=re at*
 generalize countF n a m hi=F at*
 by_cases hF:F.m>k
 ·rw[if_pos hF]
  have t5:decide (((F.m:Nat):Int)>(k:Int))=true:=decide_eq_true (by omega)
  refine⟨?_,by omega,by omega⟩
  clear h1 h0 h fst fR fL
  refine callV (Z:=[4,5,6]) tabOK mixedOK Tryz.func29 rfl (by kernel_rfl) rfl rfl (by kernel_rfl) rfl ?_
  intro W0 w0 ρ0 hE
  conv=>whnf
  (repeat((first|refine step_w1 rfl rfl ?_|refine step_w2 rfl rfl ?_|refine step_i (by kernel_rfl) ?_|refine g_c (by assumption) ?_|refine g_o (op_pickF rfl (ev_ok rfl) (ev_ok rfl)) ?_|rw[bne_self_eq_false]|refine tst_ff t4 ?_|refine tst_tt t5 ?_|refine g_o (op_loadA rfl (ev_ok rfl) (tgt rfl) rfl (Nat.succ_ne_zero _) rfl) ?_|refine g_o (op_fieldA rfl (ev_ok rfl) (tgt rfl) rfl rfl (Nat.succ_ne_zero _) rfl) ?_|refine g_o (op_makeFunc rfl rfl rfl) ?_|refine⟨_,[],[],op_indexAgg rfl (ev_ok rfl) (l:=[.int .i64 _,.int .i64 _,.int .i64 _]) rfl (ev_ok rfl) (TabOK.get (t:=125) tabOK rfl) rfl (TabOK.get (t:=3) tabOK rfl) rfl rfl (by decide) (by decide) (v:=.int .i64 _) rfl rfl,nil_fk,nil_new, ?_⟩|rw[t1]|rw[t2]);conv=>whnf));(first|exact Recast.refl _|exact Frz.recast (Recast.refl _) rfl|(refine Frz.one rfl rfl ?_;skip)|(refine Frz.tup ?_;skip))
 ·rw[if_neg hF]
  have t5:decide (((F.m:Nat):Int)>(k:Int))=false:=decide_eq_false (by omega)
  refine⟨?_,by omega,by omega⟩
  clear h1 h0 h fst fR fL
  refine callV (Z:=[4,5,6]) tabOK mixedOK Tryz.func29 rfl (by kernel_rfl) rfl rfl (by kernel_rfl) rfl ?_
  intro W0 w0 ρ0 hE
  conv=>whnf
  (repeat((first|refine step_w1 rfl rfl ?_|refine step_w2 rfl rfl ?_|refine step_i (by kernel_rfl) ?_|refine g_c (by assumption) ?_|refine g_o (op_pickF rfl (ev_ok rfl) (ev_ok rfl)) ?_|rw[bne_self_eq_false]|refine tst_ff t4 ?_|refine tst_ff t5 ?_|refine g_o (op_loadA rfl (ev_ok rfl) (tgt rfl) rfl (Nat.succ_ne_zero _) rfl) ?_|refine g_o (op_fieldA rfl (ev_ok rfl) (tgt rfl) rfl rfl (Nat.succ_ne_zero _) rfl) ?_|refine g_o (op_makeFunc rfl rfl rfl) ?_|refine⟨_,[],[],op_indexAgg rfl (ev_ok rfl) (l:=[.int .i64 _,.int .i64 _,.int .i64 _]) rfl (ev_ok rfl) (TabOK.get (t:=125) tabOK rfl) rfl (TabOK.get (t:=3) tabOK rfl) rfl rfl (by decide) (by decide) (v:=.int .i64 _) rfl rfl,nil_fk,nil_new, ?_⟩|rw[t1]|rw[t2]);conv=>whnf));(first|exact Recast.refl _|exact Frz.recast (Recast.refl _) rfl|(refine Frz.one rfl rfl ?_;skip)|(refine Frz.tup ?_;skip))
end
end Go.Proofs.YtfjhnollamkdcaaGreatDoor
